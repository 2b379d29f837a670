import PyProof.Rows.All
import HandS.ForMost
import HandS.ForExc
import HandS.Wide
import HandS.Lambda
import HandS.ExcCtx
import HandS.IsInst
import HandS.Walk
import HandS.TupAny
import HandS.TupMul
import HandS.Style
import KE.GoesEnum
import KE.SortData
import HandS.Codes
import HandS.Strs
import HandS.SetFor
import PyProof.ExcBaseAll.ValueError
import HandS.Ends
import HandS.HotCalls
import HandS.ExcIs
import HandS.EndTab
import KE.GoesMore
import KE.GoesZip
import PyProof.EnumFor
import KE.KRevSl
import PyProof.Rows.IntBool
import HandS.Flow
import KE.RegKIsAll
import KE.RegKTryMore
import PySem.Challenge.RW_onestaken_k02_books_known
set_option Elab.async false
set_option linter.all false
set_option maxRecDepth 100000
/-! The D layer: deep values over the hand layer's abstract heap. -/
namespace DL
open PySem PySem.Spec PyProof.Rows L2

/-- deep values: a text is its codes; a list or tuple is its items; `obj`: an object of the abstract store; `cst`: a def, a class, a type -/
inductive D where
  | non | bl (b : Bool) | int (i : Int) | str (s : List Nat) | tup (ds : List D) | lst (ds : List D) | obj (a : Addr) | cst (n : Nat) | scr (ns : List Int)

/-- the mutable objects -/
inductive MO where
  | drum
  | lst (ds : List D)
abbrev Sto := Addr → Option MO
/-- constants by number; sc: the script's list where it is an object of the module's own -/
structure Cst where
  f : Nat → V
  sc : Addr → List Int → Prop
instance : CoeFun Cst fun _ => Nat → V := ⟨Cst.f⟩
/-- what a law's own top fixes: the tables of code objects, the classes of errors and the constants (defs, classes, types) by number -/
structure Tp where
  tabs : List (Addr × Str)
  cl : Nat → Value
  cv : Cst
/-- the addresses of frozen objects; the constants -/
structure Fz where
  P : Addr → Prop
  cv : Cst
instance : CoeFun Fz fun _ => Addr → Prop := ⟨Fz.P⟩
def Fz.add (F : Fz) (p : Addr) : Fz := ⟨fun a => F a ∨ a = p, F.cv⟩

def sOf (s : List Nat) : Str := ⟨s.toArray⟩
def sOk (s : List Nat) : Prop := (∀ c ∈ s, c < 1114112) ∧ s.length ≤ 16777216

mutual
inductive Rep (F : Fz) (H : Hp) : D → V → Prop
  | non : Rep F H .non .non
  | bl (b : Bool) : Rep F H (.bl b) (.bl b)
  | int (i : Int) : Rep F H (.int i) (.int i)
  | str {s : List Nat} : sOk s → Rep F H (.str s) (.str (sOf s))
  | tup {a : Addr} {xs : List V} {ds : List D} : F a → H a = some (.tup xs) → RepL F H ds xs → ds.length ≤ 16777216 → Rep F H (.tup ds) (.ref a)
  | lst {a : Addr} {xs : List V} {ds : List D} : F a → H a = some (.lst xs) → RepL F H ds xs → ds.length ≤ 16777216 → Rep F H (.lst ds) (.ref a)
  | scr {a : Addr} {ns : List Int} : F a → Rd H a (.lst (ns.map V.int)) → ns.length ≤ 16777216 → Rep F H (.scr ns) (.ref a)
  | scK {a : Addr} {ns : List Int} : F.cv.sc a ns → ns.length ≤ 16777216 → Rep F H (.scr ns) (.ref a)
  | obj (a : Addr) : Rep F H (.obj a) (.ref a)
  | cst (n : Nat) : Rep F H (.cst n) (F.cv n)
inductive RepL (F : Fz) (H : Hp) : List D → List V → Prop
  | nil : RepL F H [] []
  | cons {d : D} {v : V} {ds : List D} {vs : List V} : Rep F H d v → RepL F H ds vs → RepL F H (d :: ds) (v :: vs)
end

def MOk (F : Fz) (H : Hp) (a : Addr) : MO → Prop
  | .drum => ∃ g n : Int, H a = some (.lst [.int g, .int n]) ∧ 0 ≤ g ∧ 0 ≤ n ∧ n < 4294967296
  | .lst ds => ∃ xs, H a = some (.lst xs) ∧ RepL F H ds xs ∧ ds.length ≤ 16777216
/-- the ghost state fits the abstract heap; T: the tables of code objects -/
structure Ok (T : Tp) (F : Fz) (S : Sto) (H : Hp) : Prop where
  cv : F.cv = T.cv
  fz : ∀ a, F a → S a = none ∧ ∃ o, H a = some o ∧ ∀ ps, o ≠ .tbl ps
  st : ∀ a m, S a = some m → MOk F H a m
  tb : LamX.Tabs T.tabs H
/-- what one step keeps: what was there and is no object of the store stays, stays out of the store, and is frozen only if it was -/
structure Ext (F : Fz) (S : Sto) (H : Hp) (F' : Fz) (S' : Sto) (H' : Hp) : Prop where
  keep : ∀ a o, H a = some o → (∀ ps, o ≠ .tbl ps) → S a = none → H' a = some o
  mt : ∀ a o, H a = some o → (∀ ps, o ≠ .tbl ps) → S a = none → S' a = none
  new : ∀ a o, H a = some o → (∀ ps, o ≠ .tbl ps) → S a = none → F' a → F a
  sub : ∀ a, F a → F' a
  cv : F'.cv = F.cv

section
variable {T : Tp} {F F' F'' : Fz} {S S' S'' : Sto} {H H' H'' : Hp}
theorem Ext.refl : Ext F S H F S H := ⟨fun _ _ h _ _ => h, fun _ _ _ _ z => z, fun _ _ _ _ _ f => f, fun _ h => h, rfl⟩
theorem Ext.trans (x : Ext F S H F' S' H') (y : Ext F' S' H' F'' S'' H'') : Ext F S H F'' S'' H'' :=
  ⟨fun a o h n z => y.keep a o (x.keep a o h n z) n (x.mt a o h n z), fun a o h n z => y.mt a o (x.keep a o h n z) n (x.mt a o h n z),
    fun a o h n z f => x.new a o h n z (y.new a o (x.keep a o h n z) n (x.mt a o h n z) f), fun a h => y.sub a (x.sub a h), y.cv.trans x.cv⟩

mutual
theorem Rep.ext (ok : Ok T F S H) (x : Ext F S H F' S' H') : ∀ (d : D) (v : V), Rep F H d v → Rep F' H' d v
  | .non, _, h => by cases h; exact .non
  | .bl b, _, h => by cases h; exact .bl b
  | .int i, _, h => by cases h; exact .int i
  | .str s, _, h => by cases h with | str k => exact .str k
  | .obj a, _, h => by cases h; exact .obj a
  | .cst w, _, h => by cases h; rw [← x.cv]; exact .cst w
  | .tup ds, _, h => by
    cases h with
    | tup f e r l => exact .tup (x.sub _ f) (x.keep _ _ e (fun _ z => by cases z) (ok.fz _ f).1) (RepL.ext ok x ds _ r) l
  | .lst ds, _, h => by
    cases h with
    | lst f e r l => exact .lst (x.sub _ f) (x.keep _ _ e (fun _ z => by cases z) (ok.fz _ f).1) (RepL.ext ok x ds _ r) l
  | .scr ns, _, h => by
    cases h with
    | scr f e l => exact .scr (x.sub _ f) (e.imp (fun e => x.keep _ _ e (fun _ z => by cases z) (ok.fz _ f).1) fun ⟨o, e⟩ => ⟨o, x.keep _ _ e (fun _ z => by cases z) (ok.fz _ f).1⟩) l
    | scK h l => exact .scK (by rw [x.cv]; exact h) l
theorem RepL.ext (ok : Ok T F S H) (x : Ext F S H F' S' H') : ∀ (ds : List D) (vs : List V), RepL F H ds vs → RepL F' H' ds vs
  | [], _, h => by cases h; exact .nil
  | d :: ds, _, h => by
    cases h with
    | cons a b => exact .cons (Rep.ext ok x d _ a) (RepL.ext ok x ds _ b)
end
theorem RepL.length : ∀ {ds : List D} {vs : List V}, RepL F H ds vs → ds.length = vs.length
  | [], _, h => by cases h; rfl
  | d :: ds, _, h => by
    cases h with
    | cons a b => rw [List.length_cons, List.length_cons, RepL.length b]
theorem RepL.get : ∀ {ds : List D} {vs : List V} {i : Nat} {d : D}, RepL F H ds vs → ds[i]? = some d → ∃ v, vs[i]? = some v ∧ Rep F H d v
  | [], _, _, _, _, e => by simp at e
  | d :: ds, _, 0, _, h, e => by
    cases h with
    | cons a b => simp at e; subst e; exact ⟨_, rfl, a⟩
  | d :: ds, _, i + 1, _, h, e => by
    cases h with
    | cons a b =>
      obtain ⟨v, h1, h2⟩ := RepL.get (i := i) b (by simpa using e)
      exact ⟨v, by simpa using h1, h2⟩
theorem RepL.getV : ∀ {ds : List D} {vs : List V} {i : Nat} {v : V}, RepL F H ds vs → vs[i]? = some v → ∃ d, ds[i]? = some d ∧ Rep F H d v
  | [], _, _, _, h, e => by cases h; simp at e
  | d :: ds, _, 0, _, h, e => by
    cases h with
    | cons a b => simp at e; subst e; exact ⟨_, rfl, a⟩
  | d :: ds, _, i + 1, _, h, e => by
    cases h with
    | cons a b =>
      obtain ⟨v, h1, h2⟩ := RepL.getV (i := i) b (by simpa using e)
      exact ⟨v, by simpa using h1, h2⟩
theorem RepL.append : ∀ {ds es : List D} {vs ws : List V}, RepL F H ds vs → RepL F H es ws → RepL F H (ds ++ es) (vs ++ ws)
  | [], _, _, _, h, k => by cases h; exact k
  | d :: ds, _, _, _, h, k => by
    cases h with
    | cons a b => exact .cons a (RepL.append b k)
theorem RepL.take : ∀ {ds : List D} {vs : List V} (n : Nat), RepL F H ds vs → RepL F H (ds.take n) (vs.take n)
  | _, _, 0, _ => .nil
  | [], _, n + 1, h => by cases h; exact .nil
  | d :: ds, _, n + 1, h => by
    cases h with
    | cons a b => exact .cons a (RepL.take n b)
theorem RepL.drop : ∀ {ds : List D} {vs : List V} (n : Nat), RepL F H ds vs → RepL F H (ds.drop n) (vs.drop n)
  | _, _, 0, h => h
  | [], _, n + 1, h => by cases h; exact .nil
  | d :: ds, _, n + 1, h => by
    cases h with
    | cons a b => exact RepL.drop n b
theorem RepL.reverse : ∀ {ds : List D} {vs : List V}, RepL F H ds vs → RepL F H ds.reverse vs.reverse
  | [], _, h => by cases h; exact .nil
  | d :: ds, _, h => by
    cases h with
    | cons a b => rw [List.reverse_cons, List.reverse_cons]; exact RepL.append (RepL.reverse b) (.cons a .nil)
theorem RepL.set {d : D} {v : V} (r : Rep F H d v) : ∀ {ds : List D} {vs : List V} (i : Nat), RepL F H ds vs → RepL F H (ds.set i d) (vs.set i v)
  | [], _, _, h => by cases h; exact .nil
  | _ :: ds, _, 0, h => by
    cases h with
    | cons a b => exact .cons r b
  | _ :: ds, _, i + 1, h => by
    cases h with
    | cons a b => exact .cons a (RepL.set r i b)

/-! ### the slots -/
abbrev DEnv := List (Option D)
structure EnvRel (F : Fz) (H : Hp) (σ : L2.St) (env : DEnv) : Prop where
  len : σ.length = env.length
  get : ∀ (i : Nat) (d : D), env[i]? = some (some d) → ∃ v, σ[i]? = some (some v) ∧ Rep F H d v
theorem EnvRel.ext {σ : L2.St} {env : DEnv} (ok : Ok T F S H) (x : Ext F S H F' S' H') (r : EnvRel F H σ env) : EnvRel F' H' σ env :=
  ⟨r.len, fun i d e => by
    obtain ⟨v, h1, h2⟩ := r.get i d e
    exact ⟨v, h1, Rep.ext ok x d v h2⟩⟩
theorem EnvRel.set {σ : L2.St} {env : DEnv} {d : D} {v : V} (r : EnvRel F H σ env) (i : Nat) (q : Rep F H d v) : EnvRel F H (σ.set i (some v)) (env.set i (some d)) := by
  refine ⟨by rw [List.length_set, List.length_set]; exact r.len, fun j d' e => ?_⟩
  by_cases hj : i = j
  · subst hj
    by_cases hl : i < env.length
    · rw [List.getElem?_set_self hl] at e
      cases e
      exact ⟨v, by rw [List.getElem?_set_self (by rw [r.len]; exact hl)], q⟩
    · rw [List.getElem?_eq_none (by rw [List.length_set]; omega)] at e; cases e
  · rw [List.getElem?_set_ne hj] at e
    rw [List.getElem?_set_ne hj]
    exact r.get j d' e
theorem EnvRel.clear {σ : L2.St} {env : DEnv} (r : EnvRel F H σ env) (i : Nat) : EnvRel F H (σ.set i none) (env.set i none) := by
  refine ⟨by rw [List.length_set, List.length_set]; exact r.len, fun j d' e => ?_⟩
  by_cases hj : i = j
  · subst hj
    by_cases hl : i < env.length
    · rw [List.getElem?_set_self hl] at e; cases e
    · rw [List.getElem?_eq_none (by rw [List.length_set]; omega)] at e; cases e
  · rw [List.getElem?_set_ne hj] at e
    rw [List.getElem?_set_ne hj]
    exact r.get j d' e

/-! ### a new object -/
theorem Ext.laid {o : HO} {p : Addr} (hp : H p = none) : Ext F S H (F.add p) S (upd H p o) :=
  ⟨fun a o' h _ _ => by rw [upd_ne (ne_of_none h hp)]; exact h, fun _ _ _ _ z => z, fun a o' h _ _ f => f.elim _root_.id fun e => absurd e (ne_of_none h hp), fun _ h => .inl h, rfl⟩
theorem tabs_upd {o : HO} {p : Addr} (hp : H p = none) (t : LamX.Tabs T.tabs H) : LamX.Tabs T.tabs (upd H p o) := t.ext fun b u e => by
  rw [upd_ne (ne_of_none e hp)]; exact e
theorem MOk.ext {a : Addr} {m : MO} (ok : Ok T F S H) (x : Ext F S H F' S' H') (h : MOk F H a m) (e : H' a = H a) : MOk F' H' a m := by
  cases m with
  | drum => obtain ⟨g, n, h1, h2⟩ := h; exact ⟨g, n, e.trans h1, h2⟩
  | lst ds => obtain ⟨xs, h1, h2, h3⟩ := h; exact ⟨xs, e.trans h1, RepL.ext ok x ds xs h2, h3⟩
theorem MOk.some {a : Addr} {m : MO} (h : MOk F H a m) : ∃ o, H a = some o := by
  cases m with
  | drum => obtain ⟨g, n, h1, h2⟩ := h; exact ⟨_, h1⟩
  | lst ds => obtain ⟨xs, h1, h2⟩ := h; exact ⟨_, h1⟩
theorem Ok.free (ok : Ok T F S H) {p : Addr} (hp : H p = none) : S p = none := by
  cases e : S p with
  | none => rfl
  | some m =>
    obtain ⟨o, q⟩ := (ok.st p m e).some
    rw [hp] at q; cases q
/-- a new object that is frozen at once -/
theorem Ok.laid {o : HO} {p : Addr} (ok : Ok T F S H) (hp : H p = none) (n : ∀ ps, o ≠ .tbl ps) : Ok T (F.add p) S (upd H p o) := by
  refine ⟨ok.cv, fun a h => ?_, fun a m h => ?_, tabs_upd hp ok.tb⟩
  · rcases h with h | h
    · obtain ⟨h1, o', h2, h3⟩ := ok.fz a h
      exact ⟨h1, o', by rw [upd_ne (ne_of_none h2 hp)]; exact h2, h3⟩
    · subst h
      exact ⟨ok.free hp, o, upd_same, n⟩
  · have k := ok.st a m h
    obtain ⟨o', q⟩ := k.some
    exact MOk.ext ok (Ext.laid hp) k (upd_ne (ne_of_none q hp))
theorem Rep.newTup {p : Addr} {xs : List V} {ds : List D} (ok : Ok T F S H) (hp : H p = none) (r : RepL F H ds xs) (hl : ds.length ≤ 16777216) : Rep (F.add p) (upd H p (.tup xs)) (.tup ds) (.ref p) :=
  .tup (.inr rfl) upd_same (RepL.ext ok (Ext.laid hp) ds xs r) hl
theorem Rep.newLst {p : Addr} {xs : List V} {ds : List D} (ok : Ok T F S H) (hp : H p = none) (r : RepL F H ds xs) (hl : ds.length ≤ 16777216) : Rep (F.add p) (upd H p (.lst xs)) (.lst ds) (.ref p) :=
  .lst (.inr rfl) upd_same (RepL.ext ok (Ext.laid hp) ds xs r) hl
end

/-! ### readings over deep values -/
/-- an error: its class, what it bears -/
structure Er where
  id : Nat
  arg : Option D
abbrev DK := D → Sto → Prop
abbrev RK := Er → Sto → Prop
abbrev ET := DEnv → Sto → DK → RK → Prop
abbrev AT := DEnv → Sto → (List D → Sto → Prop) → RK → Prop
abbrev BT := DEnv → Sto → (Bool → Sto → Prop) → RK → Prop
structure DEnds where
  nx : DEnv → Sto → Prop
  rt : DK
  er : Er → DEnv → Sto → Prop
  bk : DEnv → Sto → Prop
  ct : DEnv → Sto → Prop
abbrev DS := DEnv → Sto → DEnds → Prop
/-- weaker ends -/
structure DEnds.Le (A B : DEnds) : Prop where
  nx : ∀ e S, A.nx e S → B.nx e S
  rt : ∀ d S, A.rt d S → B.rt d S
  er : ∀ x e S, A.er x e S → B.er x e S
  bk : ∀ e S, A.bk e S → B.bk e S
  ct : ∀ e S, A.ct e S → B.ct e S
def Mon (u : ET) : Prop := ∀ env S Q Q' R R', (∀ d S, Q d S → Q' d S) → (∀ e S, R e S → R' e S) → u env S Q R → u env S Q' R'
def MonA (u : AT) : Prop := ∀ env S Q Q' R R', (∀ d S, Q d S → Q' d S) → (∀ e S, R e S → R' e S) → u env S Q R → u env S Q' R'
def MonB (u : BT) : Prop := ∀ env S Q Q' R R', (∀ d S, Q d S → Q' d S) → (∀ e S, R e S → R' e S) → u env S Q R → u env S Q' R'
def MonS (u : DS) : Prop := ∀ env S A B, DEnds.Le A B → u env S A → u env S B

def ErOk (T : Tp) (F : Fz) (H : Hp) (e : Er) (cls : Value) (da : Option Addr) : Prop := cls = T.cl e.id ∧ match e.arg with
  | none => da = none
  | some x => ∃ p v, da = some p ∧ F p ∧ H p = some (.xd [("limit", v)]) ∧ Rep F H x v
section
variable (T : Tp) (F : Fz) (S : Sto) (H : Hp)
def okK (Q : VK) : DK := fun d S' => ∀ v H' F', Ok T F' S' H' → Ext F S H F' S' H' → Rep F' H' d v → Q v H'
def okA (Q : List V → Hp → Prop) : List D → Sto → Prop := fun ds S' => ∀ vs H' F', Ok T F' S' H' → Ext F S H F' S' H' → RepL F' H' ds vs → Q vs H'
def okB (Q : Bool → Hp → Prop) : Bool → Sto → Prop := fun b S' => ∀ H' F', Ok T F' S' H' → Ext F S H F' S' H' → Q b H'
def erK (σ : L2.St) (W : WX) : RK := fun e S' => ∀ cls da H' F', Ok T F' S' H' → Ext F S H F' S' H' → ErOk T F' H' e cls da → W cls da σ H'
def erE (E : XK) : RK := fun e S' => ∀ cls da H' F', Ok T F' S' H' → Ext F S H F' S' H' → ErOk T F' H' e cls da → E cls da H'
def endK (W : WX) (D : Ends) : DEnds where
  nx := fun env' S' => ∀ σ' H' F', EnvRel F' H' σ' env' → Ok T F' S' H' → Ext F S H F' S' H' → D.nx σ' H'
  rt := okK T F S H D.rt
  er := fun e env' S' => ∀ cls da σ' H' F', EnvRel F' H' σ' env' → Ok T F' S' H' → Ext F S H F' S' H' → ErOk T F' H' e cls da → W cls da σ' H'
  bk := fun env' S' => ∀ σ' H' F', EnvRel F' H' σ' env' → Ok T F' S' H' → Ext F S H F' S' H' → D.bk σ' H'
  ct := fun env' S' => ∀ σ' H' F', EnvRel F' H' σ' env' → Ok T F' S' H' → Ext F S H F' S' H' → D.ct σ' H'
end
def up (T : Tp) (W : WX) (u : ET) : TE := fun σ H Q => ∃ env S F, EnvRel F H σ env ∧ Ok T F S H ∧ u env S (okK T F S H Q) (erK T F S H σ W)
def upA (T : Tp) (W : WX) (u : AT) : TA := fun σ H Q => ∃ env S F, EnvRel F H σ env ∧ Ok T F S H ∧ u env S (okA T F S H Q) (erK T F S H σ W)
def upB (T : Tp) (W : WX) (u : BT) : TT := fun σ H Q => ∃ env S F, EnvRel F H σ env ∧ Ok T F S H ∧ u env S (okB T F S H Q) (erK T F S H σ W)
def upS (T : Tp) (W : WX) (u : DS) : TS := fun D σ H => ∃ env S F, EnvRel F H σ env ∧ Ok T F S H ∧ u env S (endK T F S H W D)
section
variable {T : Tp} {F F' : Fz} {S S' : Sto} {H H' : Hp} {σ : L2.St} {W : WX}
theorem okK.back {Q : VK} (x : Ext F S H F' S' H') : ∀ d S'', okK T F S H Q d S'' → okK T F' S' H' Q d S'' := fun d S'' h v H'' F'' o e r => h v H'' F'' o (x.trans e) r
theorem okA.back {Q : List V → Hp → Prop} (x : Ext F S H F' S' H') : ∀ d S'', okA T F S H Q d S'' → okA T F' S' H' Q d S'' := fun d S'' h v H'' F'' o e r => h v H'' F'' o (x.trans e) r
theorem okB.back {Q : Bool → Hp → Prop} (x : Ext F S H F' S' H') : ∀ d S'', okB T F S H Q d S'' → okB T F' S' H' Q d S'' := fun d S'' h H'' F'' o e => h H'' F'' o (x.trans e)
theorem erK.back (x : Ext F S H F' S' H') : ∀ e S'', erK T F S H σ W e S'' → erK T F' S' H' σ W e S'' := fun e S'' h c da H'' F'' o y z => h c da H'' F'' o (x.trans y) z
theorem endK.back {D : Ends} (x : Ext F S H F' S' H') : DEnds.Le (endK T F S H W D) (endK T F' S' H' W D) :=
  ⟨fun _ _ h σ' H'' F'' r o e => h σ' H'' F'' r o (x.trans e), fun d S h => okK.back x d S h, fun _ _ _ h c da σ' H'' F'' r o e z => h c da σ' H'' F'' r o (x.trans e) z,
    fun _ _ h σ' H'' F'' r o e => h σ' H'' F'' r o (x.trans e), fun _ _ h σ' H'' F'' r o e => h σ' H'' F'' r o (x.trans e)⟩
end

/-! ### the judgements -/
structure JE (T : Tp) (X : Cx) (e : Expr) (u : ET) : Prop where
  mon : Mon u
  run : ∀ W, L2N.Takes X W → PE X e (up T W u)
structure JA (T : Tp) (X : Cx) (es : List Expr) (u : AT) : Prop where
  mon : MonA u
  run : ∀ W, L2N.Takes X W → PA X es (upA T W u)
structure JT (T : Tp) (X : Cx) (e : Expr) (u : BT) : Prop where
  mon : MonB u
  run : ∀ W, L2N.Takes X W → PT X e (upB T W u)
structure JW (T : Tp) (X : Cx) (e : Expr) (u : BT) : Prop where
  mon : MonB u
  run : ∀ W, L2N.Takes X W → PW X e (upB T W u)
structure JS (T : Tp) (X : Cx) (st : Stmt) (u : DS) : Prop where
  mon : MonS u
  run : ∀ W, L2N.Takes X W → PassesOwn (model X.prog X.w) X.A X.env X.xe → PS X st (upS T W u)
structure JSs (T : Tp) (X : Cx) (st : List Stmt) (u : DS) : Prop where
  mon : MonS u
  run : ∀ W, L2N.Takes X W → PassesOwn (model X.prog X.w) X.A X.env X.xe → PSs X st (upS T W u)
theorem _root_.L2.PE.weak {X : Cx} {e : Expr} {t t' : TE} (h : PE X e t) (w : ∀ σ H Q, t' σ H Q → t σ H Q) : PE X e t' := ⟨fun pins s σ H Q I q => h.run pins s σ H Q I (w σ H Q q)⟩
theorem _root_.L2.PA.weak {X : Cx} {e : List Expr} {t t' : TA} (h : PA X e t) (w : ∀ σ H Q, t' σ H Q → t σ H Q) : PA X e t' := ⟨fun pos pins s σ H Q I q => h.run pos pins s σ H Q I (w σ H Q q)⟩
theorem _root_.L2.PT.weak {X : Cx} {e : Expr} {t t' : TT} (h : PT X e t) (w : ∀ σ H Q, t' σ H Q → t σ H Q) : PT X e t' := ⟨fun pins s σ H Q I q => h.run pins s σ H Q I (w σ H Q q)⟩
theorem _root_.L2.PW.weak {X : Cx} {e : Expr} {t t' : TT} (h : PW X e t) (w : ∀ σ H Q, t' σ H Q → t σ H Q) : PW X e t' := ⟨fun wh pins s σ H Q I q => h.run wh pins s σ H Q I (w σ H Q q)⟩
theorem _root_.L2.PS.weak {X : Cx} {e : Stmt} {t t' : TS} (h : PS X e t) (w : ∀ D σ H, t' D σ H → t D σ H) : PS X e t' := ⟨fun pins s σ H D I q => h.run pins s σ H D I (w D σ H q)⟩
theorem _root_.L2.PSs.weak {X : Cx} {e : List Stmt} {t t' : TS} (h : PSs X e t) (w : ∀ D σ H, t' D σ H → t D σ H) : PSs X e t' := ⟨fun pins s σ H D I q => h.run pins s σ H D I (w D σ H q)⟩
end DL

namespace DL
open PySem PySem.Spec PyProof.Rows L2

/-- what an operation on values gives: a value, a value under a condition, nothing -/
inductive PR where
  | ok (z : D) | pre (p : Prop) (z : D) | no
def PR.wp : PR → (D → Prop) → Prop
  | .ok z, Q => Q z
  | .pre p z, Q => p ∧ Q z
  | .no, _ => False
theorem PR.mono {r : PR} {Q Q' : D → Prop} (h : ∀ d, Q d → Q' d) (w : r.wp Q) : r.wp Q' := by
  cases r with
  | ok z => exact h _ w
  | pre p z => exact ⟨w.1, h _ w.2⟩
  | no => exact w
abbrev O2 := Sto → D → D → PR
abbrev O1 := Sto → D → PR
abbrev OL := Sto → List D → PR

def lstOf (S : Sto) : D → Option (List D)
  | .lst ds => some ds
  | .obj a => (match S a with | some (.lst ds) => some ds | _ => none)
  | _ => none
def seqOf (S : Sto) : D → Option (List D)
  | .tup ds => some ds
  | .lst ds => some ds
  | .obj a => (match S a with | some (.lst ds) => some ds | _ => none)
  | _ => none
theorem RepL.ints {F : Fz} {H : Hp} : ∀ ns : List Int, RepL F H (ns.map D.int) (ns.map V.int)
  | [] => .nil
  | n :: r => .cons (.int n) (RepL.ints r)

def rD (T : Tp) (op : O2) : R2 := fun v1 v2 H Q => ∃ F S x y, Ok T F S H ∧ Rep F H x v1 ∧ Rep F H y v2 ∧ (op S x y).wp fun z => okK T F S H Q z S
def OpD (T : Tp) (X : Cx) (f : Value → Value → Sem Value) (op : O2) : Prop := OpR X f (rD T op)

section
variable {T : Tp} {X : Cx} {F F' : Fz} {S S' : Sto} {H H' : Hp} {σ : L2.St} {W : WX}
theorem okK.flat {Q : VK} {z : D} {v : V} (ok : Ok T F S H) (h : okK T F S H Q z S) (r : Rep F H z v) : Q v H := h v H F ok Ext.refl r
theorem okK.newL {Q : VK} {ds : List D} {xs : List V} (ok : Ok T F S H) (h : okK T F S H Q (.lst ds) S) (r : RepL F H ds xs) (hl : ds.length ≤ 16777216) : ∀ p, H p = none → Q (.ref p) (upd H p (.lst xs)) :=
  fun p hp => h _ _ _ (ok.laid hp fun _ z => by cases z) (Ext.laid hp) (Rep.newLst ok hp r hl)
theorem okK.newT {Q : VK} {ds : List D} {xs : List V} (ok : Ok T F S H) (h : okK T F S H Q (.tup ds) S) (r : RepL F H ds xs) (hl : ds.length ≤ 16777216) : ∀ p, H p = none → Q (.ref p) (upd H p (.tup xs)) :=
  fun p hp => h _ _ _ (ok.laid hp fun _ z => by cases z) (Ext.laid hp) (Rep.newTup ok hp r hl)
theorem list_of (ok : Ok T F S H) {d : D} {v : V} {ds : List D} (r : Rep F H d v) (e : lstOf S d = some ds) : ∃ a xs, v = .ref a ∧ H a = some (.lst xs) ∧ RepL F H ds xs ∧ ds.length ≤ 16777216 := by
  cases r with
  | @lst a xs ds' f h q l =>
    have e1 : ds' = ds := Option.some.inj e
    subst e1
    exact ⟨a, xs, rfl, h, q, l⟩
  | obj a =>
    have e : (match S a with | some (.lst ds) => some ds | _ => none) = some ds := e
    split at e
    · rename_i ds' hs
      cases e
      obtain ⟨xs, h1, h2, h3⟩ := ok.st a _ hs
      exact ⟨a, xs, rfl, h1, h2, h3⟩
    · cases e
  | _ => cases e
theorem seq_of (ok : Ok T F S H) {K : PySem.W.Frag} {d : D} {v : V} {ds : List D} (r : Rep F H d v) (e : seqOf S d = some ds) : ∃ a xs, v = .ref a ∧ (SqL K H a xs ∨ SqT K H a xs) ∧ RepL F H ds xs ∧ ds.length ≤ 16777216 := by
  cases r with
  | @tup a xs ds' f h q l =>
    have e1 : ds' = ds := Option.some.inj e
    subst e1
    exact ⟨a, xs, rfl, .inr (.inl (.inl h)), q, l⟩
  | @lst a xs ds' f h q l =>
    obtain ⟨a, xs, e1, h, q⟩ := list_of ok (Rep.lst f h q l) e
    exact ⟨a, xs, e1, .inl (.inl (.inl h)), q⟩
  | obj a =>
    obtain ⟨a, xs, e1, h, q⟩ := list_of ok (Rep.obj a) e
    exact ⟨a, xs, e1, .inl (.inl (.inl h)), q⟩
  | _ => cases e

/-! ### names, constants -/
def dV (i : Nat) : ET := fun env S Q _ => match env[i]? with
  | some (some d) => Q d S
  | _ => False
def dC (d : D) : ET := fun _ S Q _ => Q d S
theorem mon_V {i : Nat} : Mon (dV i) := fun env S Q Q' R R' h _ w => by
  unfold dV at w ⊢
  split at w
  · exact h _ _ w
  · exact w
theorem mon_C {d : D} : Mon (dC d) := fun env S Q Q' R R' h _ w => h _ _ w
theorem je_var (i : Nat) {x : Str} {pos : Pos} (hN : X.N[i]? = some x := by rfl) (hv : Vis X.env.scope x := by first | exact Or.inl rfl | exact Or.inr (Or.inl rfl) | exact Or.inr (Or.inr rfl)) (hd : (x == ("__debug__" : Str)) = false := by decide)
    (hcd : (x == ("__classdict__" : Str)) = false := by decide) : JE T X (.Name x pos) (dV i) := by
  refine ⟨mon_V, fun W _ => (pv i hN hv hd hcd).weak ?_⟩
  rintro σ H Q ⟨env, S, F, er, ok, h⟩
  unfold dV at h
  split at h
  · rename_i d e
    obtain ⟨v, h1, h2⟩ := er.get i d e
    exact ⟨v, h1, okK.flat ok h h2⟩
  · exact h.elim
theorem je_const {e : Expr} {v : V} {d : D} (hp : PE X e (tC v)) (hr : ∀ (F : Fz) H, F.cv = T.cv → Rep F H d v) : JE T X e (dC d) := by
  refine ⟨mon_C, fun W _ => hp.weak ?_⟩
  rintro σ H Q ⟨env, S, F, er, ok, h⟩
  exact okK.flat ok h (hr F H ok.cv)
theorem je_int {i j pos} : JE T X (.Constant (.int i) j pos) (dC (.int i)) := je_const pe_int fun _ _ _ => .int i
theorem je_bl {b j pos} : JE T X (.Constant (.bool b) j pos) (dC (.bl b)) := je_const pe_bl fun _ _ _ => .bl b
theorem je_non {j pos} : JE T X (.Constant .none j pos) (dC .non) := je_const pe_non fun _ _ _ => .non
theorem sOf_toList {x : Str} {s : List Nat} (h : x.cps.toList = s) : sOf s = x := by
  subst h
  simp [sOf]
def sOkB (s : List Nat) : Bool := (s.all fun c => decide (c < 1114112)) && decide (s.length ≤ 16777216)
theorem sOk_of {s : List Nat} (h : sOkB s = true) : sOk s := by
  unfold sOkB at h
  simp only [Bool.and_eq_true, List.all_eq_true, decide_eq_true_eq] at h
  exact h
theorem je_str {x : Str} {j pos} (s : List Nat) (h : x.cps.toList = s := by decide +kernel) (h2 : sOkB s = true := by decide +kernel) : JE T X (.Constant (.str x) j pos) (dC (.str s)) :=
  je_const pe_str fun _ _ _ => by rw [← sOf_toList h]; exact .str (sOk_of h2)
/-- a def, a class as a value -/
theorem je_cst {x : Str} {pos : Pos} {a : Addr} (n : Nat) (hm : X.mg x = some (.ref a)) (hn : T.cv n = .ref a) (hg : Gl X x := by rfl) (hd : (x == ("__debug__" : Str)) = false := by decide) : JE T X (.Name x pos) (dC (.cst n)) := je_const (pe_glob (v := .ref a) hg hm rfl hd) fun F _ e => by rw [← hn, ← e]; exact .cst n
theorem je_gint {x : Str} {pos : Pos} {i : Int} {t : Tok} (hm : X.mg x = some (.int i t)) (hg : Gl X x := by rfl) (hd : (x == ("__debug__" : Str)) = false := by decide) : JE T X (.Name x pos) (dC (.int i)) := je_const (pe_glob (v := .int i) hg hm ⟨t, rfl⟩ hd) fun _ _ _ => .int i
theorem je_gstr {x : Str} {pos : Pos} {y : Str} {t : Tok} (s : List Nat) (hm : X.mg x = some (.str y t)) (h : y.cps.toList = s := by decide +kernel) (h2 : sOkB s = true := by decide +kernel) (hg : Gl X x := by rfl) (hd : (x == ("__debug__" : Str)) = false := by decide) :
    JE T X (.Name x pos) (dC (.str s)) := je_const (pe_glob (v := .str y) hg hm ⟨t, rfl⟩ hd) fun _ _ _ => by rw [← sOf_toList h]; exact .str (sOk_of h2)
/-- a built-in type as a value -/
theorem je_ty {x : Str} {n : String} {pos : Pos} (k : Nat) (hk : T.cv k = .ty n) (hm : X.mg x = none) (hv : bootBuiltins x = some (.type n)) (hg : Gl X x := by rfl) (hn : x ≠ "__name__" := by decide) (hd : (x == ("__debug__" : Str)) = false := by decide) : JE T X (.Name x pos) (dC (.cst k)) :=
  je_const (pe_bltn (v := .ty n) hg hm hv rfl hn hd) fun F _ e => by rw [← hk, ← e]; exact .cst k

/-! ### two operands -/
def dB (op : O2) (ua ub : ET) : ET := fun env S Q R => ua env S (fun x S1 => ub env S1 (fun y S2 => (op S2 x y).wp fun z => Q z S2) R) R
theorem mon_B {op : O2} {ua ub : ET} (ha : Mon ua) (hb : Mon ub) : Mon (dB op ua ub) := fun env S Q Q' R R' h hR w =>
  ha _ _ _ _ _ _ (fun x S1 w1 => hb _ _ _ _ _ _ (fun y S2 w2 => PR.mono (fun d => h d S2) w2) hR w1) hR w
/-- the reading of two operands, by values -/
theorem up_B {op : O2} {ua ub : ET} (ha : Mon ua) (hb : Mon ub) {Q : VK} (h : up T W (dB op ua ub) σ H Q) : tOp (rD T op) (up T W ua) (up T W ub) σ H Q := by
  obtain ⟨env, S, F, er, ok, h⟩ := h
  refine ⟨env, S, F, er, ok, ha _ _ _ _ _ _ (fun x S1 w1 v1 H1 F1 ok1 ex1 r1 => ?_) (fun _ _ z => z) h⟩
  refine ⟨env, S1, F1, er.ext ok ex1, ok1, hb _ _ _ _ _ _ (fun y S2 w2 v2 H2 F2 ok2 ex2 r2 => ?_) (fun e S' z => erK.back ex1 e S' z) w1⟩
  exact ⟨F2, S2, x, y, ok2, Rep.ext ok1 ex2 x v1 r1, r2, PR.mono (fun z q => okK.back (ex1.trans ex2) z S2 q) w2⟩
theorem je_bin {a b : Expr} {o : Operator} {op : O2} {ua ub : ET} {pos : Pos} (ho : OpD T X (binaryOp o) op) (ha : JE T X a ua) (hb : JE T X b ub) : JE T X (.BinOp a o b pos) (dB op ua ub) :=
  ⟨mon_B ha.mon hb.mon, fun W tk => (pe_op ho (ha.run W tk) (hb.run W tk)).weak fun _ _ _ h => up_B ha.mon hb.mon h⟩
theorem je_cmp {a b : Expr} {o : CmpOp} {op : O2} {ua ub : ET} {pos : Pos} (ho : OpD T X (compareOp o) op) (ha : JE T X a ua) (hb : JE T X b ub) (hm : behindInMarks o b = false := by first | exact nomark _ | rfl) : JE T X (.Compare a [o] [b] pos) (dB op ua ub) :=
  ⟨mon_B ha.mon hb.mon, fun W tk => (pe_cmpR ho (ha.run W tk) (hb.run W tk) hm).weak fun _ _ _ h => up_B ha.mon hb.mon h⟩
/-- a value that is a bool, as a test -/
def dT (u : ET) : BT := fun env S Q R => u env S (fun d S1 => match d with | .bl b => Q b S1 | _ => False) R
theorem mon_T {u : ET} (h : Mon u) : MonB (dT u) := fun env S Q Q' R R' hq hR w => h _ _ _ _ _ _ (fun d S1 w1 => by
  cases d with
  | bl b => exact hq _ _ w1
  | _ => exact w1) hR w
theorem okB_of {Q : Bool → Hp → Prop} {d : D} {S' : Sto} (w : match d with | .bl b => okB T F S H Q b S' | _ => False) : okK T F S H (fun x H' => ∃ k, x = .bl k ∧ Q k H') d S' := by
  intro v H' F' ok' ex' r'
  cases d with
  | bl b => cases r'; exact ⟨b, rfl, w H' F' ok' ex'⟩
  | _ => exact w.elim
theorem jt_cmp {a b : Expr} {o : CmpOp} {op : O2} {ua ub : ET} {pos : Pos} (ho : OpD T X (compareOp o) op) (ha : JE T X a ua) (hb : JE T X b ub) (hm : behindInMarks o b = false := by first | exact nomark _ | rfl) : JT T X (.Compare a [o] [b] pos) (dT (dB op ua ub)) := by
  refine ⟨mon_T (mon_B ha.mon hb.mon), fun W tk => (pt_cmpR ho (ha.run W tk) (hb.run W tk) hm).weak ?_⟩
  rintro σ H Q ⟨env, S, F, er, ok, h⟩
  refine up_B (W := W) ha.mon hb.mon ⟨env, S, F, er, ok, ?_⟩
  exact mon_B ha.mon hb.mon _ _ _ _ _ _ (fun d S' w => okB_of w) (fun _ _ z => z) h
/-- a o b o' c -/
def dCh (op op' : O2) (ua ub uc : ET) : ET := fun env S Q R => ua env S (fun x S1 => ub env S1 (fun y S2 => (op S2 x y).wp fun z => match z with
  | .bl true => uc env S2 (fun w S3 => (op' S3 y w).wp fun z => Q z S3) R
  | .bl false => Q (.bl false) S2
  | _ => False) R) R
theorem mon_Ch {op op' : O2} {ua ub uc : ET} (ha : Mon ua) (hb : Mon ub) (hc : Mon uc) : Mon (dCh op op' ua ub uc) := fun env S Q Q' R R' h hR w =>
  ha _ _ _ _ _ _ (fun x S1 w1 => hb _ _ _ _ _ _ (fun y S2 w2 => PR.mono (fun d w3 => by
    cases d with
    | bl b =>
      cases b with
      | true => exact hc _ _ _ _ _ _ (fun z S3 w4 => PR.mono (fun d => h d S3) w4) hR w3
      | false => exact h _ _ w3
    | _ => exact w3) w2) hR w1) hR w
theorem up_Ch {op op' : O2} {ua ub uc : ET} (ha : Mon ua) (hb : Mon ub) (hc : Mon uc) {Q : VK} (h : up T W (dCh op op' ua ub uc) σ H Q) : tChain (rD T op) (rD T op') (up T W ua) (up T W ub) (up T W uc) σ H Q := by
  obtain ⟨env, S, F, er, ok, h⟩ := h
  refine ⟨env, S, F, er, ok, ha _ _ _ _ _ _ (fun x S1 w1 v1 H1 F1 ok1 ex1 r1 => ?_) (fun _ _ z => z) h⟩
  refine ⟨env, S1, F1, er.ext ok ex1, ok1, hb _ _ _ _ _ _ (fun y S2 w2 v2 H2 F2 ok2 ex2 r2 => ?_) (fun e S' z => erK.back ex1 e S' z) w1⟩
  refine ⟨F2, S2, x, y, ok2, Rep.ext ok1 ex2 x v1 r1, r2, PR.mono (fun z q v3 H3 F3 ok3 ex3 r3 => ?_) w2⟩
  have e03 := (ex1.trans ex2).trans ex3
  cases z with
  | bl b =>
    cases r3
    refine ⟨b, rfl, ?_⟩
    cases b with
    | true =>
      rw [if_pos rfl]
      refine ⟨env, S2, F3, er.ext ok e03, ok3, hc _ _ _ _ _ _ (fun z S4 w4 v4 H4 F4 ok4 ex4 r4 => ?_) (fun e S' z => erK.back e03 e S' z) q⟩
      exact ⟨F4, S4, y, z, ok4, Rep.ext ok2 (ex3.trans ex4) y v2 r2, r4, PR.mono (fun z q => okK.back (e03.trans ex4) z S4 q) w4⟩
    | false =>
      rw [if_neg Bool.false_ne_true]
      exact q _ _ _ ok3 e03 (.bl false)
  | _ => exact q.elim
theorem je_chain {a b c : Expr} {o o' : CmpOp} {op op' : O2} {ua ub uc : ET} {pos : Pos} (ho : OpD T X (compareOp o) op) (ho' : OpD T X (compareOp o') op') (ha : JE T X a ua) (hb : JE T X b ub) (hc : JE T X c uc)
    (hm : lastMarks [o, o'] [b, c] = false := by with_unfolding_all rfl) : JE T X (.Compare a [o, o'] [b, c] pos) (dCh op op' ua ub uc) :=
  ⟨mon_Ch ha.mon hb.mon hc.mon, fun W tk => (pe_chain ho ho' (ha.run W tk) (hb.run W tk) (hc.run W tk) hm).weak fun _ _ _ h => up_Ch ha.mon hb.mon hc.mon h⟩
theorem jt_chain {a b c : Expr} {o o' : CmpOp} {op op' : O2} {ua ub uc : ET} {pos : Pos} (ho : OpD T X (compareOp o) op) (ho' : OpD T X (compareOp o') op') (ha : JE T X a ua) (hb : JE T X b ub) (hc : JE T X c uc)
    (hm : lastMarks [o, o'] [b, c] = false := by with_unfolding_all rfl) : JT T X (.Compare a [o, o'] [b, c] pos) (dT (dCh op op' ua ub uc)) := by
  refine ⟨mon_T (mon_Ch ha.mon hb.mon hc.mon), fun W tk => (pt_chain ho ho' (ha.run W tk) (hb.run W tk) (hc.run W tk) hm).weak ?_⟩
  rintro σ H Q ⟨env, S, F, er, ok, h⟩
  refine up_Ch (W := W) ha.mon hb.mon hc.mon ⟨env, S, F, er, ok, ?_⟩
  exact mon_Ch ha.mon hb.mon hc.mon _ _ _ _ _ _ (fun d S' w => okB_of w) (fun _ _ z => z) h

/-! ### truth, and, or, not -/
def tru (S : Sto) : D → Option Bool
  | .non => some false
  | .bl b => some b
  | .int i => some (i != 0)
  | .str s => some (!s.isEmpty)
  | .tup ds => some (!ds.isEmpty)
  | .lst ds => some (!ds.isEmpty)
  | .obj a => (match S a with | some (.lst ds) => some (!ds.isEmpty) | _ => none)
  | .cst _ => none
  | .scr _ => none
/-- any value as a test -/
def dTr (u : ET) : BT := fun env S Q R => u env S (fun d S1 => match tru S1 d with | some b => Q b S1 | none => False) R
theorem mon_Tr {u : ET} (h : Mon u) : MonB (dTr u) := fun env S Q Q' R R' hq hR w => h _ _ _ _ _ _ (fun d S1 w1 => by
  show (match tru S1 d with | some b => Q' b S1 | none => False)
  have w1 : (match tru S1 d with | some b => Q b S1 | none => False) := w1
  revert w1
  cases tru S1 d with
  | some b => exact fun w1 => hq _ _ w1
  | none => exact fun w1 => w1) hR w
theorem isEmptyL {ds : List D} {xs : List V} (r : RepL F H ds xs) : (!xs.isEmpty) = (!ds.isEmpty) := by
  cases r <;> rfl
theorem tru_ok (ok : Ok T F S H) {K : PySem.W.Frag} {d : D} {v : V} {b : Bool} (r : Rep F H d v) (e : tru S d = some b) : TruV K v H b := by
  cases r with
  | non => cases e; rfl
  | bl b => cases e; rfl
  | int i => cases e; rfl
  | @str s k =>
    cases e
    refine ⟨by show s.toArray.size ≤ sizeLine; rw [List.size_toArray, sizeLine_eq]; exact k.2, ?_⟩
    show (!s.isEmpty) = ((s.toArray.size : Int) != 0)
    cases s with
    | nil => rfl
    | cons c r =>
      rw [List.size_toArray]
      show true = _
      symm
      rw [bne_iff_ne]
      simp only [List.length_cons]
      omega
  | tup f h q l => cases e; exact .inr (.inl ⟨_, .inl (.inl h), (isEmptyL q).symm⟩)
  | lst f h q l => cases e; exact .inl ⟨_, .inl (.inl h), (isEmptyL q).symm⟩
  | scr f h l => cases e
  | scK h l => cases e
  | obj a =>
    have e : (match S a with | some (.lst ds) => some (!ds.isEmpty) | _ => none) = some b := e
    split at e
    · rename_i ds hs
      cases e
      obtain ⟨xs, h1, h2, _⟩ := ok.st a _ hs
      exact .inl ⟨xs, .inl (.inl h1), (isEmptyL h2).symm⟩
    · cases e
  | cst v => cases e
theorem jt_val {e : Expr} {u : ET} (h : JE T X e u) (he : ∀ whole, isTrue e X.env whole = (do let v ← whole; standAt e.pos; holding [v] (truthy v)) := by intro _; rfl) : JT T X e (dTr u) := by
  refine ⟨mon_Tr h.mon, fun W tk => (pt_truth (h.run W tk) he).weak ?_⟩
  rintro σ H Q ⟨env, S, F, er, ok, w⟩
  refine ⟨env, S, F, er, ok, h.mon _ _ _ _ _ _ (fun d S1 w1 v1 H1 F1 ok1 ex1 r1 => ?_) (fun _ _ z => z) w⟩
  split at w1
  · rename_i b eb
    exact ⟨b, tru_ok ok1 r1 eb, w1 H1 F1 ok1 ex1⟩
  · exact w1.elim
def dAnd (ua ub : BT) : BT := fun env S Q R => ua env S (fun b S1 => match b with | true => ub env S1 Q R | false => Q false S1) R
def dOr (ua ub : BT) : BT := fun env S Q R => ua env S (fun b S1 => match b with | true => Q true S1 | false => ub env S1 Q R) R
def dNot (ua : BT) : BT := fun env S Q R => ua env S (fun b S1 => Q (!b) S1) R
theorem mon_And {ua ub : BT} (ha : MonB ua) (hb : MonB ub) : MonB (dAnd ua ub) := fun env S Q Q' R R' hq hR w => ha _ _ _ _ _ _ (fun b S1 w1 => by
  cases b with
  | true => exact hb _ _ _ _ _ _ hq hR w1
  | false => exact hq _ _ w1) hR w
theorem mon_Or {ua ub : BT} (ha : MonB ua) (hb : MonB ub) : MonB (dOr ua ub) := fun env S Q Q' R R' hq hR w => ha _ _ _ _ _ _ (fun b S1 w1 => by
  cases b with
  | false => exact hb _ _ _ _ _ _ hq hR w1
  | true => exact hq _ _ w1) hR w
theorem mon_Not {ua : BT} (ha : MonB ua) : MonB (dNot ua) := fun env S Q Q' R R' hq hR w => ha _ _ _ _ _ _ (fun b S1 w1 => hq _ _ w1) hR w
variable {a b c : Expr} {rest : List Expr} {pos : Pos} {ua ub uc : ET} {ta tb : BT}
theorem jw_and1 (ha : JT T X a ta) : JW T X (.BoolOp .And [a] pos) ta := ⟨ha.mon, fun W tk => pw_and1 (ha.run W tk)⟩
theorem jw_or1 (ha : JT T X a ta) : JW T X (.BoolOp .Or [a] pos) ta := ⟨ha.mon, fun W tk => pw_or1 (ha.run W tk)⟩
theorem jw_and (ha : JT T X a ta) (hb : JW T X (.BoolOp .And (b :: rest) pos) tb) : JW T X (.BoolOp .And (a :: b :: rest) pos) (dAnd ta tb) := by
  refine ⟨mon_And ha.mon hb.mon, fun W tk => (pw_and (ha.run W tk) (hb.run W tk)).weak ?_⟩
  rintro σ H Q ⟨env, S, F, er, ok, w⟩
  refine ⟨env, S, F, er, ok, ha.mon _ _ _ _ _ _ (fun b S1 w1 H1 F1 ok1 ex1 => ?_) (fun _ _ z => z) w⟩
  cases b with
  | true => rw [if_pos rfl]; exact ⟨env, S1, F1, er.ext ok ex1, ok1, hb.mon _ _ _ _ _ _ (okB.back ex1) (erK.back ex1) w1⟩
  | false => rw [if_neg Bool.false_ne_true]; exact w1 H1 F1 ok1 ex1
theorem jw_or (ha : JT T X a ta) (hb : JW T X (.BoolOp .Or (b :: rest) pos) tb) : JW T X (.BoolOp .Or (a :: b :: rest) pos) (dOr ta tb) := by
  refine ⟨mon_Or ha.mon hb.mon, fun W tk => (pw_or (ha.run W tk) (hb.run W tk)).weak ?_⟩
  rintro σ H Q ⟨env, S, F, er, ok, w⟩
  refine ⟨env, S, F, er, ok, ha.mon _ _ _ _ _ _ (fun b S1 w1 H1 F1 ok1 ex1 => ?_) (fun _ _ z => z) w⟩
  cases b with
  | false => rw [if_neg Bool.false_ne_true]; exact ⟨env, S1, F1, er.ext ok ex1, ok1, hb.mon _ _ _ _ _ _ (okB.back ex1) (erK.back ex1) w1⟩
  | true => rw [if_pos rfl]; exact w1 H1 F1 ok1 ex1
theorem jt_w (h : JW T X a ta) : JT T X a ta := ⟨h.mon, fun W tk => (h.run W tk).pt⟩
theorem jt_not (ha : JT T X a ta) : JT T X (.UnaryOp .Not a pos) (dNot ta) := by
  refine ⟨mon_Not ha.mon, fun W tk => (pt_not (ha.run W tk)).weak ?_⟩
  rintro σ H Q ⟨env, S, F, er, ok, w⟩
  exact ⟨env, S, F, er, ok, w⟩
/-- .. as values: all but the last one bools -/
def dAndV (ua ub : ET) : ET := fun env S Q R => ua env S (fun d S1 => match d with | .bl true => ub env S1 Q R | .bl false => Q (.bl false) S1 | _ => False) R
def dOrV (ua ub : ET) : ET := fun env S Q R => ua env S (fun d S1 => match d with | .bl true => Q (.bl true) S1 | .bl false => ub env S1 Q R | _ => False) R
def dNotV (ua : ET) : ET := fun env S Q R => ua env S (fun d S1 => match d with | .bl b => Q (.bl (!b)) S1 | _ => False) R
theorem mon_AndV (ha : Mon ua) (hb : Mon ub) : Mon (dAndV ua ub) := fun env S Q Q' R R' hq hR w => ha _ _ _ _ _ _ (fun d S1 w1 => by
  cases d with
  | bl b =>
    cases b with
    | true => exact hb _ _ _ _ _ _ hq hR w1
    | false => exact hq _ _ w1
  | _ => exact w1) hR w
theorem mon_OrV (ha : Mon ua) (hb : Mon ub) : Mon (dOrV ua ub) := fun env S Q Q' R R' hq hR w => ha _ _ _ _ _ _ (fun d S1 w1 => by
  cases d with
  | bl b =>
    cases b with
    | false => exact hb _ _ _ _ _ _ hq hR w1
    | true => exact hq _ _ w1
  | _ => exact w1) hR w
theorem mon_NotV (ha : Mon ua) : Mon (dNotV ua) := fun env S Q Q' R R' hq hR w => ha _ _ _ _ _ _ (fun d S1 w1 => by
  cases d with
  | bl b => exact hq _ _ w1
  | _ => exact w1) hR w
theorem je_one {op} (h : JE T X a ua) : JE T X (.BoolOp op [a] pos) ua := ⟨h.mon, fun W tk => pe_one (h.run W tk)⟩
theorem je_and (ha : JE T X a ua) (hb : JE T X (.BoolOp .And (b :: rest) pos) ub) : JE T X (.BoolOp .And (a :: b :: rest) pos) (dAndV ua ub) := by
  refine ⟨mon_AndV ha.mon hb.mon, fun W tk => (pe_and (ha.run W tk) (hb.run W tk)).weak ?_⟩
  rintro σ H Q ⟨env, S, F, er, ok, w⟩
  refine ⟨env, S, F, er, ok, ha.mon _ _ _ _ _ _ (fun d S1 w1 v1 H1 F1 ok1 ex1 r1 => ?_) (fun _ _ z => z) w⟩
  cases d with
  | bl b =>
    cases r1
    refine ⟨b, rfl, ?_⟩
    cases b with
    | true => rw [if_pos rfl]; exact ⟨env, S1, F1, er.ext ok ex1, ok1, hb.mon _ _ _ _ _ _ (okK.back ex1) (erK.back ex1) w1⟩
    | false => rw [if_neg Bool.false_ne_true]; exact w1 _ H1 F1 ok1 ex1 (.bl false)
  | _ => exact w1.elim
theorem je_or (ha : JE T X a ua) (hb : JE T X (.BoolOp .Or (b :: rest) pos) ub) : JE T X (.BoolOp .Or (a :: b :: rest) pos) (dOrV ua ub) := by
  refine ⟨mon_OrV ha.mon hb.mon, fun W tk => (pe_or (ha.run W tk) (hb.run W tk)).weak ?_⟩
  rintro σ H Q ⟨env, S, F, er, ok, w⟩
  refine ⟨env, S, F, er, ok, ha.mon _ _ _ _ _ _ (fun d S1 w1 v1 H1 F1 ok1 ex1 r1 => ?_) (fun _ _ z => z) w⟩
  cases d with
  | bl b =>
    cases r1
    refine ⟨b, rfl, ?_⟩
    cases b with
    | false => rw [if_neg Bool.false_ne_true]; exact ⟨env, S1, F1, er.ext ok ex1, ok1, hb.mon _ _ _ _ _ _ (okK.back ex1) (erK.back ex1) w1⟩
    | true => rw [if_pos rfl]; exact w1 _ H1 F1 ok1 ex1 (.bl true)
  | _ => exact w1.elim
theorem je_not (ha : JE T X a ua) : JE T X (.UnaryOp .Not a pos) (dNotV ua) := by
  refine ⟨mon_NotV ha.mon, fun W tk => (pe_not (ha.run W tk)).weak ?_⟩
  rintro σ H Q ⟨env, S, F, er, ok, w⟩
  refine ⟨env, S, F, er, ok, ha.mon _ _ _ _ _ _ (fun d S1 w1 v1 H1 F1 ok1 ex1 r1 => ?_) (fun _ _ z => z) w⟩
  cases d with
  | bl b => cases r1; exact ⟨b, rfl, w1 _ H1 F1 ok1 ex1 (.bl _)⟩
  | _ => exact w1.elim
/-- a if t else b -/
def dIfE (t : BT) (ua ub : ET) : ET := fun env S Q R => t env S (fun b S1 => match b with | true => ua env S1 Q R | false => ub env S1 Q R) R
theorem mon_IfE {t : BT} (ht : MonB t) (ha : Mon ua) (hb : Mon ub) : Mon (dIfE t ua ub) := fun env S Q Q' R R' hq hR w => ht _ _ _ _ _ _ (fun b S1 w1 => by
  cases b with
  | true => exact ha _ _ _ _ _ _ hq hR w1
  | false => exact hb _ _ _ _ _ _ hq hR w1) hR w
theorem je_if {t : BT} (ht : JT T X c t) (ha : JE T X a ua) (hb : JE T X b ub) : JE T X (.IfExp c a b pos) (dIfE t ua ub) := by
  refine ⟨mon_IfE ht.mon ha.mon hb.mon, fun W tk => (pe_ifExp (ht.run W tk) (ha.run W tk) (hb.run W tk)).weak ?_⟩
  rintro σ H Q ⟨env, S, F, er, ok, w⟩
  refine ⟨env, S, F, er, ok, ht.mon _ _ _ _ _ _ (fun b S1 w1 H1 F1 ok1 ex1 => ?_) (fun _ _ z => z) w⟩
  cases b with
  | true => rw [if_pos rfl]; exact ⟨env, S1, F1, er.ext ok ex1, ok1, ha.mon _ _ _ _ _ _ (okK.back ex1) (erK.back ex1) w1⟩
  | false => rw [if_neg Bool.false_ne_true]; exact ⟨env, S1, F1, er.ext ok ex1, ok1, hb.mon _ _ _ _ _ _ (okK.back ex1) (erK.back ex1) w1⟩

/-! ### arguments, displays -/
def aN : AT := fun _ S Q _ => Q [] S
def aC (u : ET) (v : AT) : AT := fun env S Q R => u env S (fun x S1 => v env S1 (fun xs S2 => Q (x :: xs) S2) R) R
theorem mon_aN : MonA aN := fun _ _ _ _ _ _ h _ w => h _ _ w
theorem mon_aC {u : ET} {v : AT} (hu : Mon u) (hv : MonA v) : MonA (aC u v) := fun _ _ _ _ _ _ h hR w => hu _ _ _ _ _ _ (fun _ _ w1 => hv _ _ _ _ _ _ (fun _ _ w2 => h _ _ w2) hR w1) hR w
theorem ja_nil : JA T X [] aN := by
  refine ⟨mon_aN, fun W tk => pa_nil.weak ?_⟩
  rintro σ H Q ⟨env, S, F, er, ok, w⟩
  exact w [] H F ok Ext.refl .nil
theorem ja_cons {e : Expr} {es : List Expr} {u : ET} {v : AT} (he : JE T X e u) (hr : JA T X es v) (hs : starEach (e :: es) X.env = (false, eval e X.env) :: starEach es X.env := by rfl) : JA T X (e :: es) (aC u v) := by
  refine ⟨mon_aC he.mon hr.mon, fun W tk => (pa_cons (he.run W tk) (hr.run W tk) hs).weak ?_⟩
  rintro σ H Q ⟨env, S, F, er, ok, w⟩
  refine ⟨env, S, F, er, ok, he.mon _ _ _ _ _ _ (fun d S1 w1 v1 H1 F1 ok1 ex1 r1 => ?_) (fun _ _ z => z) w⟩
  refine ⟨env, S1, F1, er.ext ok ex1, ok1, hr.mon _ _ _ _ _ _ (fun ds S2 w2 vs H2 F2 ok2 ex2 r2 => ?_) (fun e S' z => erK.back ex1 e S' z) w1⟩
  exact w2 _ H2 F2 ok2 (ex1.trans ex2) (.cons (Rep.ext ok1 ex2 _ _ r1) r2)
def dTup (t : AT) : ET := fun env S Q R => t env S (fun ds S1 => ds.length ≤ 16777216 ∧ Q (.tup ds) S1) R
def dLst (t : AT) : ET := fun env S Q R => t env S (fun ds S1 => ds.length ≤ 16777216 ∧ Q (.lst ds) S1) R
/-- a list that is to be changed -/
def dLstM (t : AT) : ET := fun env S Q R => t env S (fun ds S1 => ds.length ≤ 16777216 ∧ ∀ a, S1 a = none → Q (.obj a) (fun b => if b = a then some (.lst ds) else S1 b)) R
variable {es : List Expr} {t : AT}
theorem je_tup {k : Nat} (h : JA T X es t) : JE T X (.Tuple es k pos) (dTup t) := by
  refine ⟨fun _ _ _ _ _ _ hq hR w => h.mon _ _ _ _ _ _ (fun _ _ w1 => ⟨w1.1, hq _ _ w1.2⟩) hR w, fun W tk => (pe_tup (h.run W tk)).weak ?_⟩
  rintro σ H Q ⟨env, S, F, er, ok, w⟩
  refine ⟨env, S, F, er, ok, h.mon _ _ _ _ _ _ (fun ds S1 w1 vs H1 F1 ok1 ex1 r1 => ?_) (fun _ _ z => z) w⟩
  exact ⟨by rw [← r1.length, sizeLine_eq]; exact w1.1, okK.newT ok1 (okK.back ex1 _ _ w1.2) r1 w1.1⟩
theorem je_lst (h : JA T X es t) : JE T X (.List es pos) (dLst t) := by
  refine ⟨fun _ _ _ _ _ _ hq hR w => h.mon _ _ _ _ _ _ (fun _ _ w1 => ⟨w1.1, hq _ _ w1.2⟩) hR w, fun W tk => (pe_lst (h.run W tk)).weak ?_⟩
  rintro σ H Q ⟨env, S, F, er, ok, w⟩
  refine ⟨env, S, F, er, ok, h.mon _ _ _ _ _ _ (fun ds S1 w1 vs H1 F1 ok1 ex1 r1 => ?_) (fun _ _ z => z) w⟩
  exact ⟨by rw [← r1.length, sizeLine_eq]; exact w1.1, okK.newL ok1 (okK.back ex1 _ _ w1.2) r1 w1.1⟩
/-- the store with an object more, or another content -/
def put (S : Sto) (a : Addr) (m : MO) : Sto := fun b => if b = a then some m else S b
theorem put_same {S : Sto} {a : Addr} {m : MO} : put S a m a = some m := by unfold put; rw [if_pos rfl]
theorem put_ne {S : Sto} {a b : Addr} {m : MO} (h : b ≠ a) : put S a m b = S b := by unfold put; rw [if_neg h]
theorem put_put {S : Sto} {a : Addr} {m m' : MO} : put (put S a m) a m' = put S a m' := by funext b; unfold put; split <;> rfl
theorem Ext.newM {o : HO} {p : Addr} {m : MO} (hp : H p = none) : Ext F S H F (put S p m) (upd H p o) :=
  ⟨fun a o' h _ _ => by rw [upd_ne (ne_of_none h hp)]; exact h, fun a o' h _ z => by rw [put_ne (ne_of_none h hp)]; exact z, fun _ _ _ _ _ f => f, fun _ h => h, rfl⟩
theorem Ok.newM {o : HO} {p : Addr} {m : MO} (ok : Ok T F S H) (hp : H p = none) (hm : MOk F (upd H p o) p m) : Ok T F (put S p m) (upd H p o) := by
  refine ⟨ok.cv, fun a h => ?_, fun a m' h => ?_, tabs_upd hp ok.tb⟩
  · obtain ⟨h1, o', h2, h3⟩ := ok.fz a h
    have na := ne_of_none h2 hp
    exact ⟨by rw [put_ne na]; exact h1, o', by rw [upd_ne na]; exact h2, h3⟩
  · by_cases e : a = p
    · subst e
      rw [put_same] at h
      cases h
      exact hm
    · rw [put_ne e] at h
      obtain ⟨o', q⟩ := (ok.st a m' h).some
      exact MOk.ext ok (Ext.newM (o := o) (m := m) hp) (ok.st a m' h) (upd_ne e)
theorem okK.newM {Q : VK} {ds : List D} {xs : List V} (ok : Ok T F S H) (h : ∀ a, S a = none → okK T F S H Q (.obj a) (put S a (.lst ds))) (r : RepL F H ds xs) (hl : ds.length ≤ 16777216) : ∀ p, H p = none → Q (.ref p) (upd H p (.lst xs)) := fun p hp =>
  h p (ok.free hp) _ _ _ (ok.newM hp ⟨xs, upd_same, RepL.ext ok (Ext.newM (o := .lst xs) (m := .lst ds) hp) ds xs r, hl⟩) (Ext.newM hp) (.obj p)
theorem je_lstM (h : JA T X es t) : JE T X (.List es pos) (dLstM t) := by
  refine ⟨fun _ _ _ _ _ _ hq hR w => h.mon _ _ _ _ _ _ (fun _ _ w1 => ⟨w1.1, fun a ha => hq _ _ (w1.2 a ha)⟩) hR w, fun W tk => (pe_lst (h.run W tk)).weak ?_⟩
  rintro σ H Q ⟨env, S, F, er, ok, w⟩
  refine ⟨env, S, F, er, ok, h.mon _ _ _ _ _ _ (fun ds S1 w1 vs H1 F1 ok1 ex1 r1 => ?_) (fun _ _ z => z) w⟩
  exact ⟨by rw [← r1.length, sizeLine_eq]; exact w1.1, okK.newM ok1 (fun a ha => okK.back ex1 _ _ (w1.2 a ha)) r1 w1.1⟩
end
end DL

namespace DL
open PySem PySem.Spec PyProof.Rows L2
section
variable {T : Tp} {X : Cx} {F F' : Fz} {S S' : Sto} {H H' : Hp} {σ : L2.St} {W : WX}
theorem sOf_len (s : List Nat) : (sOf s).length = s.length := by show s.toArray.size = _; rw [List.size_toArray]
theorem sOf_toL (s : List Nat) : (sOf s).cps.toList = s := by simp [sOf]
theorem sOf_app (a b : List Nat) : sOf a ++ sOf b = sOf (a ++ b) := by
  show Str.mk (a.toArray ++ b.toArray) = Str.mk _
  simp
theorem sOf_inj {a b : List Nat} : sOf a = sOf b ↔ a = b := by
  constructor
  · intro h
    have := congrArg (fun x : Str => x.cps.toList) h
    simpa [sOf] using this
  · intro h; rw [h]

/-! ### + - * // % ** -/
def catL (a : List D) : Option (List D) → PR
  | some b => .pre (a.length + b.length ≤ 16777216) (.lst (a ++ b))
  | none => .no
def opAdd : O2 := fun S x y => match x with
  | .int i => (match y with | .int j => .ok (.int (i + j)) | _ => .no)
  | .str a => (match y with | .str b => .pre (a.length + b.length ≤ 16777216) (.str (a ++ b)) | _ => .no)
  | .tup a => (match y with | .tup b => .pre (a.length + b.length ≤ 16777216) (.tup (a ++ b)) | _ => .no)
  | .lst a => (match y with | .scr ns => .pre (a.length + ns.length ≤ 16777216) (.lst (a ++ ns.map D.int)) | y => catL a (lstOf S y))
  | .obj p => (match lstOf S (.obj p) with | some a => catL a (lstOf S y) | none => .no)
  | _ => .no
theorem sOk_app {a b : List Nat} (h1 : sOk a) (h2 : sOk b) (h : a.length + b.length ≤ 16777216) : sOk (a ++ b) :=
  ⟨fun c hc => (List.mem_append.mp hc).elim (h1.1 c) (h2.1 c), by rw [List.length_append]; exact h⟩
/-- list + list, one of them perhaps a known object -/
theorem op_catR : OpR X (binaryOp .Add) (fun x y H Q => ∃ l b xs zs, x = .ref l ∧ y = .ref b ∧ Rd H l (.lst xs) ∧ Rd H b (.lst zs) ∧ xs.length + zs.length ≤ sizeLine ∧ ∀ p, H p = none → Q (.ref p) (upd H p (.lst (xs ++ zs)))) := by
  intro pins s σ H x y v u Q I rx ry h
  obtain ⟨l, b, xs, zs, rfl, rfl, hl, hb, hz, q⟩ := h
  cases rx
  cases ry
  obtain ⟨_, its, n, r, e⟩ := hl.ok I.hok
  obtain ⟨_, its2, n2, r2, e2⟩ := hb.ok I.hok
  have h1 := r.length
  have h2 := r2.length
  refine PySem.P.add_list e e2 ?_ (by rw [List.size_toArray, List.size_toArray]; omega)
  rw [show its.toArray ++ its2.toArray = (its ++ its2).toArray by simp]
  exact ⟨.ref _, _, I.lnew (t' := s.toks) (r.append r2) (by rw [List.length_append]; omega), rfl, q _ I.fresh⟩
theorem cat_go {F S H} {pins : List (Addr × Obj)} {s : Shared} {v1 v2 : V} {u1 u2 : Value} {Q : VK} {a b : List D} {x1 x2 : List V} {p1 p2 : Addr} (I : Inv X pins σ H s) (r1 : RelV v1 u1) (r2 : RelV v2 u2) (ok : Ok T F S H)
    (e1 : v1 = .ref p1) (e2 : v2 = .ref p2) (h1 : Rd H p1 (.lst x1)) (h2 : Rd H p2 (.lst x2)) (q1 : RepL F H a x1) (q2 : RepL F H b x2) (hl : a.length + b.length ≤ 16777216) (h : okK T F S H Q (.lst (a ++ b)) S) :
    wpAny (model X.prog X.w) X.A (binaryOp .Add u1 u2) (EP X pins σ Q) X.xe s :=
  op_catR pins s σ H v1 v2 u1 u2 Q I r1 r2 ⟨p1, p2, x1, x2, e1, e2, h1, h2, by rw [← q1.length, ← q2.length, sizeLine_eq]; exact hl, okK.newL ok h (q1.append q2) (by rw [List.length_append]; exact hl)⟩
theorem catL_go {F S H} {pins : List (Addr × Obj)} {s : Shared} {v1 v2 : V} {u1 u2 : Value} {Q : VK} {x y : D} {a : List D} (I : Inv X pins σ H s) (r1 : RelV v1 u1) (r2 : RelV v2 u2) (ok : Ok T F S H) (q1 : Rep F H x v1) (q2 : Rep F H y v2)
    (e1 : lstOf S x = some a) (h : (catL a (lstOf S y)).wp fun z => okK T F S H Q z S) : wpAny (model X.prog X.w) X.A (binaryOp .Add u1 u2) (EP X pins σ Q) X.xe s := by
  obtain ⟨p1, x1, f1, g1, k1, _⟩ := list_of ok q1 e1
  cases e2 : lstOf S y with
  | none => rw [e2] at h; exact h.elim
  | some b =>
    rw [e2] at h
    obtain ⟨p2, x2, f2, g2, k2, _⟩ := list_of ok q2 e2
    exact cat_go I r1 r2 ok f1 f2 (.inl g1) (.inl g2) k1 k2 h.1 h.2
/-- the module's own list behind a list -/
theorem op_catK : OpR X (binaryOp .Add) (fun x y H Q => ∃ l b xs zs vs, x = .ref l ∧ y = .ref b ∧ Rd H l (.lst xs) ∧ X.K.lookup b = some { cls := .type "list", data := .seq (List.toArray vs) } ∧ Vals zs vs ∧ xs.length + zs.length ≤ sizeLine ∧ ∀ p, H p = none → Q (.ref p) (upd H p (.lst (xs ++ zs)))) := by
  intro pins s σ H x y v u Q I rx ry h
  obtain ⟨l, b, xs, zs, its2, rfl, rfl, hl, hb, r2, hz, q⟩ := h
  cases rx
  cases ry
  obtain ⟨_, its, n, r, e⟩ := hl.ok I.hok
  have e2 := I.kIn b _ hb
  have h1 := r.length
  have h2 := r2.length
  refine PySem.P.add_list e e2 ?_ (by rw [List.size_toArray, List.size_toArray]; omega)
  rw [show its.toArray ++ its2.toArray = (its ++ its2).toArray by simp]
  exact ⟨.ref _, _, I.lnew (t' := s.toks) (r.append r2) (by rw [List.length_append]; omega), rfl, q _ I.fresh⟩
def ScK (T : Tp) (X : Cx) : Prop := ∀ a ns, T.cv.sc a ns → ∃ vs, X.K.lookup a = some { cls := .type "list", data := .seq (List.toArray vs) } ∧ Vals (ns.map V.int) vs
theorem od_add (hs : ScK T X) : OpD T X (binaryOp .Add) opAdd := by
  intro pins s σ H v1 v2 u1 u2 Q I r1 r2 ⟨F, S, x, y, ok, q1, q2, h⟩
  cases q1 with
  | int i =>
    cases q2 with
    | int j => exact op_add pins s σ H _ _ u1 u2 Q I r1 r2 ⟨i, j, rfl, rfl, okK.flat ok h (.int _)⟩
    | _ => exact h.elim
  | @str a ka =>
    cases q2 with
    | @str b kb =>
      obtain ⟨hl, h⟩ := h
      exact op_add_str pins s σ H _ _ u1 u2 Q I r1 r2 ⟨sOf a, sOf b, rfl, rfl, by rw [sOf_len, sOf_len, sizeLine_eq]; exact hl, by rw [sOf_app]; exact okK.flat ok h (.str (sOk_app ka kb hl))⟩
    | _ => exact h.elim
  | @tup a1 x1 a f1 h1 k1 l1 =>
    cases q2 with
    | @tup b1 y1 b f2 h2 k2 l2 =>
      obtain ⟨hl, h⟩ := h
      refine op_catA pins s σ H _ _ u1 u2 Q I r1 r2 ⟨a1, b1, x1, y1, rfl, rfl, .inl (.inl h1), .inl (.inl h2), by rw [← k1.length, ← k2.length, sizeLine_eq]; exact hl, fun e => ?_, fun _ e => ?_, fun _ _ => okK.newT ok h (k1.append k2) (by rw [List.length_append]; exact hl)⟩
      · subst e; cases k1; exact okK.flat ok h (.tup f2 h2 k2 l2)
      · subst e; cases k2; exact okK.flat ok h (by rw [List.append_nil]; exact .tup f1 h1 k1 l1)
    | _ => exact h.elim
  | @lst a1 x1 a f1 h1 k1 l1 =>
    cases q2 with
    | @scr b1 ns f2 h2 l2 => exact cat_go I r1 r2 ok rfl rfl (.inl h1) h2 k1 (RepL.ints ns) (by rw [List.length_map]; exact h.1) h.2
    | @scK b1 ns h2 l2 =>
      obtain ⟨vs, e1, e2⟩ := hs b1 ns (by rw [← ok.cv]; exact h2)
      exact op_catK pins s σ H _ _ u1 u2 Q I r1 r2 ⟨a1, b1, x1, ns.map V.int, vs, rfl, rfl, .inl h1, e1, e2, by rw [List.length_map, ← k1.length, sizeLine_eq]; exact h.1, okK.newL ok h.2 (k1.append (RepL.ints ns)) (by rw [List.length_append, List.length_map]; exact h.1)⟩
    | non => exact h.elim
    | bl b => exact h.elim
    | int b => exact h.elim
    | str b => exact h.elim
    | cst b => exact h.elim
    | tup f2 h2 k2 l2 => exact h.elim
    | lst f2 h2 k2 l2 => exact catL_go I r1 r2 ok (.lst f1 h1 k1 l1) (.lst f2 h2 k2 l2) rfl h
    | obj p => exact catL_go I r1 r2 ok (.lst f1 h1 k1 l1) (.obj p) rfl h
  | obj p =>
    have h : (match lstOf S (.obj p) with | some a => catL a (lstOf S y) | none => PR.no).wp _ := h
    cases e : lstOf S (.obj p) with
    | none => rw [e] at h; exact h.elim
    | some a => rw [e] at h; exact catL_go I r1 r2 ok (.obj p) q2 e h
  | _ => exact h.elim
def opSub : O2 := fun _ x y => match x, y with
  | .int i, .int j => .ok (.int (i - j))
  | _, _ => .no
def opMod : O2 := fun _ x y => match x, y with
  | .int i, .int j => .pre (0 < j) (.int (i % j))
  | _, _ => .no
def opDiv : O2 := fun _ x y => match x, y with
  | .int i, .int j => .pre (0 < j ∧ j.natAbs.log2 < 9000) (.int (i / j))
  | _, _ => .no
def opPow : O2 := fun _ x y => match x, y with
  | .int i, .int j => .pre (0 ≤ j ∧ j ≤ 1000000 ∧ i.natAbs < 2 ^ 64) (.int (i ^ j.toNat))
  | _, _ => .no
def timesL (a : List D) (k : Int) : PR := .pre (-(2 ^ 63) ≤ k ∧ k < 2 ^ 63 ∧ a.length * k.toNat ≤ 16777216) (.lst (List.replicate k.toNat a).flatten)
def opMul : O2 := fun S x y => match x, y with
  | .int i, .int j => .pre ((-(2 ^ 64) < i ∧ i < 2 ^ 64) ∨ (-(2 ^ 64) < j ∧ j < 2 ^ 64)) (.int (i * j))
  | .lst a, .int k => timesL a k
  | .str a, .int k => .pre (0 ≤ k ∧ k ≤ 16777216 ∧ a.length ≤ 1) (.str (List.replicate k.toNat a).flatten)
  | .tup a, .int k => .pre (2 ≤ k ∧ k ≤ 1000 ∧ a.length ≤ 1000 ∧ a ≠ []) (.tup (List.replicate k.toNat a).flatten)
  | _, _ => .no
theorem od_sub : OpD T X (binaryOp .Sub) opSub := by
  intro pins s σ H v1 v2 u1 u2 Q I r1 r2 ⟨F, S, x, y, ok, q1, q2, h⟩
  cases q1 with
  | int i =>
    cases q2 with
    | int j => exact op_sub pins s σ H _ _ u1 u2 Q I r1 r2 ⟨i, j, rfl, rfl, okK.flat ok h (.int _)⟩
    | _ => exact h.elim
  | _ => exact h.elim
theorem od_mod : OpD T X (binaryOp .Mod) opMod := by
  intro pins s σ H v1 v2 u1 u2 Q I r1 r2 ⟨F, S, x, y, ok, q1, q2, h⟩
  cases q1 with
  | int i =>
    cases q2 with
    | int j => exact op_mod pins s σ H _ _ u1 u2 Q I r1 r2 ⟨i, j, rfl, rfl, h.1, okK.flat ok h.2 (.int _)⟩
    | _ => exact h.elim
  | _ => exact h.elim
theorem od_div : OpD T X (binaryOp .FloorDiv) opDiv := by
  intro pins s σ H v1 v2 u1 u2 Q I r1 r2 ⟨F, S, x, y, ok, q1, q2, h⟩
  cases q1 with
  | int i =>
    cases q2 with
    | int j => exact op_fdivW pins s σ H _ _ u1 u2 Q I r1 r2 ⟨i, j, rfl, rfl, h.1, okK.flat ok h.2 (.int _)⟩
    | _ => exact h.elim
  | _ => exact h.elim
theorem od_pow : OpD T X (binaryOp .Pow) opPow := by
  intro pins s σ H v1 v2 u1 u2 Q I r1 r2 ⟨F, S, x, y, ok, q1, q2, h⟩
  cases q1 with
  | int i =>
    cases q2 with
    | int j => exact op_pow pins s σ H _ _ u1 u2 Q I r1 r2 ⟨i, j, rfl, rfl, h.1, okK.flat ok h.2 (.int _)⟩
    | _ => exact h.elim
  | _ => exact h.elim
theorem RepL.rep {a : List D} {xs : List V} (r : RepL F H a xs) : ∀ n : Nat, RepL F H (List.replicate n a).flatten (List.replicate n xs).flatten
  | 0 => .nil
  | n + 1 => by
    rw [List.replicate_succ, List.replicate_succ, List.flatten_cons, List.flatten_cons]
    exact r.append (RepL.rep r n)
theorem foldl_rep' (s : List Nat) : ∀ (n : Nat) (acc : Array Nat), (List.replicate n s.toArray).foldl (· ++ ·) acc = acc ++ ((List.replicate n s).flatten).toArray
  | 0, acc => by simp
  | n + 1, acc => by
    rw [List.replicate_succ, List.foldl_cons, foldl_rep' s n, List.replicate_succ, List.flatten_cons]
    simp
theorem mul_sOf (s : List Nat) {k : Int} (h0 : 0 ≤ k) : PySem.Txt.mul (sOf s) k = sOf (List.replicate k.toNat s).flatten := by
  unfold PySem.Txt.mul
  by_cases h1 : k < 1
  · rw [if_pos h1]
    have : k = 0 := by omega
    subst this
    rfl
  · rw [if_neg h1]
    by_cases h2 : (k == 1 || (sOf s).length == 0) = true
    · rw [if_pos h2]
      rw [Bool.or_eq_true, beq_iff_eq, beq_iff_eq] at h2
      rcases h2 with h2 | h2
      · subst h2; simp
      · rw [sOf_len] at h2
        have : s = [] := List.length_eq_zero_iff.mp h2
        subst this
        simp
    · rw [if_neg h2]
      show Str.mk _ = Str.mk _
      rw [show (sOf s).cps = s.toArray from rfl, foldl_rep']
      simp
theorem od_mul : OpD T X (binaryOp .Mult) opMul := by
  intro pins s σ H v1 v2 u1 u2 Q I r1 r2 ⟨F, S, x, y, ok, q1, q2, h⟩
  cases q1 with
  | int i =>
    cases q2 with
    | int j => exact op_mul pins s σ H _ _ u1 u2 Q I r1 r2 ⟨i, j, rfl, rfl, h.1, okK.flat ok h.2 (.int _)⟩
    | _ => exact h.elim
  | @lst a1 x1 a f1 h1 k1 l1 =>
    cases q2 with
    | int j =>
      obtain ⟨⟨b1, b2, b3⟩, h⟩ := h
      exact op_rep pins s σ H _ _ u1 u2 Q I r1 r2 ⟨a1, j, x1, rfl, rfl, h1, b1, b2, by rw [← k1.length, sizeLine_eq]; exact b3, okK.newL ok h (k1.rep _) (by rw [List.length_flatten, List.map_replicate, List.sum_replicate_nat, Nat.mul_comm]; exact b3)⟩
    | _ => exact h.elim
  | @str a ka =>
    cases q2 with
    | int j =>
      obtain ⟨⟨b1, b2, b3⟩, h⟩ := h
      obtain ⟨t, rfl⟩ := r1
      obtain ⟨t', rfl⟩ := r2
      refine PySem.SB.mul (PyProof.Rows.mulOk_of 1 16777216 (by rw [sOf_len]; exact b3) (by omega) (by omega) (by decide) (by decide)) fun t' k => ?_
      rw [mul_sOf a b1]
      refine ⟨.str _, H, I.tok k, ⟨t', rfl⟩, okK.flat ok h (.str ⟨fun c hc => ?_, ?_⟩)⟩
      · obtain ⟨l, hl, hc⟩ := List.mem_flatten.mp hc
        rw [(List.mem_replicate.mp hl).2] at hc
        exact ka.1 c hc
      · rw [List.length_flatten, List.map_replicate, List.sum_replicate_nat]
        refine Nat.le_trans (Nat.mul_le_mul (Nat.le_refl _) b3) ?_
        omega
    | _ => exact h.elim
  | @tup a1 x1 a f1 h1 k1 l1 =>
    cases q2 with
    | int j =>
      obtain ⟨⟨b1, b2, b3, b4⟩, h⟩ := h
      refine op_repT pins s σ H _ _ u1 u2 Q I r1 r2 ⟨a1, j, x1, rfl, rfl, .inl (.inl h1), fun e => b4 ?_, b1, b2, by rw [← k1.length]; exact b3, okK.newT ok h (k1.rep _) (by rw [List.length_flatten, List.map_replicate, List.sum_replicate_nat]; refine Nat.le_trans (Nat.mul_le_mul (show j.toNat ≤ 1000 by omega) b3) (by decide))⟩
      subst e; cases k1; rfl
    | _ => exact h.elim
  | _ => exact h.elim

/-! ### order of ints and texts -/
def ltL : List Nat → List Nat → Bool := fun a b => decide (a < b)
def opLt : O2 := fun _ x y => match x, y with
  | .int i, .int j => .ok (.bl (decide (i < j)))
  | .str a, .str b => .ok (.bl (ltL a b))
  | _, _ => .no
def opGt : O2 := fun _ x y => match x, y with
  | .int i, .int j => .ok (.bl (decide (j < i)))
  | .str a, .str b => .ok (.bl (ltL b a))
  | _, _ => .no
def opLe : O2 := fun _ x y => match x, y with
  | .int i, .int j => .ok (.bl (decide (i ≤ j)))
  | .str a, .str b => .ok (.bl (!ltL b a))
  | _, _ => .no
def opGe : O2 := fun _ x y => match x, y with
  | .int i, .int j => .ok (.bl (decide (j ≤ i)))
  | .str a, .str b => .ok (.bl (!ltL a b))
  | _, _ => .no
theorem od_lt : OpD T X (compareOp .Lt) opLt := by
  intro pins s σ H v1 v2 u1 u2 Q I r1 r2 ⟨F, S, x, y, ok, q1, q2, h⟩
  cases q1 with
  | int i =>
    cases q2 with
    | int j => exact op_lt pins s σ H _ _ u1 u2 Q I r1 r2 ⟨i, j, rfl, rfl, okK.flat ok h (.bl _)⟩
    | _ => exact h.elim
  | @str a ka =>
    cases q2 with
    | @str b kb => exact op_lt_str pins s σ H _ _ u1 u2 Q I r1 r2 ⟨_, _, rfl, rfl, by rw [sOf_toL, sOf_toL]; exact okK.flat ok h (.bl _)⟩
    | _ => exact h.elim
  | _ => exact h.elim
theorem od_gt : OpD T X (compareOp .Gt) opGt := by
  intro pins s σ H v1 v2 u1 u2 Q I r1 r2 ⟨F, S, x, y, ok, q1, q2, h⟩
  cases q1 with
  | int i =>
    cases q2 with
    | int j => exact op_gt pins s σ H _ _ u1 u2 Q I r1 r2 ⟨i, j, rfl, rfl, okK.flat ok h (.bl _)⟩
    | _ => exact h.elim
  | @str a ka =>
    cases q2 with
    | @str b kb => exact op_gt_str pins s σ H _ _ u1 u2 Q I r1 r2 ⟨_, _, rfl, rfl, by rw [sOf_toL, sOf_toL]; exact okK.flat ok h (.bl _)⟩
    | _ => exact h.elim
  | _ => exact h.elim
theorem od_le : OpD T X (compareOp .LtE) opLe := by
  intro pins s σ H v1 v2 u1 u2 Q I r1 r2 ⟨F, S, x, y, ok, q1, q2, h⟩
  cases q1 with
  | int i =>
    cases q2 with
    | int j => exact op_le pins s σ H _ _ u1 u2 Q I r1 r2 ⟨i, j, rfl, rfl, okK.flat ok h (.bl _)⟩
    | _ => exact h.elim
  | @str a ka =>
    cases q2 with
    | @str b kb => exact op_le_str pins s σ H _ _ u1 u2 Q I r1 r2 ⟨_, _, rfl, rfl, by rw [sOf_toL, sOf_toL]; exact okK.flat ok h (.bl _)⟩
    | _ => exact h.elim
  | _ => exact h.elim
theorem od_ge : OpD T X (compareOp .GtE) opGe := by
  intro pins s σ H v1 v2 u1 u2 Q I r1 r2 ⟨F, S, x, y, ok, q1, q2, h⟩
  cases q1 with
  | int i =>
    cases q2 with
    | int j => exact op_ge pins s σ H _ _ u1 u2 Q I r1 r2 ⟨i, j, rfl, rfl, okK.flat ok h (.bl _)⟩
    | _ => exact h.elim
  | @str a ka =>
    cases q2 with
    | @str b kb => exact op_ge_str pins s σ H _ _ u1 u2 Q I r1 r2 ⟨_, _, rfl, rfl, by rw [sOf_toL, sOf_toL]; exact okK.flat ok h (.bl _)⟩
    | _ => exact h.elim
  | _ => exact h.elim

/-! ### ==, in, is -/
mutual
def toPy : D → PyData
  | .non => .none
  | .bl b => .bool b
  | .int i => .int i
  | .str s => .str (sOf s)
  | .tup ds => .tuple (toPyL ds)
  | .lst ds => .list (toPyL ds)
  | .obj _ => .dict []
  | .cst _ => .dict []
  | .scr _ => .dict []
def toPyL : List D → List PyData
  | [] => []
  | d :: ds => toPy d :: toPyL ds
end
mutual
/-- data at most n deep -/
def dok : Nat → D → Bool
  | _, .non => true
  | _, .bl _ => true
  | _, .int _ => true
  | _, .str _ => true
  | 0, .tup _ => false
  | 0, .lst _ => false
  | n + 1, .tup ds => dokL n ds
  | n + 1, .lst ds => dokL n ds
  | _, .obj _ => false
  | _, .cst _ => false
  | _, .scr _ => false
def dokL : Nat → List D → Bool
  | _, [] => true
  | n, d :: ds => dok n d && dokL n ds
end
def eqD (x y : D) : Bool := PyData.eqv (toPy x) (toPy y)
def der (S : Sto) : D → D
  | .obj a => (match S a with | some (.lst ds) => .lst ds | _ => .obj a)
  | d => d
theorem der_rep (ok : Ok T F S H) {d : D} {v : V} (r : Rep F H d v) : ∃ K0 : Unit, (der S d = d ∨ ∃ a ds xs, d = .obj a ∧ v = .ref a ∧ der S d = .lst ds ∧ H a = some (.lst xs) ∧ RepL F H ds xs) := by
  refine ⟨(), ?_⟩
  cases r with
  | obj a =>
    show (match S a with | some (.lst ds) => D.lst ds | _ => .obj a) = .obj a ∨ _
    cases e : S a with
    | none => exact .inl rfl
    | some m =>
      cases m with
      | lst ds =>
        obtain ⟨xs, h1, h2, _⟩ := ok.st a _ e
        exact .inr ⟨a, ds, xs, rfl, rfl, by show (match S a with | some (.lst ds) => D.lst ds | _ => .obj a) = _; rw [e], h1, h2⟩
      | drum => exact .inl rfl
  | _ => exact .inl rfl
theorem strOk_of {s : List Nat} (h : sOk s) : PyData.strOk (sOf s) = true := by
  unfold PyData.strOk
  rw [Array.all_eq_true']
  intro x hx
  have : x ∈ s := by simpa [sOf] using hx
  exact decide_eq_true (h.1 x this)
mutual
theorem dp_of {K : PySem.W.Frag} : ∀ (d : D) (v : V) (n : Nat), Rep F H d v → dok n d = true → Dp K H v (toPy d) ∧ (toPy d).canLay0 = true ∧ (toPy d).depth ≤ n
  | .non, v, n, r, _ => by cases r; exact ⟨.non, rfl, Nat.zero_le _⟩
  | .bl b, v, n, r, _ => by cases r; exact ⟨.bl b, rfl, Nat.zero_le _⟩
  | .int i, v, n, r, _ => by cases r; exact ⟨.int i, rfl, Nat.zero_le _⟩
  | .str s, v, n, r, _ => by
    cases r with
    | str k => exact ⟨.str _, strOk_of k, Nat.zero_le _⟩
  | .tup ds, v, 0, r, h => by simp [dok] at h
  | .lst ds, v, 0, r, h => by simp [dok] at h
  | .tup ds, v, n + 1, r, h => by
    cases r with
    | tup f e k l =>
      obtain ⟨a, b, c⟩ := dp_ofL ds _ n k (by simpa [dok] using h)
      exact ⟨.tup (.inl (.inl e)) a, by simpa [toPy, PyData.canLay0] using b, by simp only [toPy, PyData.depth]; omega⟩
  | .lst ds, v, n + 1, r, h => by
    cases r with
    | lst f e k l =>
      obtain ⟨a, b, c⟩ := dp_ofL ds _ n k (by simpa [dok] using h)
      exact ⟨.lst (.inl (.inl e)) a, by simpa [toPy, PyData.canLay0] using b, by simp only [toPy, PyData.depth]; omega⟩
  | .obj _, v, n, r, h => by simp [dok] at h
  | .cst _, v, n, r, h => by simp [dok] at h
  | .scr _, v, n, r, h => by simp [dok] at h
theorem dp_ofL {K : PySem.W.Frag} : ∀ (ds : List D) (vs : List V) (n : Nat), RepL F H ds vs → dokL n ds = true → DpAll K H vs (toPyL ds) ∧ PyData.canLayAll0 (toPyL ds) = true ∧ PyData.depthAll (toPyL ds) ≤ n
  | [], vs, n, r, _ => by cases r; exact ⟨.nil, rfl, Nat.zero_le _⟩
  | d :: ds, vs, n, r, h => by
    cases r with
    | cons r1 r2 =>
      have h : (dok n d && dokL n ds) = true := by simpa [dokL] using h
      rw [Bool.and_eq_true] at h
      obtain ⟨a1, a2, a3⟩ := dp_of (K := K) d _ n r1 h.1
      obtain ⟨b1, b2, b3⟩ := dp_ofL ds _ n r2 h.2
      exact ⟨.cons a1 b1, by simp only [toPyL, PyData.canLayAll0, a2, b2, Bool.and_self], by simp only [toPyL, PyData.depthAll]; omega⟩
end
theorem dp_der {K : PySem.W.Frag} (ok : Ok T F S H) {d : D} {v : V} (r : Rep F H d v) (h : dok 60 (der S d) = true) : Dp K H v (toPy (der S d)) ∧ SeqAt.shaped (toPy (der S d)) = true := by
  have fin : ∀ {e : PyData}, e.canLay0 = true → e.depth ≤ 60 → SeqAt.shaped e = true := fun {e} h1 h2 => by
    unfold SeqAt.shaped
    rw [h1, Bool.true_and]
    exact decide_eq_true (by omega)
  obtain ⟨_, e | ⟨a, ds, xs, rfl, rfl, e, h1, h2⟩⟩ := der_rep ok r
  · rw [e] at h ⊢
    obtain ⟨a, b, c⟩ := dp_of (K := K) d v 60 r h
    exact ⟨a, fin b c⟩
  · rw [e] at h ⊢
    have h : dokL 59 ds = true := by simpa [dok] using h
    obtain ⟨a', b, c⟩ := dp_ofL (K := K) ds xs 59 h2 h
    have e1 : toPy (.lst ds) = .list (toPyL ds) := by simp [toPy]
    rw [e1]
    exact ⟨.lst (.inl (.inl h1)) a', fin (by simpa [PyData.canLay0] using b) (by simp only [PyData.depth]; omega)⟩
def eqOk (S : Sto) (x y : D) : Bool := dok 60 (der S x) && dok 60 (der S y)
def opEq : O2 := fun S x y => .pre (eqOk S x y = true) (.bl (eqD (der S x) (der S y)))
def opNe : O2 := fun S x y => .pre (eqOk S x y = true) (.bl (!eqD (der S x) (der S y)))
theorem od_eq {k : Nat} (hr : Room k X.A) : OpD T X (compareOp .Eq) opEq := by
  intro pins s σ H v1 v2 u1 u2 Q I r1 r2 ⟨F, S, x, y, ok, q1, q2, hp, h⟩
  rw [eqOk, Bool.and_eq_true] at hp
  obtain ⟨a1, a2⟩ := dp_der (K := X.K) ok q1 hp.1
  obtain ⟨b1, b2⟩ := dp_der (K := X.K) ok q2 hp.2
  exact op_eqD hr.units pins s σ H _ _ u1 u2 Q I r1 r2 ⟨_, _, a1, b1, a2, b2, okK.flat ok h (.bl _)⟩
theorem od_ne {k : Nat} (hr : Room k X.A) : OpD T X (compareOp .NotEq) opNe := by
  intro pins s σ H v1 v2 u1 u2 Q I r1 r2 ⟨F, S, x, y, ok, q1, q2, hp, h⟩
  rw [eqOk, Bool.and_eq_true] at hp
  obtain ⟨a1, a2⟩ := dp_der (K := X.K) ok q1 hp.1
  obtain ⟨b1, b2⟩ := dp_der (K := X.K) ok q2 hp.2
  exact op_neD hr.units pins s σ H _ _ u1 u2 Q I r1 r2 ⟨_, _, a1, b1, a2, b2, okK.flat ok h (.bl _)⟩
/-- None, bools, ints, texts -/
def flt : D → Bool
  | .non => true
  | .bl _ => true
  | .int _ => true
  | .str _ => true
  | _ => false
theorem flt_V {d : D} {v : V} (r : Rep F H d v) (h : flt d = true) : flatV v = true := by
  cases r with
  | non => rfl
  | bl b => rfl
  | int i => rfl
  | str k => rfl
  | _ => cases h
theorem eqV_D {d e : D} {v u : V} (r : Rep F H d v) (q : Rep F H e u) (h1 : flt d = true) (h2 : flt e = true) : eqV v u = eqD d e := by
  cases r with
  | non =>
    cases q with
    | non => rfl
    | bl b => rfl
    | int i => rfl
    | str k => rfl
    | _ => cases h2
  | bl a =>
    cases q with
    | non => rfl
    | bl b => rfl
    | int i => rfl
    | str k => rfl
    | _ => cases h2
  | int a =>
    cases q with
    | non => rfl
    | bl b => rfl
    | int i => rfl
    | str k => rfl
    | _ => cases h2
  | str ka =>
    cases q with
    | non => rfl
    | bl b => rfl
    | int i => rfl
    | str k => rfl
    | _ => cases h2
  | _ => cases h1
theorem flat_all : ∀ {ds : List D} {vs : List V}, RepL F H ds vs → ds.all flt = true → vs.all flatV = true
  | [], _, r, _ => by cases r; rfl
  | d :: ds, _, r, h => by
    cases r with
    | cons a b =>
      rw [List.all_cons, Bool.and_eq_true] at h ⊢
      exact ⟨flt_V a h.1, flat_all b h.2⟩
theorem inV_D {x : D} {v : V} (rx : Rep F H x v) (hx : flt x = true) : ∀ {ds : List D} {vs : List V}, RepL F H ds vs → ds.all flt = true → inV v vs = ds.any fun d => eqD d x
  | [], _, r, _ => by cases r; rfl
  | d :: ds, _, r, h => by
    cases r with
    | cons a b =>
      rw [List.all_cons, Bool.and_eq_true] at h
      have ih := inV_D rx hx b h.2
      unfold inV at ih ⊢
      rw [List.any_cons, List.any_cons, ih, eqV_D a rx h.1 hx]
def opInB (f : Bool → Bool) : O2 := fun S x y => match y with
  | .str z => (match x with | .str [c] => .ok (.bl (f (decide (c ∈ z)))) | _ => .no)
  | y => (match seqOf S y with | some ds => .pre (flt x = true ∧ ds.all flt = true) (.bl (f (ds.any fun d => eqD d x))) | none => .no)
def opIn : O2 := opInB fun b => b
def opNi : O2 := opInB fun b => !b
theorem opInB_seq {f : Bool → Bool} {S : Sto} {x y : D} {P : D → Prop} (hy : ∀ z, y ≠ .str z) (h : (opInB f S x y).wp P) : ∃ ds, seqOf S y = some ds ∧ flt x = true ∧ ds.all flt = true ∧ P (.bl (f (ds.any fun d => eqD d x))) := by
  have go : ((match seqOf S y with | some ds => PR.pre (flt x = true ∧ ds.all flt = true) (.bl (f (ds.any fun d => eqD d x))) | none => .no).wp P) → ∃ ds, seqOf S y = some ds ∧ flt x = true ∧ ds.all flt = true ∧ P (.bl (f (ds.any fun d => eqD d x))) := fun h => by
    cases e : seqOf S y with
    | none => rw [e] at h; exact h.elim
    | some ds => rw [e] at h; exact ⟨ds, rfl, h.1.1, h.1.2, h.2⟩
  cases y with
  | str z => exact absurd rfl (hy z)
  | _ => exact go h
theorem od_in : OpD T X (compareOp .In) opIn := by
  intro pins s σ H v1 v2 u1 u2 Q I r1 r2 ⟨F, S, x, y, ok, q1, q2, h⟩
  by_cases hy : ∃ z, y = .str z
  · obtain ⟨z, rfl⟩ := hy
    cases q2 with
    | str kz =>
      cases q1 with
      | @str a ka =>
        match a, h with
        | [c], h => exact op_in_sign pins s σ H _ _ u1 u2 Q I r1 r2 ⟨c, sOf z, rfl, rfl, by rw [sOf_toL]; exact okK.flat ok h (.bl _)⟩
        | [], h => exact h.elim
        | _ :: _ :: _, h => exact h.elim
      | _ => exact h.elim
  · obtain ⟨ds, e, f1, f2, h⟩ := opInB_seq (fun z e => hy ⟨z, e⟩) h
    obtain ⟨a, xs, rfl, hs, k, _⟩ := seq_of ok (K := X.K) q2 e
    refine op_in_seq pins s σ H _ _ u1 u2 Q I r1 r2 ⟨a, xs, rfl, hs, flt_V q1 f1, flat_all k f2, ?_⟩
    rw [if_neg Bool.false_ne_true, inV_D q1 f1 k f2]
    exact okK.flat ok h (.bl _)
theorem od_ni : OpD T X (compareOp .NotIn) opNi := by
  intro pins s σ H v1 v2 u1 u2 Q I r1 r2 ⟨F, S, x, y, ok, q1, q2, h⟩
  by_cases hy : ∃ z, y = .str z
  · obtain ⟨z, rfl⟩ := hy
    cases q2 with
    | str kz =>
      cases q1 with
      | @str a ka =>
        match a, h with
        | [c], h => exact op_notIn_sign pins s σ H _ _ u1 u2 Q I r1 r2 ⟨c, sOf z, rfl, rfl, by rw [sOf_toL]; exact okK.flat ok h (.bl _)⟩
        | [], h => exact h.elim
        | _ :: _ :: _, h => exact h.elim
      | _ => exact h.elim
  · obtain ⟨ds, e, f1, f2, h⟩ := opInB_seq (fun z e => hy ⟨z, e⟩) h
    obtain ⟨a, xs, rfl, hs, k, _⟩ := seq_of ok (K := X.K) q2 e
    refine op_notIn_seq pins s σ H _ _ u1 u2 Q I r1 r2 ⟨a, xs, rfl, hs, flt_V q1 f1, flat_all k f2, ?_⟩
    rw [if_pos rfl, inV_D q1 f1 k f2]
    exact okK.flat ok h (.bl _)
def isNon : D → Option Bool
  | .non => some true
  | .cst _ => none
  | _ => some false
def opIsB (f : Bool → Bool) : O2 := fun _ x y => match y with
  | .non => (match isNon x with | some b => .ok (.bl (f b)) | none => .no)
  | .bl b => (match x with | .bl a => .ok (.bl (f (decide (a = b)))) | _ => .no)
  | _ => .no
def opIs : O2 := opIsB fun b => b
def opIsn : O2 := opIsB fun b => !b
theorem isNon_V {d : D} {v : V} {b : Bool} (r : Rep F H d v) (e : isNon d = some b) : decide (v = .non) = b := by
  cases r with
  | cst v => cases e
  | non => cases e; rfl
  | _ => cases e; rfl
theorem od_is : OpD T X (compareOp .Is) opIs := by
  intro pins s σ H v1 v2 u1 u2 Q I r1 r2 ⟨F, S, x, y, ok, q1, q2, h⟩
  cases q2 with
  | non =>
    have h : (match isNon x with | some b => PR.ok (.bl b) | none => .no).wp _ := h
    cases e : isNon x with
    | none => rw [e] at h; exact h.elim
    | some b =>
      rw [e] at h
      exact op_isN pins s σ H _ _ u1 u2 Q I r1 r2 ⟨rfl, by rw [isNon_V q1 e]; exact okK.flat ok h (.bl _)⟩
  | bl b =>
    cases q1 with
    | bl a => exact op_isBl pins s σ H _ _ u1 u2 Q I r1 r2 ⟨a, b, rfl, rfl, okK.flat ok h (.bl _)⟩
    | _ => exact h.elim
  | _ => exact h.elim
theorem od_isn : OpD T X (compareOp .IsNot) opIsn := by
  intro pins s σ H v1 v2 u1 u2 Q I r1 r2 ⟨F, S, x, y, ok, q1, q2, h⟩
  cases q2 with
  | non =>
    have h : (match isNon x with | some b => PR.ok (.bl (!b)) | none => .no).wp _ := h
    cases e : isNon x with
    | none => rw [e] at h; exact h.elim
    | some b =>
      rw [e] at h
      exact op_notN pins s σ H _ _ u1 u2 Q I r1 r2 ⟨rfl, by rw [isNon_V q1 e]; exact okK.flat ok h (.bl _)⟩
  | bl b =>
    cases q1 with
    | bl a => exact op_notBl pins s σ H _ _ u1 u2 Q I r1 r2 ⟨a, b, rfl, rfl, okK.flat ok h (.bl _)⟩
    | _ => exact h.elim
  | _ => exact h.elim

/-! ### one operand -/
def rD1 (T : Tp) (op : O1) : V → Hp → VK → Prop := fun v1 H Q => ∃ F S x, Ok T F S H ∧ Rep F H x v1 ∧ (op S x).wp fun z => okK T F S H Q z S
def dU (op : O1) (ua : ET) : ET := fun env S Q R => ua env S (fun x S1 => (op S1 x).wp fun z => Q z S1) R
theorem mon_U {op : O1} {ua : ET} (ha : Mon ua) : Mon (dU op ua) := fun env S Q Q' R R' h hR w => ha _ _ _ _ _ _ (fun x S1 w1 => PR.mono (fun d => h d S1) w1) hR w
theorem je_un {a : Expr} {o : UnaryOp} {op : O1} {ua : ET} {pos : Pos} (ho : UnR X (unaryOp o) (rD1 T op)) (ha : JE T X a ua) : JE T X (.UnaryOp o a pos) (dU op ua) := by
  refine ⟨mon_U ha.mon, fun W tk => (pe_un ho (ha.run W tk)).weak ?_⟩
  rintro σ H Q ⟨env, S, F, er, ok, w⟩
  refine ⟨env, S, F, er, ok, ha.mon _ _ _ _ _ _ (fun x S1 w1 v1 H1 F1 ok1 ex1 r1 => ?_) (fun _ _ z => z) w⟩
  exact ⟨F1, S1, x, ok1, r1, PR.mono (fun z q => okK.back ex1 z S1 q) w1⟩
def opNeg : O1 := fun _ x => match x with
  | .int i => .ok (.int (-i))
  | _ => .no
theorem ou_neg : UnR X (unaryOp .USub) (rD1 T opNeg) := by
  intro pins s σ H v1 u1 Q I r1 ⟨F, S, x, ok, q1, h⟩
  cases q1 with
  | int i => exact un_neg pins s σ H _ u1 Q I r1 ⟨i, rfl, okK.flat ok h (.int _)⟩
  | _ => exact h.elim

/-! ### places and slices -/
def opIx : O2 := fun S x y => match y with
  | .int i => (match x with
    | .str s => (match atI s i with | some c => .ok (.str [c]) | none => .no)
    | x => (match seqOf S x with | some ds => (match atI ds i with | some d => .ok d | none => .no) | none => .no))
  | _ => .no
theorem atI_rep {ds : List D} {xs : List V} {i : Int} {d : D} (r : RepL F H ds xs) (e : atI ds i = some d) : ∃ v, atI xs i = some v ∧ Rep F H d v := by
  unfold atI at e ⊢
  rw [← r.length]
  cases h : ixN ds.length i with
  | none => rw [h] at e; cases e
  | some j =>
    rw [h] at e
    exact r.get e
theorem atI_mem {α : Type} {s : List α} {i : Int} {c : α} (e : atI s i = some c) : c ∈ s := by
  unfold atI at e
  cases h : ixN s.length i with
  | none => rw [h] at e; cases e
  | some j => rw [h] at e; exact List.mem_of_getElem? e
theorem oi_ix : IxR X (rD T opIx) := by
  intro value slice pins s σ H v1 v2 u1 u2 Q I r1 r2 ⟨F, S, x, y, ok, q1, q2, h⟩
  cases q2 with
  | int i =>
    have other : (∀ s, x ≠ .str s) → ((match seqOf S x with | some ds => (match atI ds i with | some d => PR.ok d | none => .no) | none => .no).wp fun z => okK T F S H Q z S) → rIx X.K v1 (.int i) H Q := fun hx h => by
      cases e : seqOf S x with
      | none => rw [e] at h; exact h.elim
      | some ds =>
        rw [e] at h
        obtain ⟨a, xs, rfl, hs, k, _⟩ := seq_of ok (K := X.K) q1 e
        cases e2 : atI ds i with
        | none => simp only [e2] at h; exact h.elim
        | some d =>
          simp only [e2] at h
          obtain ⟨v, ev, rv⟩ := atI_rep k e2
          have q := okK.flat ok h rv
          rcases hs with hs | hs
          · exact .inl ⟨a, xs, i, v, rfl, rfl, hs, ev, q⟩
          · exact .inr (.inl ⟨a, xs, i, v, rfl, rfl, hs, ev, q⟩)
    refine ix_seq value slice pins s σ H _ _ u1 u2 Q I r1 r2 ?_
    cases q1 with
    | @str s ks =>
      have h : (match atI s i with | some c => PR.ok (.str [c]) | none => .no).wp _ := h
      cases e : atI s i with
      | none => rw [e] at h; exact h.elim
      | some c =>
        rw [e] at h
        exact .inr (.inr ⟨sOf s, i, c, rfl, rfl, by rw [sOf_len, sizeLine_eq]; exact ks.2, by rw [sOf_toL]; exact e, okK.flat ok h (.str ⟨fun c' hc => by
          have : c' = c := by simpa using hc
          rw [this]; exact ks.1 c (atI_mem e), by show (1 : Nat) ≤ 16777216; decide⟩)⟩)
    | non => exact other (fun _ z => by cases z) h
    | bl b => exact other (fun _ z => by cases z) h
    | int b => exact other (fun _ z => by cases z) h
    | cst b => exact other (fun _ z => by cases z) h
    | obj b => exact other (fun _ z => by cases z) h
    | tup _ _ _ _ => exact other (fun _ z => by cases z) h
    | lst _ _ _ _ => exact other (fun _ z => by cases z) h
    | scr _ _ _ => exact other (fun _ z => by cases z) h
    | scK _ _ => exact other (fun _ z => by cases z) h
  | _ => exact h.elim
theorem je_ix {a b : Expr} {ua ub : ET} {pos : Pos} (ha : JE T X a ua) (hb : JE T X b ub) (hs : PlainIx b := by exact fun _ _ => rfl) : JE T X (.Subscript a b pos) (dB opIx ua ub) :=
  ⟨mon_B ha.mon hb.mon, fun W tk => (pe_ix oi_ix (ha.run W tk) (hb.run W tk) hs).weak fun _ _ _ h => up_B ha.mon hb.mon h⟩
/-- an end of a slice -/
abbrev OT := DEnv → Sto → (Option Int → Sto → Prop) → RK → Prop
def oN : OT := fun _ S Q _ => Q none S
def oS (u : ET) : OT := fun env S Q R => u env S (fun d S1 => match d with | .int i => Q (some i) S1 | _ => False) R
def upO (T : Tp) (W : WX) (u : OT) : TO := fun σ H Q => ∃ env S F, EnvRel F H σ env ∧ Ok T F S H ∧ u env S (fun o S' => ∀ H' F', Ok T F' S' H' → Ext F S H F' S' H' → Q o H') (erK T F S H σ W)
structure JO (T : Tp) (X : Cx) (e : Option Expr) (u : OT) : Prop where
  mon : ∀ env S Q Q' R R', (∀ d S, Q d S → Q' d S) → (∀ e S, R e S → R' e S) → u env S Q R → u env S Q' R'
  run : ∀ W, L2N.Takes X W → PO X e (upO T W u)
theorem jo_none : JO T X none oN := by
  refine ⟨fun _ _ _ _ _ _ h _ w => h _ _ w, fun W tk => ⟨fun pins s σ H Q I h => ?_⟩⟩
  obtain ⟨env, S, F, er, ok, w⟩ := h
  exact po_none.run pins s σ H Q I (w H F ok Ext.refl)
theorem jo_some {e : Expr} {u : ET} (h : JE T X e u) : JO T X (some e) (oS u) := by
  refine ⟨fun _ _ _ _ _ _ hq hR w => h.mon _ _ _ _ _ _ (fun d S1 w1 => by
    cases d with
    | int i => exact hq _ _ w1
    | _ => exact w1) hR w, fun W tk => ⟨fun pins s σ H Q I hh => ?_⟩⟩
  obtain ⟨env, S, F, er, ok, w⟩ := hh
  refine (po_some (h.run W tk)).run pins s σ H Q I ⟨env, S, F, er, ok, h.mon _ _ _ _ _ _ (fun d S1 w1 v1 H1 F1 ok1 ex1 r1 => ?_) (fun _ _ z => z) w⟩
  cases d with
  | int i => cases r1; exact ⟨i, rfl, w1 H1 F1 ok1 ex1⟩
  | _ => exact w1.elim
def cut {α : Type} (xs : List α) (lo hi : Option Int) : List α := (xs.drop (HT.sIx xs.length 0 lo)).take (HT.sIx xs.length xs.length hi - HT.sIx xs.length 0 lo)
def slD (S : Sto) (x : D) (lo hi : Option Int) : Option D := match x with
  | .str s => some (.str (cut s lo hi))
  | .tup ds => some (.tup (cut ds lo hi))
  | x => (match lstOf S x with | some ds => some (.lst (cut ds lo hi)) | none => none)
def dSl (ua : ET) (ol oh : OT) : ET := fun env S Q R => ua env S (fun x S1 => ol env S1 (fun l S2 => oh env S2 (fun h S3 => match slD S3 x l h with | some d => Q d S3 | none => False) R) R) R
theorem cut_rep {ds : List D} {xs : List V} (r : RepL F H ds xs) (lo hi : Option Int) : RepL F H (cut ds lo hi) (cutV xs lo hi) := by
  unfold cut cutV
  rw [← r.length]
  exact (r.drop _).take _
theorem cut_mem {α : Type} {xs : List α} {lo hi : Option Int} {c : α} (h : c ∈ cut xs lo hi) : c ∈ xs := by
  unfold cut at h
  exact List.mem_of_mem_drop (List.mem_of_mem_take h)
theorem cut_len {α : Type} (xs : List α) (lo hi : Option Int) : (cut xs lo hi).length ≤ xs.length := by
  unfold cut
  rw [List.length_take, List.length_drop]
  omega
theorem cut_sOf (s : List Nat) (lo hi : Option Int) : cutS (sOf s) lo hi = sOf (cut s lo hi) := by
  unfold cutS cut
  rw [sOf_len, sOf_toL]
  rfl
theorem cut_whole {α : Type} {xs : List α} {lo hi : Option Int} (h : HT.sIx xs.length 0 lo = 0 ∧ HT.sIx xs.length xs.length hi = xs.length) : cut xs lo hi = xs := by
  unfold cut
  rw [h.1, h.2, Nat.sub_zero, List.drop_zero, List.take_length]
theorem os_sl : SlR X (fun v l h H Q => ∃ F S x d, Ok T F S H ∧ Rep F H x v ∧ slD S x l h = some d ∧ okK T F S H Q d S) := by
  intro pins s σ H v u vl vu lo hi sl Q I rx hs pl pu ⟨F, S, x, d, ok, q1, e, h⟩
  have other : ∀ {v : V} {x : D}, Rep F H x v → (match lstOf S x with | some ds => some (D.lst (cut ds lo hi)) | none => none) = some d → rSlL X.K v lo hi H Q := fun {v x} q1 e => by
    cases e2 : lstOf S x with
    | none => rw [e2] at e; cases e
    | some ds =>
      rw [e2] at e
      cases e
      obtain ⟨a, xs, rfl, ha, k, l⟩ := list_of ok q1 e2
      exact ⟨a, xs, rfl, .inl (.inl ha), okK.newL ok h (cut_rep k lo hi) (Nat.le_trans (cut_len _ _ _) l)⟩
  refine (sl_str.or (sl_tupA.or sl_list)) pins s σ H v u vl vu lo hi sl Q I rx hs pl pu ?_
  cases q1 with
  | @str z kz =>
    cases e
    exact .inl ⟨sOf z, rfl, by rw [sOf_len, sizeLine_eq]; exact kz.2, by
      rw [cut_sOf]; exact okK.flat ok h (.str ⟨fun c hc => kz.1 c (cut_mem hc), Nat.le_trans (cut_len _ _ _) kz.2⟩)⟩
  | @tup a xs ds f hh k l =>
    cases e
    refine .inr (.inl ⟨a, xs, rfl, .inl (.inl hh), fun w => ?_, fun _ => okK.newT ok h (cut_rep k lo hi) (Nat.le_trans (cut_len _ _ _) l)⟩)
    rw [← k.length] at w
    rw [cut_whole w] at h
    exact okK.flat ok h (.tup f hh k l)
  | non => exact .inr (.inr (other .non e))
  | bl b => exact .inr (.inr (other (.bl b) e))
  | int b => exact .inr (.inr (other (.int b) e))
  | cst b => cases e
  | obj b => exact .inr (.inr (other (.obj b) e))
  | lst f hh k l => exact .inr (.inr (other (.lst f hh k l) e))
  | scr f hh l => cases e
  | scK hh l => cases e
theorem je_sl {e : Expr} {lo hi : Option Expr} {ua : ET} {ol oh : OT} {p2 pos : Pos} (ha : JE T X e ua) (hl : JO T X lo ol) (hh : JO T X hi oh) : JE T X (.Subscript e (.Slice lo hi none p2) pos) (dSl ua ol oh) := by
  refine ⟨fun _ _ _ _ _ _ hq hR w => ha.mon _ _ _ _ _ _ (fun x S1 w1 => hl.mon _ _ _ _ _ _ (fun l S2 w2 => hh.mon _ _ _ _ _ _ (fun h S3 w3 => by
    revert w3
    show (match slD S3 x l h with | some d => _ | none => False) → (match slD S3 x l h with | some d => _ | none => False)
    cases slD S3 x l h with
    | none => exact fun w => w
    | some d => exact fun w => hq _ _ w) hR w2) hR w1) hR w, fun W tk => (pe_slice (os_sl (T := T)) (ha.run W tk) (hl.run W tk) (hh.run W tk)).weak ?_⟩
  rintro σ H Q ⟨env, S, F, er, ok, w⟩
  refine ⟨env, S, F, er, ok, ha.mon _ _ _ _ _ _ (fun x S1 w1 v1 H1 F1 ok1 ex1 r1 => ?_) (fun _ _ z => z) w⟩
  refine ⟨env, S1, F1, er.ext ok ex1, ok1, hl.mon _ _ _ _ _ _ (fun l S2 w2 H2 F2 ok2 ex2 => ?_) (fun e S' z => erK.back ex1 e S' z) w1⟩
  have e12 := ex1.trans ex2
  refine ⟨env, S2, F2, er.ext ok e12, ok2, hh.mon _ _ _ _ _ _ (fun h S3 w3 H3 F3 ok3 ex3 => ?_) (fun e S' z => erK.back e12 e S' z) w2⟩
  cases es : slD S3 x l h with
  | none => rw [es] at w3; exact w3.elim
  | some d =>
    rw [es] at w3
    exact ⟨F3, S3, x, d, ok3, Rep.ext ok1 (ex2.trans ex3) x v1 r1, es, okK.back (e12.trans ex3) d S3 w3⟩
end
end DL

namespace DL
open PySem PySem.Spec PyProof.Rows L2

/-- what a def hands back: a value, an error, one of some values, a new object -/
inductive RS where
  | ret (z : D) | err (e : Er) | pre (p : Prop) (r : RS) | any (P : D → Prop) | new (m : MO) | put (a : Addr) (m : MO) (z : D) | all (z : D) | no
def RS.wp (S : Sto) : RS → DK → RK → Prop
  | .ret z, Q, _ => Q z S
  | .err e, _, R => R e S
  | .pre p r, Q, R => p ∧ RS.wp S r Q R
  | .any P, Q, _ => ∀ d, P d → Q d S
  | .new m, Q, _ => ∀ a, S a = none → Q (.obj a) (DL.put S a m)
  | .put a m z, Q, _ => Q z (DL.put S a m)
  | .all z, Q, _ => ∀ S', Q z S'
  | .no, _, _ => False
theorem RS.mono {S : Sto} {Q Q' : DK} {R R' : RK} (h : ∀ d S, Q d S → Q' d S) (hR : ∀ e S, R e S → R' e S) : ∀ {r : RS}, r.wp S Q R → r.wp S Q' R'
  | .ret z, w => h _ _ w
  | .err e, w => hR _ _ w
  | .pre p r, w => ⟨w.1, RS.mono h hR w.2⟩
  | .any P, w => fun d p => h _ _ (w d p)
  | .new m, w => fun a ha => h _ _ (w a ha)
  | .put a m z, w => h _ _ w
  | .all z, w => fun S' => h _ _ (w S')
  | .no, w => w
/-- a def's promise over deep values -/
structure DSp where
  n : Nat
  g : Sto → List D → RS
  len : ∀ S ds Q R, (g S ds).wp S Q R → ds.length = n
def sp0 (g : Sto → RS) : DSp := ⟨0, fun S ds => match ds with | [] => g S | _ => .no, fun S ds Q R h => by
  match ds, h with
  | [], _ => rfl
  | _ :: _, h => exact h.elim⟩
def sp1 (g : Sto → D → RS) : DSp := ⟨1, fun S ds => match ds with | [x] => g S x | _ => .no, fun S ds Q R h => by
  match ds, h with
  | [_], _ => rfl
  | [], h => exact h.elim
  | _ :: _ :: _, h => exact h.elim⟩
def sp2 (g : Sto → D → D → RS) : DSp := ⟨2, fun S ds => match ds with | [x, y] => g S x y | _ => .no, fun S ds Q R h => by
  match ds, h with
  | [_, _], _ => rfl
  | [], h => exact h.elim
  | [_], h => exact h.elim
  | _ :: _ :: _ :: _, h => exact h.elim⟩
def sp3 (g : Sto → D → D → D → RS) : DSp := ⟨3, fun S ds => match ds with | [x, y, z] => g S x y z | _ => .no, fun S ds Q R h => by
  match ds, h with
  | [_, _, _], _ => rfl
  | [], h => exact h.elim
  | [_], h => exact h.elim
  | [_, _], h => exact h.elim
  | _ :: _ :: _ :: _ :: _, h => exact h.elim⟩
def sp4 (g : Sto → D → D → D → D → RS) : DSp := ⟨4, fun S ds => match ds with | [x, y, z, w] => g S x y z w | _ => .no, fun S ds Q R h => by
  match ds, h with
  | [_, _, _, _], _ => rfl
  | [], h => exact h.elim
  | [_], h => exact h.elim
  | [_, _], h => exact h.elim
  | [_, _, _], h => exact h.elim
  | _ :: _ :: _ :: _ :: _ :: _, h => exact h.elim⟩
def upSp (T : Tp) (sp : DSp) : Sp := fun vs H Q E => ∃ ds S F, RepL F H ds vs ∧ Ok T F S H ∧ (sp.g S ds).wp S (okK T F S H Q) (erE T F S H E)

section
variable {T : Tp} {X : Cx} {F F' : Fz} {S S' : Sto} {H H' : Hp} {σ : L2.St} {W : WX}
/-! ### calls -/
def dCall (sp : DSp) (t : AT) : ET := fun env S Q R => t env S (fun ds S1 => (sp.g S1 ds).wp S1 Q R) R
theorem mon_Call {sp : DSp} {t : AT} (ht : MonA t) : Mon (dCall sp t) := fun _ _ _ _ _ _ hq hR w => ht _ _ _ _ _ _ (fun _ _ w1 => RS.mono hq hR w1) hR w
variable {x : Str} {p pos : Pos} {e : Expr} {es : List Expr} {t : AT} {sp : DSp}
theorem erK_erE {σ : L2.St} {W : WX} : ∀ e S', erK T F S H σ W e S' → erE T F S H (WE W σ) e S' := fun e S' h => h
theorem je_call {k : Nat} {f : Addr} {fd : FuncData} {ps : List Str} (G : FnOk X.prog X.w X.K X.mg X.base (L2N.CX X.prog X.w) k f fd ps (upSp T sp)) (hr : Room k X.A) (hm : X.mg x = some (.ref f)) (hk : PySem.W.keepIn X.K (.ref f) = true) (hb : L2.Binds X.K fd ps [])
    (ha : JA T X (e :: es) t) (hg : Gl X x := by rfl) (hdb : (x == ("__debug__" : Str)) = false := by decide) (he : starEach (e :: es) X.env = (false, eval e X.env) :: starEach es X.env := by rfl) (hpl : (backTo pos (starEach es X.env)).any (·.1) = false := by rfl) :
    JE T X (.Call (.Name x p) (e :: es) [] pos) (dCall sp t) := by
  refine ⟨mon_Call ha.mon, fun W tk => (pe_callS G hr hg hm hk hb (fun σ => L2N.passAt tk σ) (ha.run W tk) hdb he hpl).weak ?_⟩
  rintro σ H Q ⟨env, S, F, er, ok, w⟩
  refine ⟨env, S, F, er, ok, ha.mon _ _ _ _ _ _ (fun ds S1 w1 vs H1 F1 ok1 ex1 r1 => ?_) (fun _ _ z => z) w⟩
  exact ⟨ds, S1, F1, r1, ok1, RS.mono (okK.back ex1) (erK.back ex1) w1⟩

/-! ### a def keeps its promise -/
def noE : DEnv → Sto → Prop := fun _ _ => False
def endF (Q : DK) (R : RK) : DEnds := ⟨fun _ S => Q .non S, Q, fun e _ S => R e S, noE, noE⟩
def dStart (n : Nat) (ds : List D) : DEnv := ds.map some ++ List.replicate (n - ds.length) none
theorem start_rel {N : List Str} {ds : List D} {vs : List V} (r : RepL F H ds vs) : EnvRel F H (L2.start N vs) (dStart N.length ds) := by
  unfold L2.start dStart
  refine ⟨by simp [r.length], fun i d e => ?_⟩
  by_cases h : i < ds.length
  · rw [List.getElem?_append_left (by simpa using h), List.getElem?_map] at e
    cases q : ds[i]? with
    | none => rw [q] at e; cases e
    | some d' =>
      rw [q] at e
      cases e
      obtain ⟨v, h1, h2⟩ := r.get q
      exact ⟨v, by rw [List.getElem?_append_left (by rw [List.length_map, ← r.length]; exact h), List.getElem?_map, h1]; rfl, h2⟩
  · rw [List.getElem?_append_right (by simpa using h)] at e
    obtain ⟨h1, h2⟩ := List.getElem?_eq_some_iff.mp e
    rw [List.getElem_replicate] at h2
    cases h2
/-- a store with more objects -/
def SLe (S S' : Sto) : Prop := ∀ a m, S a = some m → S' a = some m
theorem SLe.refl : SLe S S := fun _ _ h => h
theorem SLe.put {a : Addr} {m : MO} (h : S a = none) : SLe S (DL.put S a m) := fun b m' e => by
  have : b ≠ a := fun z => by rw [z, h] at e; cases e
  rw [put_ne this]; exact e
theorem SLe.trans {S1 S2 S3 : Sto} (x : SLe S1 S2) (y : SLe S2 S3) : SLe S1 S3 := fun a m h => y a m (x a m h)
theorem Ok.less {S1 : Sto} (x : SLe S1 S) (ok : Ok T F S H) : Ok T F S1 H := by
  refine ⟨ok.cv, fun a f => ⟨?_, (ok.fz a f).2⟩, fun a m e => ok.st a m (x a m e), ok.tb⟩
  cases e : S1 a with
  | none => rfl
  | some m =>
    have h1 := (ok.fz a f).1
    rw [x a m e] at h1
    cases h1
theorem Ext.less {S1 : Sto} (x : SLe S1 S') (e : Ext F S H F' S' H') : Ext F S H F' S1 H' := ⟨e.keep, fun a o h n z => by
  cases q : S1 a with
  | none => rfl
  | some m => exact (x a m q).symm.trans (e.mt a o h n z), e.new, e.sub, e.cv⟩
def QMono (Q : DK) : Prop := ∀ d S1 S2, SLe S1 S2 → Q d S1 → Q d S2
def RMono (R : RK) : Prop := ∀ d S1 S2, SLe S1 S2 → R d S1 → R d S2
theorem okK.mono {Q : VK} : QMono (okK T F S H Q) := fun d S1 S2 x h v H' F' ok ex r => h v H' F' (ok.less x) (ex.less x) r
theorem erE.mono {E : XK} : RMono (erE T F S H E) := fun d S1 S2 x h c da H' F' ok ex r => h c da H' F' (ok.less x) (ex.less x) r
theorem okD {P : Program} {w : World} {K : PySem.W.Frag} {mg : Str → Option Value} {base : Heap} {x qual : Str} {st : Stmt} {f : Addr} {fd : FuncData} {N ps : List Str} {k : Nat} (T : Tp) (sp : DSp) (G : Fun K x qual st f fd) (Sc : FnScope N ps (defScope st)) (hn : sp.n = ps.length)
    (hbody : ∀ (cdv : Value) (A : Around) (outer : List Env) (s : Shared) (H : Hp) (E : XK), Room k (A.deeper (envOfC qual (defScope st) s.heap.objs.size f cdv)) →
      ∃ u, JSs T (cxOf (L2N.CX P w) P w K mg base N qual (defScope st) f cdv A outer s H E) (defBody st) u ∧ ∀ ds S Q R, QMono Q → RMono R → (sp.g S ds).wp S Q R → u (dStart N.length ds) S (endF Q R)) :
    FnOk P w K mg base (L2N.CX P w) (k + 1) f fd ps (upSp T sp) := by
  obtain ⟨oc, od, kV, doc, pm, an, cdv0, ct, osl, rfl, lk, hcd⟩ := G.ex
  refine fn_of lk hcd Sc (fun vs H Q E h => ?_) (fun A outer s H vs Q E hr h => ?_)
  · obtain ⟨ds, S, F, r, _, w⟩ := h
    rw [← r.length, sp.len _ _ _ _ w, hn]
  · obtain ⟨ds, S, F, r, ok, w⟩ := h
    obtain ⟨u, hu, hq⟩ := hbody cdv0 A outer s H E hr
    refine ⟨_, hu.run _ (L2N.takes_of rfl rfl rfl rfl) PassesOwn.leaving, dStart N.length ds, S, F, start_rel r, ok, hu.mon _ _ _ _ ?_ (hq ds S _ _ okK.mono erE.mono w)⟩
    exact ⟨fun env S' h σ' H' F' er ok' ex => h .non H' F' ok' ex .non, fun d S' h => h, fun e env S' h cls da σ' H' F' er ok' ex z => h cls da H' F' ok' ex z, fun _ _ h => h.elim, fun _ _ h => h.elim⟩

/-! ### built-ins called by name -/
def rDL (T : Tp) (op : OL) : List V → Hp → VK → Prop := fun vs H Q => ∃ F S ds, Ok T F S H ∧ RepL F H ds vs ∧ (op S ds).wp fun z => okK T F S H Q z S
def dCB (op : OL) (t : AT) : ET := fun env S Q R => t env S (fun ds S1 => (op S1 ds).wp fun z => Q z S1) R
theorem mon_CB {op : OL} {t : AT} (ht : MonA t) : Mon (dCB op t) := fun _ _ _ _ _ _ hq hR w => ht _ _ _ _ _ _ (fun _ S1 w1 => PR.mono (fun d => hq d S1) w1) hR w
theorem up_CB {op : OL} {t : AT} (ht : MonA t) {Q : VK} (h : up T W (dCB op t) σ H Q) : tCB (rDL T op) (upA T W t) σ H Q := by
  obtain ⟨env, S, F, er, ok, w⟩ := h
  refine ⟨env, S, F, er, ok, ht _ _ _ _ _ _ (fun ds S1 w1 vs H1 F1 ok1 ex1 r1 => ?_) (fun _ _ z => z) w⟩
  exact ⟨F1, S1, ds, ok1, r1, PR.mono (fun z q => okK.back ex1 z S1 q) w1⟩
theorem je_callB {id : String} {op : OL} (hc : CallR X (.builtin id) (rDL T op)) (hm : X.mg x = none) (hv : bootBuiltins x = some (.builtin id)) (ha : JA T X (e :: es) t) (hg : Gl X x := by rfl) (hn : x ≠ "__name__" := by decide) (hdb : (x == ("__debug__" : Str)) = false := by decide)
    (he : starEach (e :: es) X.env = (false, eval e X.env) :: starEach es X.env := by rfl) (hpl : (backTo pos (starEach es X.env)).any (·.1) = false := by rfl) : JE T X (.Call (.Name x p) (e :: es) [] pos) (dCB op t) :=
  ⟨mon_CB ha.mon, fun W tk => (pe_callB hc hg hm hv (ha.run W tk) hn hdb he hpl).weak fun _ _ _ h => up_CB ha.mon h⟩
theorem je_callTy {id : String} {op : OL} (hc : CallR X (.type id) (rDL T op)) (hm : X.mg x = none) (hv : bootBuiltins x = some (.type id)) (ha : JA T X (e :: es) t) (hg : Gl X x := by rfl) (hn : x ≠ "__name__" := by decide) (hdb : (x == ("__debug__" : Str)) = false := by decide)
    (he : starEach (e :: es) X.env = (false, eval e X.env) :: starEach es X.env := by rfl) (hpl : (backTo pos (starEach es X.env)).any (·.1) = false := by rfl) : JE T X (.Call (.Name x p) (e :: es) [] pos) (dCB op t) :=
  ⟨mon_CB ha.mon, fun W tk => (pe_callTy hc hg hm hv (ha.run W tk) hn hdb he hpl).weak fun _ _ _ h => up_CB ha.mon h⟩

def bls : List D → Option (List Bool)
  | [] => some []
  | d :: ds => match d, bls ds with
    | .bl b, some bs => some (b :: bs)
    | _, _ => none
def nts : List D → Option (List Int)
  | [] => some []
  | d :: ds => match d, nts ds with
    | .int b, some bs => some (b :: bs)
    | _, _ => none
def sts : List D → Option (List (List Nat))
  | [] => some []
  | d :: ds => match d, sts ds with
    | .str b, some bs => some (b :: bs)
    | _, _ => none
theorem bls_map {α : Type} (f : α → Bool) : ∀ l : List α, bls (l.map fun a => .bl (f a)) = some (l.map f)
  | [] => rfl
  | a :: l => by show (match D.bl (f a), bls (l.map fun a => .bl (f a)) with | .bl b, some bs => some (b :: bs) | _, _ => none) = _; rw [bls_map f l]; rfl
theorem nts_map {α : Type} (f : α → Int) : ∀ l : List α, nts (l.map fun a => .int (f a)) = some (l.map f)
  | [] => rfl
  | a :: l => by show (match D.int (f a), nts (l.map fun a => .int (f a)) with | .int b, some bs => some (b :: bs) | _, _ => none) = _; rw [nts_map f l]; rfl
theorem sts_map {α : Type} (f : α → List Nat) : ∀ l : List α, sts (l.map fun a => .str (f a)) = some (l.map f)
  | [] => rfl
  | a :: l => by show (match D.str (f a), sts (l.map fun a => .str (f a)) with | .str b, some bs => some (b :: bs) | _, _ => none) = _; rw [sts_map f l]; rfl
theorem bls_eq : ∀ {ds : List D} {bs : List Bool}, bls ds = some bs → ds = bs.map D.bl
  | [], _, h => by cases h; rfl
  | d :: ds, bs, h => by
    unfold bls at h
    split at h
    · rename_i b bs' e1 e2
      cases h
      rw [bls_eq e2]; rfl
    · cases h
theorem nts_eq : ∀ {ds : List D} {bs : List Int}, nts ds = some bs → ds = bs.map D.int
  | [], _, h => by cases h; rfl
  | d :: ds, bs, h => by
    unfold nts at h
    split at h
    · rename_i b bs' e1 e2
      cases h
      rw [nts_eq e2]; rfl
    · cases h
theorem sts_eq : ∀ {ds : List D} {bs : List (List Nat)}, sts ds = some bs → ds = bs.map D.str
  | [], _, h => by cases h; rfl
  | d :: ds, bs, h => by
    unfold sts at h
    split at h
    · rename_i b bs' e1 e2
      cases h
      rw [sts_eq e2]; rfl
    · cases h
theorem RepL.bls : ∀ {bs : List Bool} {vs : List V}, RepL F H (bs.map D.bl) vs → vs = bs.map V.bl
  | [], _, h => by cases h; rfl
  | b :: bs, _, h => by
    cases h with
    | cons a r => cases a; rw [RepL.bls r]; rfl
theorem RepL.nts : ∀ {bs : List Int} {vs : List V}, RepL F H (bs.map D.int) vs → vs = bs.map V.int
  | [], _, h => by cases h; rfl
  | b :: bs, _, h => by
    cases h with
    | cons a r => cases a; rw [RepL.nts r]; rfl
theorem RepL.sts : ∀ {bs : List (List Nat)} {vs : List V}, RepL F H (bs.map D.str) vs → vs = (bs.map sOf).map V.str ∧ ∀ b ∈ bs, sOk b
  | [], _, h => by cases h; exact ⟨rfl, fun _ z => by cases z⟩
  | b :: bs, _, h => by
    cases h with
    | cons a r =>
      cases a with
      | str k =>
        obtain ⟨h1, h2⟩ := RepL.sts r
        refine ⟨by rw [h1]; rfl, fun c hc => ?_⟩
        rcases List.mem_cons.mp hc with rfl | hc
        · exact k
        · exact h2 c hc
theorem RepL.ofSts : ∀ {bs : List (List Nat)}, (∀ b ∈ bs, sOk b) → RepL F H (bs.map D.str) ((bs.map sOf).map V.str)
  | [], _ => .nil
  | b :: bs, h => .cons (.str (h b List.mem_cons_self)) (RepL.ofSts fun c hc => h c (List.mem_cons_of_mem _ hc))
theorem rep1 {d : D} {vs : List V} (r : RepL F H [d] vs) : ∃ v, vs = [v] ∧ Rep F H d v := by
  cases r with
  | cons a b => cases b; exact ⟨_, rfl, a⟩
theorem rep2 {d e : D} {vs : List V} (r : RepL F H [d, e] vs) : ∃ v u, vs = [v, u] ∧ Rep F H d v ∧ Rep F H e u := by
  cases r with
  | cons a b =>
    obtain ⟨u, rfl, h⟩ := rep1 b
    exact ⟨_, u, rfl, a, h⟩

def opAll : OL := fun S ds => match ds with
  | [x] => (match lstOf S x with | some l => (match bls l with | some bs => .ok (.bl (bs.all id)) | none => .no) | none => .no)
  | _ => .no
def opSum : OL := fun S ds => match ds with
  | [x] => (match lstOf S x with | some l => (match nts l with | some bs => .ok (.int bs.sum) | none => .no) | none => .no)
  | _ => .no
theorem oc_all (hc : X.calm = true) : CallR X (.builtin "all") (rDL T opAll) := by
  intro pins s σ H vs us Q I r ⟨F, S, ds, ok, q, h⟩
  match ds, h with
  | [x], h =>
    obtain ⟨v, rfl, q1⟩ := rep1 q
    have h : (match lstOf S x with | some l => (match bls l with | some bs => PR.ok (.bl (bs.all id)) | none => .no) | none => .no).wp _ := h
    cases e : lstOf S x with
    | none => rw [e] at h; exact h.elim
    | some l =>
      simp only [e] at h
      cases e2 : bls l with
      | none => rw [e2] at h; exact h.elim
      | some bs =>
        simp only [e2] at h
        obtain ⟨a, xs, rfl, ha, k, _⟩ := list_of ok q1 e
        rw [bls_eq e2] at k
        have := k.bls
        subst this
        exact cr_all hc pins s σ H _ us Q I r ⟨a, bs, rfl, .inl (.inl ha), okK.flat ok h (.bl _)⟩
  | [], h => exact h.elim
  | _ :: _ :: _, h => exact h.elim
theorem oc_sum (hc : X.calm = true) : CallR X (.builtin "sum") (rDL T opSum) := by
  intro pins s σ H vs us Q I r ⟨F, S, ds, ok, q, h⟩
  match ds, h with
  | [x], h =>
    obtain ⟨v, rfl, q1⟩ := rep1 q
    have h : (match lstOf S x with | some l => (match nts l with | some bs => PR.ok (.int bs.sum) | none => .no) | none => .no).wp _ := h
    cases e : lstOf S x with
    | none => rw [e] at h; exact h.elim
    | some l =>
      simp only [e] at h
      cases e2 : nts l with
      | none => rw [e2] at h; exact h.elim
      | some bs =>
        simp only [e2] at h
        obtain ⟨a, xs, rfl, ha, k, _⟩ := list_of ok q1 e
        rw [nts_eq e2] at k
        have := k.nts
        subst this
        exact cr_sum hc pins s σ H _ us Q I r ⟨a, bs, rfl, .inl (.inl ha), okK.flat ok h (.int _)⟩
  | [], h => exact h.elim
  | _ :: _ :: _, h => exact h.elim
/-- min, max of a list of ints: it is in it, and none is less (greater) -/
def mnL : List Int → Int
  | [] => 0
  | a :: l => l.foldl min a
def mxL : List Int → Int
  | [] => 0
  | a :: l => l.foldl max a
theorem mn_fold : ∀ (l : List Int) (a : Int), (l.foldl min a = a ∨ l.foldl min a ∈ l) ∧ l.foldl min a ≤ a ∧ ∀ y ∈ l, l.foldl min a ≤ y
  | [], a => ⟨.inl rfl, Int.le_refl _, fun _ z => by cases z⟩
  | b :: l, a => by
    obtain ⟨h1, h2, h3⟩ := mn_fold l (min a b)
    rw [List.foldl_cons]
    refine ⟨?_, by omega, fun y hy => ?_⟩
    · rcases h1 with h1 | h1
      · rw [h1]
        by_cases h : a ≤ b
        · left; omega
        · right; rw [show min a b = b by omega]; exact List.mem_cons_self
      · right; exact List.mem_cons_of_mem _ h1
    · rcases List.mem_cons.mp hy with rfl | hy
      · omega
      · exact h3 y hy
theorem mx_fold : ∀ (l : List Int) (a : Int), (l.foldl max a = a ∨ l.foldl max a ∈ l) ∧ a ≤ l.foldl max a ∧ ∀ y ∈ l, y ≤ l.foldl max a
  | [], a => ⟨.inl rfl, Int.le_refl _, fun _ z => by cases z⟩
  | b :: l, a => by
    obtain ⟨h1, h2, h3⟩ := mx_fold l (max a b)
    rw [List.foldl_cons]
    refine ⟨?_, by omega, fun y hy => ?_⟩
    · rcases h1 with h1 | h1
      · rw [h1]
        by_cases h : b ≤ a
        · left; omega
        · right; rw [show max a b = b by omega]; exact List.mem_cons_self
      · right; exact List.mem_cons_of_mem _ h1
    · rcases List.mem_cons.mp hy with rfl | hy
      · omega
      · exact h3 y hy
theorem mnL_mem {l : List Int} (h : l ≠ []) : mnL l ∈ l ∧ ∀ y ∈ l, mnL l ≤ y := by
  cases l with
  | nil => exact absurd rfl h
  | cons a l =>
    obtain ⟨h1, h2, h3⟩ := mn_fold l a
    refine ⟨?_, fun y hy => ?_⟩
    · rcases h1 with h1 | h1
      · show l.foldl min a ∈ _; rw [h1]; exact List.mem_cons_self
      · exact List.mem_cons_of_mem _ h1
    · rcases List.mem_cons.mp hy with rfl | hy
      · exact h2
      · exact h3 y hy
theorem mxL_mem {l : List Int} (h : l ≠ []) : mxL l ∈ l ∧ ∀ y ∈ l, y ≤ mxL l := by
  cases l with
  | nil => exact absurd rfl h
  | cons a l =>
    obtain ⟨h1, h2, h3⟩ := mx_fold l a
    refine ⟨?_, fun y hy => ?_⟩
    · rcases h1 with h1 | h1
      · show l.foldl max a ∈ _; rw [h1]; exact List.mem_cons_self
      · exact List.mem_cons_of_mem _ h1
    · rcases List.mem_cons.mp hy with rfl | hy
      · exact h2
      · exact h3 y hy
theorem mnL_uniq {l : List Int} {m : Int} (h1 : m ∈ l) (h2 : ∀ y ∈ l, m ≤ y) : m = mnL l := by
  have hne : l ≠ [] := fun e => by rw [e] at h1; cases h1
  obtain ⟨k1, k2⟩ := mnL_mem hne
  have := h2 _ k1
  have := k2 _ h1
  omega
theorem mxL_uniq {l : List Int} {m : Int} (h1 : m ∈ l) (h2 : ∀ y ∈ l, y ≤ m) : m = mxL l := by
  have hne : l ≠ [] := fun e => by rw [e] at h1; cases h1
  obtain ⟨k1, k2⟩ := mxL_mem hne
  have := h2 _ k1
  have := k2 _ h1
  omega
def opMin : OL := fun S ds => match ds with
  | [x] => (match lstOf S x with | some l => (match nts l with | some bs => .pre (bs ≠ []) (.int (mnL bs)) | none => .no) | none => .no)
  | [x, y] => (match x, y with
    | .int i, .int j => .ok (.int (if j < i then j else i))
    | .str a, .str b => .ok (.str (if ltL b a then b else a))
    | _, _ => .no)
  | _ => .no
def opMax : OL := fun S ds => match ds with
  | [x] => (match lstOf S x with | some l => (match nts l with | some bs => .pre (bs ≠ []) (.int (mxL bs)) | none => .no) | none => .no)
  | [x, y] => (match x, y with
    | .int i, .int j => .ok (.int (if j > i then j else i))
    | _, _ => .no)
  | _ => .no
end
end DL

namespace DL
open PySem PySem.Spec PyProof.Rows L2
section
variable {T : Tp} {X : Cx} {F F' F'' : Fz} {S S' S'' : Sto} {H H' H'' : Hp} {σ : L2.St} {W : WX}

/-! ### targets -/
abbrev GT := D → DEnv → Sto → (DEnv → Sto → Prop) → Prop
abbrev GTs := List D → DEnv → Sto → (DEnv → Sto → Prop) → Prop
def upG (T : Tp) (u : GT) : TG := fun v σ H Q => ∃ env S F d, EnvRel F H σ env ∧ Ok T F S H ∧ Rep F H d v ∧ u d env S (fun env' S' => ∀ σ' H' F', EnvRel F' H' σ' env' → Ok T F' S' H' → Ext F S H F' S' H' → Q σ' H')
def upGs (T : Tp) (u : GTs) : TGs := fun vs σ H Q => ∃ env S F ds, EnvRel F H σ env ∧ Ok T F S H ∧ RepL F H ds vs ∧ u ds env S (fun env' S' => ∀ σ' H' F', EnvRel F' H' σ' env' → Ok T F' S' H' → Ext F S H F' S' H' → Q σ' H')
structure JG (T : Tp) (X : Cx) (tg : Expr) (u : GT) : Prop where
  mon : ∀ d env S Q Q', (∀ e S, Q e S → Q' e S) → u d env S Q → u d env S Q'
  run : PG X tg (upG T u)
structure JGs (T : Tp) (X : Cx) (tg : List Expr) (u : GTs) : Prop where
  mon : ∀ d env S Q Q', (∀ e S, Q e S → Q' e S) → u d env S Q → u d env S Q'
  run : PGs X tg (upGs T u)
def gN (i : Nat) : GT := fun d env S Q => Q (env.set i (some d)) S
def gsN : GTs := fun ds env S Q => match ds with
  | [] => Q env S
  | _ => False
def gsC (u : GT) (v : GTs) : GTs := fun ds env S Q => match ds with
  | d :: r => u d env S fun env' S' => v r env' S' Q
  | [] => False
def gT (n : Nat) (u : GTs) : GT := fun d env S Q => match d with
  | .tup ds => ds.length = n ∧ u ds env S Q
  | _ => False
theorem PG.weak' {tg : Expr} {t t' : TG} (h : PG X tg t) (w : ∀ v σ H Q, t' v σ H Q → t v σ H Q) : PG X tg t' := ⟨fun pins s σ H v u Q I r q => h.run pins s σ H v u Q I r (w v σ H Q q)⟩
theorem PGs.weak' {tg : List Expr} {t t' : TGs} (h : PGs X tg t) (w : ∀ v σ H Q, t' v σ H Q → t v σ H Q) : PGs X tg t' := ⟨fun pins s σ H v u Q I r q => h.run pins s σ H v u Q I r (w v σ H Q q)⟩
theorem jg_name {i : Nat} {x : Str} {pos : Pos} (hN : X.N.Nodup) (hi : X.N[i]? = some x := by rfl) (hx : Loc X.env.scope x := by first | exact Or.inl rfl | exact Or.inr rfl) (hf : X.fn x = true ∨ X.env.scope.names.lookup x = some .local := by first | exact .inl rfl | exact .inr rfl) : JG T X (.Name x pos) (gN i) := by
  refine ⟨fun _ _ _ _ _ h w => h _ _ w, PG.weak' (pg_name hN hi hx hf) ?_⟩
  rintro v σ H Q ⟨env, S, F, d, er, ok, r, w⟩
  exact w _ H F (er.set i r) ok Ext.refl
theorem jgs_nil : JGs T X [] gsN := by
  refine ⟨fun d env S Q Q' h w => ?_, PGs.weak' pgs_nil ?_⟩
  · cases d with
    | nil => exact h _ _ w
    | cons _ _ => exact w
  · rintro vs σ H Q ⟨env, S, F, ds, er, ok, r, w⟩
    cases r with
    | nil => exact ⟨rfl, w _ H F er ok Ext.refl⟩
    | cons _ _ => exact w.elim
theorem jgs_cons {e : Expr} {es : List Expr} {u : GT} {v : GTs} (h1 : JG T X e u) (h2 : JGs T X es v) (hs : (assignEach (e :: es) X.env).map (·.2) = assign e X.env :: (assignEach es X.env).map (·.2) := by rfl) : JGs T X (e :: es) (gsC u v) := by
  refine ⟨fun d env S Q Q' h w => ?_, PGs.weak' (pgs_cons h1.run h2.run hs) ?_⟩
  · cases d with
    | nil => exact w
    | cons d r => exact h1.mon _ _ _ _ _ (fun env' S' w' => h2.mon _ _ _ _ _ h w') w
  · rintro vs σ H Q ⟨env, S, F, ds, er, ok, r, w⟩
    cases r with
    | nil => exact w.elim
    | @cons d v' ds vs r1 r2 =>
      refine ⟨v', vs, rfl, env, S, F, d, er, ok, r1, h1.mon _ _ _ _ _ (fun env1 S1 w1 σ1 H1 F1 er1 ok1 ex1 => ?_) w⟩
      refine ⟨env1, S1, F1, ds, er1, ok1, RepL.ext ok ex1 ds vs r2, h2.mon _ _ _ _ _ (fun env2 S2 w2 σ2 H2 F2 er2 ok2 ex2 => ?_) w1⟩
      exact w2 σ2 H2 F2 er2 ok2 (ex1.trans ex2)
theorem jg_tup {es : List Expr} {k n : Nat} {pos : Pos} {u : GTs} (hc : X.calm = true) (h : JGs T X es u) (hn : (assignEach es X.env).length = n := by rfl) (hst : (assignEach es X.env).findIdx? (·.1) = none := by rfl) : JG T X (.Tuple es k pos) (gT n u) := by
  refine ⟨fun d env S Q Q' hq w => ?_, PG.weak' (pg_tup hc h.run hn hst) ?_⟩
  · cases d with
    | tup ds => exact ⟨w.1, h.mon _ _ _ _ _ hq w.2⟩
    | _ => exact w
  · rintro v σ H Q ⟨env, S, F, d, er, ok, r, w⟩
    cases r with
    | @tup a xs ds f e k l => exact ⟨a, xs, rfl, .inl (.inl e), by rw [← k.length]; exact w.1, env, S, F, ds, er, ok, k, w.2⟩
    | _ => exact w.elim

/-! ### what is walked -/
/-- the frozen part is as it was -/
def Fr (F : Fz) (H H' : Hp) : Prop := ∀ a, F a → H' a = H a
theorem Ext.fr (ok : Ok T F S H) (x : Ext F S H F' S' H') : Fr F H H' := fun a f => by
  obtain ⟨z, o, e, n⟩ := ok.fz a f
  rw [x.keep a o e n z, e]
mutual
theorem Rep.fr (x : Fr F H H') : ∀ (d : D) (v : V), Rep F H d v → Rep F H' d v
  | .non, _, h => by cases h; exact .non
  | .bl b, _, h => by cases h; exact .bl b
  | .int i, _, h => by cases h; exact .int i
  | .str s, _, h => by cases h with | str k => exact .str k
  | .obj a, _, h => by cases h; exact .obj a
  | .cst w, _, h => by cases h; exact .cst w
  | .tup ds, _, h => by
    cases h with
    | tup f e r l => exact .tup f ((x _ f).trans e) (RepL.fr x ds _ r) l
  | .lst ds, _, h => by
    cases h with
    | lst f e r l => exact .lst f ((x _ f).trans e) (RepL.fr x ds _ r) l
  | .scr ns, _, h => by
    cases h with
    | scr f e l => exact .scr f (e.imp (fun e => (x _ f).trans e) fun ⟨o, e⟩ => ⟨o, (x _ f).trans e⟩) l
    | scK h l => exact .scK h l
theorem RepL.fr (x : Fr F H H') : ∀ (ds : List D) (vs : List V), RepL F H ds vs → RepL F H' ds vs
  | [], _, h => by cases h; exact .nil
  | d :: ds, _, h => by
    cases h with
    | cons a b => exact .cons (Rep.fr x d _ a) (RepL.fr x ds _ b)
end
structure FzLe (F F' : Fz) : Prop where
  sub : ∀ a, F a → F' a
  cv : F'.cv = F.cv
theorem FzLe.add {p : Addr} : FzLe F (F.add p) := ⟨fun _ h => .inl h, rfl⟩
theorem Ext.le (x : Ext F S H F' S' H') : FzLe F F' := ⟨x.sub, x.cv⟩
mutual
theorem Rep.sub (x : FzLe F F') : ∀ (d : D) (v : V), Rep F H d v → Rep F' H d v
  | .non, _, h => by cases h; exact .non
  | .bl b, _, h => by cases h; exact .bl b
  | .int i, _, h => by cases h; exact .int i
  | .str s, _, h => by cases h with | str k => exact .str k
  | .obj a, _, h => by cases h; exact .obj a
  | .cst w, _, h => by cases h; rw [← x.cv]; exact .cst w
  | .tup ds, _, h => by
    cases h with
    | tup f e r l => exact .tup (x.sub _ f) e (RepL.sub x ds _ r) l
  | .lst ds, _, h => by
    cases h with
    | lst f e r l => exact .lst (x.sub _ f) e (RepL.sub x ds _ r) l
  | .scr ns, _, h => by
    cases h with
    | scr f e l => exact .scr (x.sub _ f) e l
    | scK h l => exact .scK (by rw [x.cv]; exact h) l
theorem RepL.sub (x : FzLe F F') : ∀ (ds : List D) (vs : List V), RepL F H ds vs → RepL F' H ds vs
  | [], _, h => by cases h; exact .nil
  | d :: ds, _, h => by
    cases h with
    | cons a b => exact .cons (Rep.sub x d _ a) (RepL.sub x ds _ b)
end
/-- what a turn gives: an item as it stands, or a new tuple of some -/
inductive Yl (F : Fz) (H : Hp) (x : V) (H' : Hp) : D → Prop
  | at {d : D} : H' = H → Rep F H d x → Yl F H x H' d
  | new {p : Addr} {ds : List D} {ys : List V} : x = .ref p → H p = none → H' = upd H p (.tup ys) → RepL F H ds ys → ds.length ≤ 16777216 → Yl F H x H' (.tup ds)
/-- J walks the items -/
structure WalkD (F : Fz) (H : Hp) (J : It) (items : List D) : Prop where
  len : items.length ≤ 16777216
  goes : ∀ i H', i < items.length → Fr F H H' → J.go i H'
  stops : ∀ H', Fr F H H' → J.stop items.length H'
  yields : ∀ i H' x H'', i < items.length → Fr F H H' → J.yld i H' x H'' → ∃ d, items[i]? = some d ∧ Yl F H' x H'' d
abbrev LT := DEnv → Sto → (List D → Sto → Prop) → RK → Prop
def upI (T : Tp) (W : WX) (u : LT) : TI := fun σ H R => ∃ env S F, EnvRel F H σ env ∧ Ok T F S H ∧
  u env S (fun items S' => ∀ J H' F', Ok T F' S' H' → Ext F S H F' S' H' → WalkD F' H' J items → R J H') (erK T F S H σ W)
structure JI (T : Tp) (X : Cx) (tg iter : Expr) (u : LT) : Prop where
  mon : MonA u
  run : ∀ W, L2N.Takes X W → PI X tg iter (upI T W u)
def itemsOf : D → Option (List D)
  | .tup ds => some ds
  | .lst ds => some ds
  | .str s => some (s.map fun c => .str [c])
  | _ => none
def lAny (u : ET) : LT := fun env S Q R => u env S (fun d S1 => match itemsOf d with | some l => Q l S1 | none => False) R
theorem mon_lAny {u : ET} (h : Mon u) : MonA (lAny u) := fun env S Q Q' R R' hq hR w => h _ _ _ _ _ _ (fun d S1 w1 => by
  revert w1
  show (match itemsOf d with | some l => Q l S1 | none => False) → (match itemsOf d with | some l => Q' l S1 | none => False)
  cases itemsOf d with
  | some l => exact fun w => hq _ _ w
  | none => exact fun w => w) hR w
/-- an iterator over a list, a tuple or a text, by values -/
theorem pi_any {X : Cx} {tg l : Expr} {tl : TE} (hl : PE X l tl) : PI X tg l (fun σ H R => tl σ H fun x H1 => (∃ a, x = .ref a ∧ (∃ xs, SqL X.K H1 a xs) ∧ R (Itl X.K a) H1) ∨ (∃ a, x = .ref a ∧ (∃ xs, SqT X.K H1 a xs) ∧ R (Itt X.K a) H1) ∨ ∃ z, x = .str z ∧ R (Its z) H1) := by
  refine ⟨fun pins s σ H R I h => ?_⟩
  refine thn (hl.run pins s σ H _ I h) fun v s1 ⟨x, H1, I1, r1, q1⟩ => ?_
  rcases q1 with ⟨a, e, ⟨xs, hq⟩, q⟩ | ⟨a, e, ⟨xs, hq⟩, q⟩ | ⟨z, e, q⟩
  · subst e
    cases r1
    obtain ⟨its, rv, p, hz⟩ := I1.list hq
    exact wpAny_pyIter_list p.isList (pi_one (tk := s1.toks) I1 _ (turn_list a _) ⟨_, Heap.get?_push_size _ rfl, rfl, rfl⟩ q)
  · subst e
    cases r1
    obtain ⟨its, rv, p, hz⟩ := I1.tuple hq
    exact wpAny_pyIter_tuple (show s1.heap.IsTuple a its.toArray from p) (pi_one (tk := s1.toks) I1 _ (turn_tuple a _) ⟨_, Heap.get?_push_size _ rfl, rfl, rfl⟩ q)
  · subst e
    obtain ⟨t, rfl⟩ := r1
    cases ha : z.cps.all (· < 128)
    · exact wpAny_pyIter_wide ha (pi_one (tk := s1.toks) I1 _ (turn_str _ z t "str_iterator" (.inr rfl)) ⟨_, Heap.get?_push_size _ rfl, rfl, rfl⟩ q)
    · exact wpAny_pyIter_ascii ha (pi_one (tk := s1.toks) I1 _ (turn_str _ z t "str_ascii_iterator" (.inl rfl)) ⟨_, Heap.get?_push_size _ rfl, rfl, rfl⟩ q)
theorem walkD_list {a : Addr} {xs : List V} {ds : List D} {K : PySem.W.Frag} (f : F a) (h : Rd H a (.lst xs)) (r : RepL F H ds xs) (hl : ds.length ≤ 16777216) : WalkD F H (Itl K a) ds := by
  have at_ : ∀ H', Fr F H H' → SqL K H' a xs := fun H' x => .inl (by
    rcases h with h | ⟨o, h⟩
    · exact .inl ((x a f).trans h)
    · exact .inr ⟨o, (x a f).trans h⟩)
  refine ⟨hl, fun i H' hi x => ?_, fun H' x => ⟨xs, at_ H' x, by rw [r.length]; exact Nat.le_refl _⟩, fun i H' v H'' hi x y => ?_⟩
  · rw [r.length] at hi
    exact ⟨xs, xs[i], at_ H' x, by simp [hi]⟩
  · obtain ⟨e, y⟩ := y
    obtain ⟨d, e1, e2⟩ := (RepL.fr x ds xs r).getV (y xs (at_ H' x))
    exact ⟨d, e1, .at e e2⟩
theorem walkD_tup {a : Addr} {xs : List V} {ds : List D} {K : PySem.W.Frag} (f : F a) (h : H a = some (.tup xs)) (r : RepL F H ds xs) (hl : ds.length ≤ 16777216) : WalkD F H (Itt K a) ds := by
  have at_ : ∀ H', Fr F H H' → SqT K H' a xs := fun H' x => .inl (.inl ((x a f).trans h))
  refine ⟨hl, fun i H' hi x => ?_, fun H' x => ⟨xs, at_ H' x, by rw [r.length]; exact Nat.le_refl _⟩, fun i H' v H'' hi x y => ?_⟩
  · rw [r.length] at hi
    exact ⟨xs, xs[i], at_ H' x, by simp [hi]⟩
  · obtain ⟨e, y⟩ := y
    obtain ⟨d, e1, e2⟩ := (RepL.fr x ds xs r).getV (y xs (at_ H' x))
    exact ⟨d, e1, .at e e2⟩
theorem walkD_str {s : List Nat} (k : sOk s) : WalkD F H (Its (sOf s)) (s.map fun c => .str [c]) := by
  have sz : (sOf s).cps.size = s.length := by show s.toArray.size = _; rw [List.size_toArray]
  refine ⟨by rw [List.length_map]; exact k.2, fun i H' hi x => ?_, fun H' x => ?_, fun i H' v H'' hi x y => ?_⟩
  · rw [List.length_map] at hi
    show i < (sOf s).cps.size
    rw [sz]; exact hi
  · show (sOf s).cps.size ≤ _
    rw [sz, List.length_map]; exact Nat.le_refl _
  · obtain ⟨e, c, hc, hv⟩ := y
    have hc' : s[i]? = some c := by simpa [sOf] using hc
    refine ⟨.str [c], by rw [List.getElem?_map, hc']; rfl, .at e ?_⟩
    rw [hv]
    exact .str ⟨fun c' h' => by
      have : c' = c := by simpa using h'
      rw [this]; exact k.1 c (List.mem_of_getElem? hc'), by show (1 : Nat) ≤ 16777216; decide⟩
theorem walkD_rng {lo : Int} {n : Nat} (hn : n ≤ 16777216) : WalkD F H (Itr lo n) ((List.range n).map fun i => .int (lo + (i : Nat))) := by
  refine ⟨by rw [List.length_map, List.length_range]; exact hn, fun i H' hi x => ?_, fun H' x => ?_, fun i H' v H'' hi x y => ?_⟩
  · rw [List.length_map, List.length_range] at hi; exact hi
  · show n ≤ _; rw [List.length_map, List.length_range]; exact Nat.le_refl _
  · rw [List.length_map, List.length_range] at hi
    obtain ⟨e, hv⟩ := y
    refine ⟨.int (lo + i), by rw [List.getElem?_map, List.getElem?_range hi]; rfl, .at e ?_⟩
    rw [hv]; exact .int _
theorem ji_any {tg e : Expr} {u : ET} (h : JE T X e u) : JI T X tg e (lAny u) := by
  refine ⟨mon_lAny h.mon, fun W tk => ⟨fun pins s σ H R I hh => ?_⟩⟩
  obtain ⟨env, S, F, er, ok, w⟩ := hh
  refine (pi_any (h.run W tk)).run pins s σ H R I ⟨env, S, F, er, ok, h.mon _ _ _ _ _ _ (fun d S1 w1 v1 H1 F1 ok1 ex1 r1 => ?_) (fun _ _ z => z) w⟩
  cases r1 with
  | tup f e k l => exact .inr (.inl ⟨_, rfl, ⟨_, .inl (.inl e)⟩, w1 _ H1 F1 ok1 ex1 (walkD_tup f e k l)⟩)
  | lst f e k l => exact .inl ⟨_, rfl, ⟨_, .inl (.inl e)⟩, w1 _ H1 F1 ok1 ex1 (walkD_list f (.inl e) k l)⟩
  | str k => exact .inr (.inr ⟨_, rfl, w1 _ H1 F1 ok1 ex1 (walkD_str k)⟩)
  | _ => exact w1.elim
def rngL (lo : Int) (n : Nat) : List D := (List.range n).map fun i => .int (lo + (i : Nat))
def lRng1 (t : AT) : LT := fun env S Q R => t env S (fun ds S1 => match ds with
  | [.int j] => (j ≤ 16777216 ∧ -16777216 ≤ j) ∧ Q (rngL 0 j.toNat) S1
  | _ => False) R
def lRng2 (t : AT) : LT := fun env S Q R => t env S (fun ds S1 => match ds with
  | [.int i, .int j] => (0 ≤ i ∧ i ≤ 16777216 ∧ -16777216 ≤ j ∧ j ≤ 16777216) ∧ Q (rngL i (j - i).toNat) S1
  | _ => False) R
theorem mon_lRng1 {t : AT} (h : MonA t) : MonA (lRng1 t) := fun env S Q Q' R R' hq hR w => h _ _ _ _ _ _ (fun ds S1 w1 => by
  match ds, w1 with
  | [.int j], w1 => exact ⟨w1.1, hq _ _ w1.2⟩) hR w
theorem mon_lRng2 {t : AT} (h : MonA t) : MonA (lRng2 t) := fun env S Q Q' R R' hq hR w => h _ _ _ _ _ _ (fun ds S1 w1 => by
  match ds, w1 with
  | [.int i, .int j], w1 => exact ⟨w1.1, hq _ _ w1.2⟩) hR w
theorem ji_rng1 {tg a : Expr} {t : AT} {p pos : Pos} (hm : X.mg "range" = none) (ha : JA T X [a] t) (hg : Gl X "range" := by rfl) (hs : starEach [a] X.env = [(false, eval a X.env)] := by rfl) : JI T X tg (.Call (.Name "range" p) [a] [] pos) (lRng1 t) := by
  refine ⟨mon_lRng1 ha.mon, fun W tk => ⟨fun pins s σ H R I hh => ?_⟩⟩
  obtain ⟨env, S, F, er, ok, w⟩ := hh
  refine (pi_range1 hg hm (ha.run W tk) hs).run pins s σ H R I ⟨env, S, F, er, ok, ha.mon _ _ _ _ _ _ (fun ds S1 w1 vs H1 F1 ok1 ex1 r1 => ?_) (fun _ _ z => z) w⟩
  match ds, w1, r1 with
  | [.int j], w1, r1 =>
    cases r1 with
    | cons a b =>
      cases b
      cases a
      exact ⟨j, rfl, by omega, by omega, w1.2 _ H1 F1 ok1 ex1 (walkD_rng (by omega))⟩
theorem ji_rng2 {tg a b : Expr} {t : AT} {p pos : Pos} (hm : X.mg "range" = none) (ha : JA T X [a, b] t) (hg : Gl X "range" := by rfl) (hs : starEach [a, b] X.env = [(false, eval a X.env), (false, eval b X.env)] := by rfl) (hs2 : starEach [b] X.env = [(false, eval b X.env)] := by rfl) : JI T X tg (.Call (.Name "range" p) [a, b] [] pos) (lRng2 t) := by
  refine ⟨mon_lRng2 ha.mon, fun W tk => ⟨fun pins s σ H R I hh => ?_⟩⟩
  obtain ⟨env, S, F, er, ok, w⟩ := hh
  refine (pi_range2 hg hm (ha.run W tk) hs hs2).run pins s σ H R I ⟨env, S, F, er, ok, ha.mon _ _ _ _ _ _ (fun ds S1 w1 vs H1 F1 ok1 ex1 r1 => ?_) (fun _ _ z => z) w⟩
  match ds, w1, r1 with
  | [.int i, .int j], w1, r1 =>
    cases r1 with
    | cons a b =>
      cases b with
      | cons b c =>
        cases c
        cases a
        cases b
        exact ⟨i, j, rfl, ⟨by omega, by omega, by omega, by omega⟩, w1.2 _ H1 F1 ok1 ex1 (walkD_rng (by omega))⟩

/-! ### for -/
def DEnds.loop (D : DEnds) (again : DEnv → Sto → Prop) : DEnds := ⟨again, D.rt, D.er, D.nx, again⟩
theorem DEnds.loop_le {A B : DEnds} (le : DEnds.Le A B) {p q : DEnv → Sto → Prop} (h : ∀ e S, p e S → q e S) : DEnds.Le (A.loop p) (B.loop q) := ⟨h, le.rt, le.er, le.nx, h⟩
def forGo (g : GT) (b : DS) : List D → DEnv → Sto → DEnds → Prop
  | [], env, S, D => D.nx env S
  | d :: r, env, S, D => g d env S fun env1 S1 => b env1 S1 (D.loop fun env2 S2 => forGo g b r env2 S2 D)
def dFor (l : LT) (g : GT) (b : DS) : DS := fun env S D => l env S (fun items S1 => forGo g b items env S1 D) (fun e S1 => D.er e env S1)
theorem mon_forGo {g : GT} {b : DS} (hg : ∀ d env S Q Q', (∀ e S, Q e S → Q' e S) → g d env S Q → g d env S Q') (hb : MonS b) : ∀ (l : List D) env S A B, DEnds.Le A B → forGo g b l env S A → forGo g b l env S B
  | [], env, S, A, B, le, w => le.nx _ _ w
  | d :: r, env, S, A, B, le, w => hg _ _ _ _ _ (fun e1 S1 w1 => hb _ _ _ _ (DEnds.loop_le le fun e2 S2 w2 => mon_forGo hg hb r e2 S2 A B le w2) w1) w
theorem Yl.ok {x : V} {d : D} {F0 : Fz} (ok : Ok T F S H) (sub : FzLe F0 F) (y : Yl F0 H x H' d) : ∃ F', Ok T F' S H' ∧ Ext F S H F' S H' ∧ Rep F' H' d x := by
  cases y with
  | «at» e r => exact ⟨F, by rw [e]; exact ok, by rw [e]; exact Ext.refl, by rw [e]; exact Rep.sub sub _ _ r⟩
  | new e1 hp e2 r l => exact ⟨_, by rw [e2]; exact ok.laid hp (fun _ z => by cases z), by rw [e2]; exact Ext.laid hp, by rw [e1, e2]; exact Rep.newTup ok hp (RepL.sub sub _ _ r) l⟩
theorem js_for {tg iter : Expr} {body : List Stmt} {l : LT} {g : GT} {b : DS} {pos : Pos} (hc : X.calm = true) (hi : JI T X tg iter l) (hg : JG T X tg g) (hb : JSs T X body b) (hs : ∀ x, foldedSetIterable iter X.env x = pure x := by intro _; rfl) : JS T X (.For tg iter body [] pos) (dFor l g b) := by
  refine ⟨fun env S A B le w => hi.mon _ _ _ _ _ _ (fun items S1 w1 => mon_forGo hg.mon hb.mon items env S1 A B le w1) (fun e S1 w1 => le.er _ _ _ w1) w, fun W tk po => (ps_for po hc (hi.run W tk) hg.run (hb.run W tk po) hs).weak ?_⟩
  rintro D σ H ⟨env, S, F, er, ok, w⟩
  refine ⟨env, S, F, er, ok, hi.mon _ _ _ _ _ _ (fun items S1 w1 J H1 F1 ok1 ex1 wk => ?_) (fun e S1 w1 cls da H1 F1 ok1 ex1 z => w1 cls da σ H1 F1 (er.ext ok ex1) ok1 ex1 z) w⟩
  refine ⟨fun i m σ2 H2 => ∃ env2 S2 F2, EnvRel F2 H2 σ2 env2 ∧ Ok T F2 S2 H2 ∧ Ext F1 S1 H1 F2 S2 H2 ∧ m = items.length - i ∧ i ≤ items.length ∧ forGo g b (items.drop i) env2 S2 (endK T F S H W D), ⟨items.length, env, S1, F1, er.ext ok ex1, ok1, Ext.refl, by simp, Nat.zero_le _, by simpa using w1⟩, ?_⟩
  rintro i m σ2 H2 ⟨env2, S2, F2, er2, ok2, ex2, rfl, hi', w2⟩
  have fr := ex2.fr ok1
  have e02 := ex1.trans ex2
  by_cases hlt : i < items.length
  · refine .inr ⟨wk.goes i H2 hlt fr, fun σ3 H3 => ∃ env3 S3 F3, EnvRel F3 H3 σ3 env3 ∧ Ok T F3 S3 H3 ∧ Ext F1 S1 H1 F3 S3 H3 ∧ forGo g b (items.drop (i + 1)) env3 S3 (endK T F S H W D), ?_, fun x H' y => ?_⟩
    · rintro σ3 H3 ⟨env3, S3, F3, er3, ok3, ex3, w3⟩
      exact ⟨items.length - (i + 1), by omega, env3, S3, F3, er3, ok3, ex3, rfl, hlt, w3⟩
    · obtain ⟨d, hd, yl⟩ := wk.yields i H2 x H' hlt fr y
      obtain ⟨F4, ok4, ex4, r4⟩ := yl.ok ok2 ex2.le
      have hdrop : items.drop i = d :: items.drop (i + 1) := by
        rw [List.drop_eq_getElem_cons hlt]
        congr 1
        rw [List.getElem?_eq_getElem hlt] at hd
        exact Option.some.inj hd
      rw [hdrop] at w2
      refine ⟨env2, S2, F4, d, er2.ext ok2 ex4, ok4, r4, hg.mon _ _ _ _ _ (fun env5 S5 w5 σ5 H5 F5 er5 ok5 ex5 => ?_) w2⟩
      have e25 := (ex2.trans ex4).trans ex5
      refine ⟨env5, S5, F5, er5, ok5, hb.mon _ _ _ _ ?_ w5⟩
      have back : DEnds.Le (endK T F S H W D) (endK T F5 S5 H5 W D) := endK.back (ex1.trans e25)
      exact ⟨fun e6 S6 w6 σ6 H6 F6 er6 ok6 ex6 => ⟨e6, S6, F6, er6, ok6, e25.trans ex6, w6⟩, back.rt, back.er, back.nx, fun e6 S6 w6 σ6 H6 F6 er6 ok6 ex6 => ⟨e6, S6, F6, er6, ok6, e25.trans ex6, w6⟩⟩
  · have e : i = items.length := by omega
    subst e
    rw [List.drop_length] at w2
    exact .inl ⟨wk.stops H2 fr, w2 σ2 H2 F2 er2 ok2 e02⟩

/-! ### while -/
def whGo (t : BT) (b : DS) : Nat → DEnv → Sto → DEnds → Prop
  | 0, _, _, _ => False
  | n + 1, env, S, D => t env S (fun c S1 => match c with
    | true => b env S1 (D.loop fun env2 S2 => whGo t b n env2 S2 D)
    | false => D.nx env S1) (fun e S1 => D.er e env S1)
def dWh (t : BT) (b : DS) : DS := fun env S D => ∃ n, whGo t b n env S D
theorem mon_whGo {t : BT} {b : DS} (ht : MonB t) (hb : MonS b) : ∀ (n : Nat) env S A B, DEnds.Le A B → whGo t b n env S A → whGo t b n env S B
  | 0, env, S, A, B, le, w => w
  | n + 1, env, S, A, B, le, w => ht _ _ _ _ _ _ (fun c S1 w1 => by
    cases c with
    | true => exact hb _ _ _ _ (DEnds.loop_le le fun e2 S2 w2 => mon_whGo ht hb n e2 S2 A B le w2) w1
    | false => exact le.nx _ _ w1) (fun e S1 w1 => le.er _ _ _ w1) w
theorem js_while {c : Expr} {body : List Stmt} {t : BT} {b : DS} {pos : Pos} (ht : JT T X c t) (hb : JSs T X body b) : JS T X (.While c body [] pos) (dWh t b) := by
  refine ⟨fun env S A B le ⟨n, w⟩ => ⟨n, mon_whGo ht.mon hb.mon n env S A B le w⟩, fun W tk po => (ps_while po (ht.run W tk) (hb.run W tk po)).weak ?_⟩
  rintro D σ H ⟨env, S, F, er, ok, n, w⟩
  refine ⟨fun m σ2 H2 => ∃ env2 S2 F2, EnvRel F2 H2 σ2 env2 ∧ Ok T F2 S2 H2 ∧ Ext F S H F2 S2 H2 ∧ whGo t b m env2 S2 (endK T F S H W D), ⟨n, env, S, F, er, ok, Ext.refl, w⟩, ?_⟩
  rintro m σ2 H2 ⟨env2, S2, F2, er2, ok2, ex2, w2⟩
  cases m with
  | zero => exact w2.elim
  | succ m =>
    refine ⟨env2, S2, F2, er2, ok2, ht.mon _ _ _ _ _ _ (fun c S3 w3 H3 F3 ok3 ex3 => ?_) (fun e S3 w3 cls da H3 F3 ok3 ex3 z => w3 cls da σ2 H3 F3 (er2.ext ok2 ex3) ok3 (ex2.trans ex3) z) w2⟩
    have e03 := ex2.trans ex3
    cases c with
    | true =>
      refine iteT ?_
      refine ⟨fun σ4 H4 => ∃ env4 S4 F4, EnvRel F4 H4 σ4 env4 ∧ Ok T F4 S4 H4 ∧ Ext F S H F4 S4 H4 ∧ whGo t b m env4 S4 (endK T F S H W D), ?_, ?_⟩
      · rintro σ4 H4 h4
        exact ⟨m, Nat.lt_succ_self _, h4⟩
      · refine ⟨env2, S3, F3, er2.ext ok2 ex3, ok3, hb.mon _ _ _ _ ?_ w3⟩
        have back : DEnds.Le (endK T F S H W D) (endK T F3 S3 H3 W D) := endK.back e03
        exact ⟨fun e6 S6 w6 σ6 H6 F6 er6 ok6 ex6 => ⟨e6, S6, F6, er6, ok6, e03.trans ex6, w6⟩, back.rt, back.er, back.nx, fun e6 S6 w6 σ6 H6 F6 er6 ok6 ex6 => ⟨e6, S6, F6, er6, ok6, e03.trans ex6, w6⟩⟩
    | false =>
      refine iteF ?_
      exact w3 σ2 H3 F3 (er2.ext ok2 ex3) ok3 e03

/-! ### blocks, small statements -/
def sN : DS := fun env S D => D.nx env S
def DEnds.seq (D : DEnds) (b : DS) : DEnds := ⟨fun env1 S1 => b env1 S1 D, D.rt, D.er, D.bk, D.ct⟩
def sC (a b : DS) : DS := fun env S D => a env S (D.seq b)
def sBk : DS := fun env S D => D.bk env S
def sCt : DS := fun env S D => D.ct env S
def sX (u : ET) : DS := fun env S D => u env S (fun _ S1 => D.nx env S1) (fun e S1 => D.er e env S1)
def sRt (u : ET) : DS := fun env S D => u env S D.rt (fun e S1 => D.er e env S1)
def sRtN : DS := fun _ S D => D.rt .non S
def sIf (t : BT) (a b : DS) : DS := fun env S D => t env S (fun c S1 => match c with | true => a env S1 D | false => b env S1 D) (fun e S1 => D.er e env S1)
def sAs (u : ET) (g : GT) : DS := fun env S D => u env S (fun d S1 => g d env S1 D.nx) (fun e S1 => D.er e env S1)
variable {st : Stmt} {rest : List Stmt} {a b : DS} {e : Expr} {u : ET} {pos : Pos} {t : BT}
theorem mon_sC (ha : MonS a) (hb : MonS b) : MonS (sC a b) := fun env S A B le w => ha _ _ (A.seq b) _ ⟨fun e1 S1 w1 => hb _ _ _ _ le w1, le.rt, le.er, le.bk, le.ct⟩ w
theorem jss_nil : JSs T X [] sN := by
  refine ⟨fun env S A B le w => le.nx _ _ w, fun W tk po => pss_nil.weak ?_⟩
  rintro D σ H ⟨env, S, F, er, ok, w⟩
  exact w σ H F er ok Ext.refl
theorem jss_cons (h1 : JS T X st a) (h2 : JSs T X rest b) : JSs T X (st :: rest) (sC a b) := by
  refine ⟨mon_sC h1.mon h2.mon, fun W tk po => (pss_cons (h1.run W tk po) (h2.run W tk po)).weak ?_⟩
  rintro D σ H ⟨env, S, F, er, ok, w⟩
  refine ⟨env, S, F, er, ok, h1.mon _ _ ((endK T F S H W D).seq b) _ ⟨fun e1 S1 w1 σ1 H1 F1 er1 ok1 ex1 => ?_, fun _ _ w => w, fun _ _ _ w => w, fun _ _ w => w, fun _ _ w => w⟩ w⟩
  exact ⟨e1, S1, F1, er1, ok1, h2.mon _ _ _ _ (endK.back ex1) w1⟩
theorem jss_one (h1 : JS T X st a) : JSs T X [st] a := ⟨h1.mon, fun W tk po => pss_one (h1.run W tk po)⟩
theorem js_pass : JS T X (.Pass pos) sN := by
  refine ⟨fun env S A B le w => le.nx _ _ w, fun W tk po => ps_pass.weak ?_⟩
  rintro D σ H ⟨env, S, F, er, ok, w⟩
  exact w σ H F er ok Ext.refl
theorem js_break : JS T X (.Break pos) sBk := by
  refine ⟨fun env S A B le w => le.bk _ _ w, fun W tk po => ps_break.weak ?_⟩
  rintro D σ H ⟨env, S, F, er, ok, w⟩
  exact w σ H F er ok Ext.refl
theorem js_expr (h : JE T X e u) (hs : swapsWith e none pos.line X.env = pure false := by rfl) : JS T X (.Expr e pos) (sX u) := by
  refine ⟨fun env S A B le w => h.mon _ _ _ _ _ _ (fun d S1 w1 => le.nx _ _ w1) (fun x S1 w1 => le.er _ _ _ w1) w, fun W tk po => (ps_expr (h.run W tk) hs).weak ?_⟩
  rintro D σ H ⟨env, S, F, er, ok, w⟩
  exact ⟨env, S, F, er, ok, h.mon _ _ _ _ _ _ (fun d S1 w1 v H1 F1 ok1 ex1 r1 => w1 σ H1 F1 (er.ext ok ex1) ok1 ex1) (fun x S1 w1 cls da H1 F1 ok1 ex1 z => w1 cls da σ H1 F1 (er.ext ok ex1) ok1 ex1 z) w⟩
theorem js_ret (h : JE T X e u) : JS T X (.Return (some e) pos) (sRt u) := by
  refine ⟨fun env S A B le w => h.mon _ _ _ _ _ _ le.rt (fun x S1 w1 => le.er _ _ _ w1) w, fun W tk po => (ps_ret (h.run W tk)).weak ?_⟩
  rintro D σ H ⟨env, S, F, er, ok, w⟩
  exact ⟨env, S, F, er, ok, h.mon _ _ _ _ _ _ (fun d S1 w1 => w1) (fun x S1 w1 cls da H1 F1 ok1 ex1 z => w1 cls da σ H1 F1 (er.ext ok ex1) ok1 ex1 z) w⟩
theorem js_retN : JS T X (.Return none pos) sRtN := by
  refine ⟨fun env S A B le w => le.rt _ _ w, fun W tk po => ps_retN.weak ?_⟩
  rintro D σ H ⟨env, S, F, er, ok, w⟩
  exact okK.flat ok w .non
theorem js_if {c : Expr} {x y : List Stmt} (ht : JT T X c t) (ha : JSs T X x a) (hb : JSs T X y b) : JS T X (.If c x y pos) (sIf t a b) := by
  refine ⟨fun env S A B le w => ht.mon _ _ _ _ _ _ (fun c S1 w1 => by
    cases c with
    | true => exact ha.mon _ _ _ _ le w1
    | false => exact hb.mon _ _ _ _ le w1) (fun x S1 w1 => le.er _ _ _ w1) w, fun W tk po => (ps_if (ht.run W tk) (ha.run W tk po) (hb.run W tk po)).weak ?_⟩
  rintro D σ H ⟨env, S, F, er, ok, w⟩
  refine ⟨env, S, F, er, ok, ht.mon _ _ _ _ _ _ (fun c S1 w1 H1 F1 ok1 ex1 => ?_) (fun x S1 w1 cls da H1 F1 ok1 ex1 z => w1 cls da σ H1 F1 (er.ext ok ex1) ok1 ex1 z) w⟩
  cases c with
  | true => exact iteT ⟨env, S1, F1, er.ext ok ex1, ok1, ha.mon _ _ _ _ (endK.back ex1) w1⟩
  | false => exact iteF ⟨env, S1, F1, er.ext ok ex1, ok1, hb.mon _ _ _ _ (endK.back ex1) w1⟩
theorem mon_sAs {g : GT} (h : Mon u) (hg : ∀ d env S Q Q', (∀ e S, Q e S → Q' e S) → g d env S Q → g d env S Q') : MonS (sAs u g) := fun env S A B le w => h _ _ _ _ _ _ (fun d S1 w1 => hg _ _ _ _ _ le.nx w1) (fun x S1 w1 => le.er _ _ _ w1) w
theorem as_go {g : GT} {te : TE} {gg : TG} {tg : Expr} (h : Mon u) (hg : JG T X tg g) {D : Ends} (w : upS T W (sAs u g) D σ H) : tAsg (up T W u) (upG T g) D σ H := by
  obtain ⟨env, S, F, er, ok, w⟩ := w
  refine ⟨env, S, F, er, ok, h _ _ _ _ _ _ (fun d S1 w1 v H1 F1 ok1 ex1 r1 => ?_) (fun x S1 w1 cls da H1 F1 ok1 ex1 z => w1 cls da σ H1 F1 (er.ext ok ex1) ok1 ex1 z) w⟩
  exact ⟨env, S1, F1, d, er.ext ok ex1, ok1, r1, hg.mon _ _ _ _ _ (fun e2 S2 w2 σ2 H2 F2 er2 ok2 ex2 => w2 σ2 H2 F2 er2 ok2 (ex1.trans ex2)) w1⟩
/-- target = e -/
theorem js_asg {tg : Expr} {g : GT} (h : JE T X e u) (hg : JG T X tg g) (hs : swapsWithSole [tg] e pos.line X.env = pure false := by rfl) (hw : swappedStores [tg] e X.env = pure none := by rfl) (h1 : (assignEach [tg] X.env).map (·.2) = [assign tg X.env] := by rfl) :
    JS T X (.Assign [tg] e pos) (sAs u g) :=
  ⟨mon_sAs h.mon hg.mon, fun W tk po => (ps_asg (h.run W tk) hg.run hs hw h1).weak fun D σ H w => as_go (te := fun _ _ _ => True) (gg := fun _ _ _ _ => True) h.mon hg w⟩
theorem gN_go {i : Nat} (h : Mon u) {D : Ends} (w : upS T W (sAs u (gN i)) D σ H) : tAsg (up T W u) (gName i) D σ H := by
  obtain ⟨env, S, F, er, ok, w⟩ := w
  refine ⟨env, S, F, er, ok, h _ _ _ _ _ _ (fun d S1 w1 v H1 F1 ok1 ex1 r1 => ?_) (fun x S1 w1 cls da H1 F1 ok1 ex1 z => w1 cls da σ H1 F1 (er.ext ok ex1) ok1 ex1 z) w⟩
  exact w1 _ H1 F1 ((er.ext ok ex1).set i r1) ok1 ex1
theorem mon_gN {i : Nat} : ∀ d env S (Q Q' : DEnv → Sto → Prop), (∀ e S, Q e S → Q' e S) → gN i d env S Q → gN i d env S Q' := fun _ _ _ _ _ h w => h _ _ w
/-- name = e -/
theorem js_set {x : Str} {pos' : Pos} (i : Nat) (hN : X.N.Nodup) (h : JE T X e u) (hi : X.N[i]? = some x := by rfl) (hx : Loc X.env.scope x := by first | exact Or.inl rfl | exact Or.inr rfl) (hs : swapsWith e (some (.Name x pos')) pos.line X.env = pure false := by rfl)
    (hf : X.fn x = true ∨ X.env.scope.names.lookup x = some .local := by first | exact .inl rfl | exact .inr rfl) : JS T X (.Assign [.Name x pos'] e pos) (sAs u (gN i)) :=
  ⟨mon_sAs h.mon mon_gN, fun W tk po => (ps_set hN hi hx (h.run W tk) hs hf).weak fun D σ H w => gN_go h.mon w⟩
/-- x, y = e1, e2 -/
def sPar (i j : Nat) (t : AT) : DS := fun env S D => t env S (fun ds S1 => match ds with
  | [d1, d2] => D.nx ((env.set i (some d1)).set j (some d2)) S1
  | _ => False) (fun e S1 => D.er e env S1)
theorem js_par {i j : Nat} {x y : Str} {e1 e2 : Expr} {ta : AT} {px py pt : Pos} {kt k2 pt2} (hc : X.calm = true) (hN : X.N.Nodup) (ha : JA T X [e1, e2] ta) (hi : X.N[i]? = some x := by rfl) (hj : X.N[j]? = some y := by rfl) (hij : i ≠ j := by decide)
    (hx : X.env.scope.names.lookup x = some .local := by rfl) (hy : X.env.scope.names.lookup y = some .local := by rfl)
    (hw : swappedStores [.Tuple [.Name x px, .Name y py] kt pt] (.Tuple [e1, e2] k2 pt2) X.env = pure (some [x, y]) := by rfl)
    (hs : swapsWithSole [.Tuple [.Name x px, .Name y py] kt pt] (.Tuple [e1, e2] k2 pt2) pos.line X.env = pure false := by rfl) : JS T X (.Assign [.Tuple [.Name x px, .Name y py] kt pt] (.Tuple [e1, e2] k2 pt2) pos) (sPar i j ta) := by
  refine ⟨fun env S A B le w => ha.mon _ _ _ _ _ _ (fun ds S1 w1 => by
    match ds, w1 with
    | [d1, d2], w1 => exact le.nx _ _ w1) (fun x S1 w1 => le.er _ _ _ w1) w, fun W tk po => (ps_par hc hN hi hj hij hx hy (ha.run W tk) hw hs).weak ?_⟩
  rintro D σ H ⟨env, S, F, er, ok, w⟩
  refine ⟨env, S, F, er, ok, ha.mon _ _ _ _ _ _ (fun ds S1 w1 vs H1 F1 ok1 ex1 r1 => ?_) (fun x S1 w1 cls da H1 F1 ok1 ex1 z => w1 cls da σ H1 F1 (er.ext ok ex1) ok1 ex1 z) w⟩
  match ds, w1, r1 with
  | [d1, d2], w1, r1 =>
    obtain ⟨v, u, rfl, q1, q2⟩ := rep2 r1
    exact ⟨v, u, rfl, w1 _ H1 F1 (((er.ext ok ex1).set i q1).set j q2) ok1 ex1⟩
end
end DL

namespace DL
open PySem PySem.Spec PyProof.Rows L2
section
variable {T : Tp} {X : Cx} {F F' F'' : Fz} {S S' S'' : Sto} {H H' H'' : Hp} {σ : L2.St} {W : WX}

/-! ### list comprehensions -/
theorem takesN {X : Cx} : L2N.Takes X (fun _ _ _ _ => False) := fun _ _ x => by
  obtain ⟨_, _, _, _, _, _, _, _, _, _, _, _, _, _, _, _, z⟩ := x
  exact z.elim
def wipeD (env : DEnv) : List Nat → DEnv
  | [] => env
  | v :: vs => (wipeD env vs).set v none
theorem EnvRel.wipe {env : DEnv} (r : EnvRel F H σ env) : ∀ vs : List Nat, EnvRel F H (L2.wipe σ vs) (wipeD env vs)
  | [] => r
  | v :: vs => (EnvRel.wipe r vs).clear v
/-- a clause's tests -/
structure JTs (T : Tp) (X : Cx) (ifs : List Expr) (u : BT) : Prop where
  mon : MonB u
  run : ∀ W, L2N.Takes X W → ∀ (pins : List (Addr × Obj)) (s : Shared) (σ : L2.St) (H : Hp) (Q : Bool → Hp → Prop), L2.Inv X pins σ H s → upB T W u σ H Q →
    wpAny (model X.prog X.w) X.A (forIn ifs true fun c r => if r = true then do let ok ← isTrue c X.env (eval c X.env); pure (ForInStep.yield ok) else pure (ForInStep.yield r)) (TP X pins σ Q) X.xe s
def bYes : BT := fun _ S Q _ => Q true S
theorem jts_nil : JTs T X [] bYes := ⟨fun _ _ _ _ _ _ h _ w => h _ _ w, fun W tk pins s σ H Q I ⟨env, S, F, er, ok, w⟩ => pts_nil.run pins s σ H Q I (w H F ok Ext.refl)⟩
theorem jts_one {c : Expr} {u : BT} (h : JT T X c u) : JTs T X [c] u := ⟨h.mon, fun W tk pins s σ H Q I hh => (pts_one (h.run W tk)).run pins s σ H Q I hh⟩
def noR : RK := fun _ _ => False
def lcGo (g : GT) (tt : BT) (te : ET) (env : DEnv) : List D → List D → Sto → (List D → Sto → Prop) → Prop
  | [], acc, S, K => K acc S
  | d :: r, acc, S, K => g d env S fun env1 S1 => tt env1 S1 (fun b S2 => match b with
    | true => te env1 S2 (fun y S3 => lcGo g tt te env r (acc ++ [y]) S3 K) noR
    | false => lcGo g tt te env r acc S2 K) noR
def dLc (l : LT) (g : GT) (tt : BT) (te : ET) (own : List Nat) : ET := fun env S Q R => l env S (fun items S1 => lcGo g tt te (wipeD env own) items [] S1 (fun acc S2 => Q (.lst acc) S2)) R
theorem wipe_set (env : L2.St) (i : Nat) (x : Option V) : ∀ own : List Nat, i ∈ own → L2.wipe (env.set i x) own = L2.wipe env own
  | [], h => by cases h
  | v :: vs, h => by
    by_cases e : v = i
    · subst e
      have key : ∀ (vs : List Nat) (env : L2.St), (L2.wipe (env.set v x) vs).set v none = (L2.wipe env vs).set v none := by
        intro vs
        induction vs with
        | nil => intro env; show (env.set v x).set v none = env.set v none; rw [List.set_set]
        | cons w ws ih =>
          intro env
          show ((L2.wipe (env.set v x) ws).set w none).set v none = ((L2.wipe env ws).set w none).set v none
          by_cases e : w = v
          · subst e; rw [List.set_set, List.set_set, ih]
          · rw [List.set_comm _ _ e, ih, List.set_comm _ _ (Ne.symm e)]
      exact key vs env
    · have h' : i ∈ vs := by
        rcases List.mem_cons.mp h with e' | h'
        · exact absurd e'.symm e
        · exact h'
      show (L2.wipe (env.set i x) vs).set v none = (L2.wipe env vs).set v none
      rw [wipe_set env i x vs h']
/-- a target of a comprehension: it stores in the block's own slots alone -/
def upGo (T : Tp) (own : List Nat) (u : GT) : TG := fun v σ H Q => ∃ env S F d, EnvRel F H σ env ∧ Ok T F S H ∧ Rep F H d v ∧ u d env S (fun env' S' => ∀ σ' H' F', L2.wipe σ' own = L2.wipe σ own → EnvRel F' H' σ' env' → Ok T F' S' H' → Ext F S H F' S' H' → Q σ' H')
def upGos (T : Tp) (own : List Nat) (u : GTs) : TGs := fun vs σ H Q => ∃ env S F ds, EnvRel F H σ env ∧ Ok T F S H ∧ RepL F H ds vs ∧ u ds env S (fun env' S' => ∀ σ' H' F', L2.wipe σ' own = L2.wipe σ own → EnvRel F' H' σ' env' → Ok T F' S' H' → Ext F S H F' S' H' → Q σ' H')
structure JGo (T : Tp) (X : Cx) (tg : Expr) (u : GT) (own : List Nat) : Prop where
  mon : ∀ d env S Q Q', (∀ e S, Q e S → Q' e S) → u d env S Q → u d env S Q'
  run : PG X tg (upGo T own u)
structure JGos (T : Tp) (X : Cx) (tg : List Expr) (u : GTs) (own : List Nat) : Prop where
  mon : ∀ d env S Q Q', (∀ e S, Q e S → Q' e S) → u d env S Q → u d env S Q'
  run : PGs X tg (upGos T own u)
theorem jgo_name {i : Nat} {x : Str} {pos : Pos} {own : List Nat} (hN : X.N.Nodup) (ho : i ∈ own := by decide) (hi : X.N[i]? = some x := by rfl) (hx : Loc X.env.scope x := by first | exact Or.inl rfl | exact Or.inr rfl) (hf : X.fn x = true ∨ X.env.scope.names.lookup x = some .local := by first | exact .inl rfl | exact .inr rfl) : JGo T X (.Name x pos) (gN i) own := by
  refine ⟨fun _ _ _ _ _ h w => h _ _ w, PG.weak' (pg_name hN hi hx hf) ?_⟩
  rintro v σ H Q ⟨env, S, F, d, er, ok, r, w⟩
  exact w _ H F (wipe_set σ i _ own ho) (er.set i r) ok Ext.refl
theorem jgos_nil {own : List Nat} : JGos T X [] gsN own := by
  refine ⟨fun d env S Q Q' h w => ?_, PGs.weak' pgs_nil ?_⟩
  · cases d with
    | nil => exact h _ _ w
    | cons _ _ => exact w
  · rintro vs σ H Q ⟨env, S, F, ds, er, ok, r, w⟩
    cases r with
    | nil => exact ⟨rfl, w _ H F rfl er ok Ext.refl⟩
    | cons _ _ => exact w.elim
theorem jgos_cons {e : Expr} {es : List Expr} {u : GT} {v : GTs} {own : List Nat} (h1 : JGo T X e u own) (h2 : JGos T X es v own) (hs : (assignEach (e :: es) X.env).map (·.2) = assign e X.env :: (assignEach es X.env).map (·.2) := by rfl) : JGos T X (e :: es) (gsC u v) own := by
  refine ⟨fun d env S Q Q' h w => ?_, PGs.weak' (pgs_cons h1.run h2.run hs) ?_⟩
  · cases d with
    | nil => exact w
    | cons d r => exact h1.mon _ _ _ _ _ (fun env' S' w' => h2.mon _ _ _ _ _ h w') w
  · rintro vs σ H Q ⟨env, S, F, ds, er, ok, r, w⟩
    cases r with
    | nil => exact w.elim
    | @cons d v' ds vs r1 r2 =>
      refine ⟨v', vs, rfl, env, S, F, d, er, ok, r1, h1.mon _ _ _ _ _ (fun env1 S1 w1 σ1 H1 F1 e1 er1 ok1 ex1 => ?_) w⟩
      refine ⟨env1, S1, F1, ds, er1, ok1, RepL.ext ok ex1 ds vs r2, h2.mon _ _ _ _ _ (fun env2 S2 w2 σ2 H2 F2 e2 er2 ok2 ex2 => ?_) w1⟩
      exact w2 σ2 H2 F2 (e2.trans e1) er2 ok2 (ex1.trans ex2)
theorem jgo_tup {es : List Expr} {k n : Nat} {pos : Pos} {u : GTs} {own : List Nat} (hc : X.calm = true) (h : JGos T X es u own) (hn : (assignEach es X.env).length = n := by rfl) (hst : (assignEach es X.env).findIdx? (·.1) = none := by rfl) : JGo T X (.Tuple es k pos) (gT n u) own := by
  refine ⟨fun d env S Q Q' hq w => ?_, PG.weak' (pg_tup hc h.run hn hst) ?_⟩
  · cases d with
    | tup ds => exact ⟨w.1, h.mon _ _ _ _ _ hq w.2⟩
    | _ => exact w
  · rintro v σ H Q ⟨env, S, F, d, er, ok, r, w⟩
    cases r with
    | @tup a xs ds f e k l => exact ⟨a, xs, rfl, .inl (.inl e), by rw [← k.length]; exact w.1, env, S, F, ds, er, ok, k, w.2⟩
    | _ => exact w.elim
theorem mon_lcGo {g : GT} {tt : BT} {te : ET} {env : DEnv} (hg : ∀ d env S Q Q', (∀ e S, Q e S → Q' e S) → g d env S Q → g d env S Q') (ht : MonB tt) (he : Mon te) {K K' : List D → Sto → Prop} (h : ∀ a S, K a S → K' a S) : ∀ (l acc : List D) (S : Sto), lcGo g tt te env l acc S K → lcGo g tt te env l acc S K'
  | [], acc, S, w => h _ _ w
  | d :: r, acc, S, w => hg _ _ _ _ _ (fun e1 S1 w1 => ht _ _ _ _ _ _ (fun b S2 w2 => by
    cases b with
    | true => exact he _ _ _ _ _ _ (fun y S3 w3 => mon_lcGo hg ht he h r _ S3 w3) (fun _ _ z => z) w2
    | false => exact mon_lcGo hg ht he h r _ S2 w2) (fun _ _ z => z) w1) w
theorem wipe_set_none (σ : L2.St) (v : Nat) : ∀ vs : List Nat, L2.wipe (σ.set v none) vs = (L2.wipe σ vs).set v none
  | [] => rfl
  | w :: ws => by
    show (L2.wipe (σ.set v none) ws).set w none = ((L2.wipe σ ws).set w none).set v none
    rw [wipe_set_none σ v ws]
    by_cases e : w = v
    · subst e; rfl
    · rw [List.set_comm _ _ e]
theorem wipe_wipe (σ : L2.St) : ∀ vs : List Nat, L2.wipe (L2.wipe σ vs) vs = L2.wipe σ vs
  | [] => rfl
  | v :: vs => by
    show (L2.wipe ((L2.wipe σ vs).set v none) vs).set v none = (L2.wipe σ vs).set v none
    rw [wipe_set_none, wipe_wipe σ vs, List.set_set]
theorem tabs_upd_lst {D : Addr} {xs ys : List V} (hD : H D = some (.lst xs)) (t : LamX.Tabs T.tabs H) : LamX.Tabs T.tabs (upd H D (.lst ys)) := fun p hp => by
  obtain ⟨ps, h1, h2, h3⟩ := t p hp
  have n1 : p.1 ≠ D := fun z => by rw [z, hD] at h1; cases h1
  refine ⟨ps, by rw [upd_ne n1]; exact h1, h2, fun pos cv hc => ?_⟩
  obtain ⟨c, e1, e2⟩ := h3 pos cv hc
  refine ⟨c, e1, ?_⟩
  rw [upd_ne (fun z => by rw [z, hD] at e2; cases e2)]
  exact e2
theorem drop_of {items : List D} {i : Nat} {d : D} (hlt : i < items.length) (hd : items[i]? = some d) : items.drop i = d :: items.drop (i + 1) := by
  rw [List.drop_eq_getElem_cons hlt]
  congr 1
  rw [List.getElem?_eq_getElem hlt] at hd
  exact Option.some.inj hd
/-- the state within: the list at D grows, out of the ghost state's reach -/
def LcSt (T : Tp) (F1 : Fz) (S1 : Sto) (H1 : Hp) (D : Addr) (b : Nat) (P : List DL.D → Sto → Prop) (H2 : Hp) : Prop :=
  ∃ S2 F2 acc xs, Ok T F2 S2 H2 ∧ Ext F1 S1 H1 F2 S2 H2 ∧ H2 D = some (.lst xs) ∧ ¬ F2 D ∧ S2 D = none ∧ RepL F2 H2 acc xs ∧ acc.length ≤ b ∧ P acc S2
theorem LcSt.start {D : Addr} {P : List DL.D → Sto → Prop} (ok1 : Ok T F S H) (hD : H D = none) (p : P [] S) : LcSt T F S H D 0 P (upd H D (.lst [])) := by
  refine ⟨S, F, [], [], ⟨ok1.cv, fun a f => ?_, fun a m e => ?_, tabs_upd hD ok1.tb⟩, ?_, upd_same, ?_, ok1.free hD, .nil, Nat.le_refl _, p⟩
  · obtain ⟨z, o, e, n⟩ := ok1.fz a f
    exact ⟨z, o, by rw [upd_ne (ne_of_none e hD)]; exact e, n⟩
  · have k := ok1.st a m e
    obtain ⟨o', q⟩ := k.some
    have na := ne_of_none q hD
    cases m with
    | drum => obtain ⟨g, n, h1, h2⟩ := k; exact ⟨g, n, (upd_ne na).trans h1, h2⟩
    | lst ds => obtain ⟨xs, h1, h2, h3⟩ := k; exact ⟨xs, (upd_ne na).trans h1, RepL.fr (fun b f => upd_ne (fun z => by
        obtain ⟨_, o, e2, _⟩ := ok1.fz b f
        rw [z, hD] at e2; cases e2)) ds xs h2, h3⟩
  · exact ⟨fun a o h _ _ => by rw [upd_ne (ne_of_none h hD)]; exact h, fun _ _ _ _ z => z, fun _ _ _ _ _ f => f, fun _ h => h, rfl⟩
  · intro f
    obtain ⟨_, o, e, _⟩ := ok1.fz D f
    rw [hD] at e; cases e
theorem keepsD {D : Addr} {Fa Fb : Fz} {Sa Sb : Sto} {Ha Hb : Hp} {zs : List V} (x : Ext Fa Sa Ha Fb Sb Hb) (e1 : Ha D = some (.lst zs)) (e2 : ¬ Fa D) (e3 : Sa D = none) : Hb D = some (.lst zs) ∧ ¬ Fb D ∧ Sb D = none := by
  exact ⟨x.keep D _ e1 (fun _ z => by cases z) e3, fun f => e2 (x.new D _ e1 (fun _ z => by cases z) e3 f), x.mt D _ e1 (fun _ z => by cases z) e3⟩
/-- one item more -/
theorem LcSt.app {D : Addr} {F1 F7 : Fz} {S1 S7 : Sto} {H1 H7 : Hp} {acc : List DL.D} {xs : List V} {y : DL.D} {v7 : V} {b : Nat} {P : List DL.D → Sto → Prop} (hD : H1 D = none) (ok7 : Ok T F7 S7 H7) (e17 : Ext F1 S1 H1 F7 S7 H7) (eD7 : H7 D = some (.lst xs)) (nF7 : ¬ F7 D) (nS7 : S7 D = none)
    (rp7 : RepL F7 H7 acc xs) (r7 : Rep F7 H7 y v7) (hb : acc.length ≤ b) (p : P (acc ++ [y]) S7) : LcSt T F1 S1 H1 D (b + 1) P (upd H7 D (.lst (xs ++ [v7]))) := by
  have frD : Fr F7 H7 (upd H7 D (.lst (xs ++ [v7]))) := fun a f => upd_ne (fun z => nF7 (z ▸ f))
  refine ⟨S7, F7, acc ++ [y], xs ++ [v7], ⟨ok7.cv, fun a f => ?_, fun a m e => ?_, tabs_upd_lst eD7 ok7.tb⟩, ?_, upd_same, nF7, nS7, RepL.fr frD _ _ (rp7.append (.cons r7 .nil)), by rw [List.length_append]; show acc.length + 1 ≤ b + 1; omega, p⟩
  · obtain ⟨z, o, e, n⟩ := ok7.fz a f
    exact ⟨z, o, (frD a f).trans e, n⟩
  · have k := ok7.st a m e
    have na : a ≠ D := fun z => by rw [z, nS7] at e; cases e
    cases m with
    | drum => obtain ⟨g, n, h1, h2⟩ := k; exact ⟨g, n, (upd_ne na).trans h1, h2⟩
    | lst ds => obtain ⟨zs, h1, h2, h3⟩ := k; exact ⟨zs, (upd_ne na).trans h1, RepL.fr frD ds zs h2, h3⟩
  · have nD1 : ∀ a o, H1 a = some o → a ≠ D := fun a o e z => by rw [z, hD] at e; cases e
    exact ⟨fun a o h n z => by rw [upd_ne (nD1 a o h)]; exact e17.keep a o h n z, e17.mt, e17.new, e17.sub, e17.cv⟩
/-- the end: the list is frozen -/
theorem LcSt.done {D : Addr} {F1 : Fz} {S1 : Sto} {H1 H2 : Hp} {b : Nat} {Q : VK} (hD : H1 D = none) (ex1 : Ext F S H F1 S1 H1) (hb : b ≤ 16777216) (h : LcSt T F1 S1 H1 D b (fun acc S3 => okK T F S H Q (.lst acc) S3) H2) : Q (.ref D) H2 := by
  obtain ⟨S2, F2, acc, xs, ok2, ex2, eD, nF, nS, rp, hacc, w2⟩ := h
  have e02 := ex1.trans ex2
  refine w2 _ H2 (F2.add D) ⟨ok2.cv, fun a f => ?_, fun a m e => ?_, ok2.tb⟩ ⟨e02.keep, e02.mt, fun a o h n z f => f.elim (e02.new a o h n z) fun e => absurd (ex1.keep a o h n z) (by rw [e, hD]; exact fun q => by cases q), fun a f => .inl (e02.sub a f), e02.cv⟩ (.lst (.inr rfl) eD (RepL.sub FzLe.add _ _ rp) (Nat.le_trans hacc hb))
  · rcases f with f | f
    · exact ok2.fz a f
    · subst f; exact ⟨nS, _, eD, fun _ z => by cases z⟩
  · have k := ok2.st a m e
    cases m with
    | drum => exact k
    | lst ds => obtain ⟨xs, h1, h2, h3⟩ := k; exact ⟨xs, h1, RepL.sub FzLe.add _ _ h2, h3⟩
theorem lc_go {wi : TI} {l : LT} {g : GT} {tt : BT} {te : ET} {own : List Nat} {Q : VK} (hl : MonA l) (hg : ∀ d env S Q Q', (∀ e S, Q e S → Q' e S) → g d env S Q → g d env S Q') (ht : MonB tt) (he : Mon te)
    (ewi : wi = upI T W l) (h : up T W (dLc l g tt te own) σ H Q) : tLc wi (upGo T own g) (upB T (fun _ _ _ _ => False) tt) (up T (fun _ _ _ _ => False) te) own σ H Q := by
  subst ewi
  obtain ⟨env, S, F, er, ok, w⟩ := h
  refine ⟨env, S, F, er, ok, hl _ _ _ _ _ _ (fun items S1 w1 J H1 F1 ok1 ex1 wk => ?_) (fun _ _ z => z) w⟩
  intro D hD
  have erw : EnvRel F1 H1 (L2.wipe σ own) (wipeD env own) := (er.ext ok ex1).wipe own
  refine ⟨fun i m H2 => m = items.length - i ∧ i ≤ items.length ∧ LcSt T F1 S1 H1 D i (fun acc S2 => lcGo g tt te (wipeD env own) (items.drop i) acc S2 (fun acc S3 => okK T F S H Q (.lst acc) S3)) H2, ⟨items.length, by simp, Nat.zero_le _, LcSt.start ok1 hD w1⟩, ?_⟩
  rintro i m H2 ⟨rfl, hi, st⟩
  by_cases hlt : i < items.length
  · obtain ⟨S2, F2, acc, xs, ok2, ex2, eD, nF, nS, rp, hacc, w2⟩ := st
    have fr := ex2.fr ok1
    refine .inr ⟨wk.goes i H2 hlt fr, fun H3 => LcSt T F1 S1 H1 D (i + 1) (fun acc S2 => lcGo g tt te (wipeD env own) (items.drop (i + 1)) acc S2 (fun acc S3 => okK T F S H Q (.lst acc) S3)) H3, fun H3 h3 => ⟨items.length - (i + 1), by omega, rfl, hlt, h3⟩, fun x H' y => ?_⟩
    obtain ⟨d, hd, yl⟩ := wk.yields i H2 x H' hlt fr y
    obtain ⟨F4, ok4, ex4, r4⟩ := yl.ok ok2 ex2.le
    rw [drop_of hlt hd] at w2
    obtain ⟨eD4, nF4, nS4⟩ := keepsD ex4 eD nF nS
    refine ⟨wipeD env own, S2, F4, d, erw.ext ok1 (ex2.trans ex4), ok4, r4, hg _ _ _ _ _ (fun env5 S5 w5 σ5 H5 F5 ew er5 ok5 ex5 => ?_) w2⟩
    obtain ⟨eD5, nF5, nS5⟩ := keepsD ex5 eD4 nF4 nS4
    have ew : L2.wipe σ5 own = L2.wipe σ own := by rw [ew, wipe_wipe]
    refine ⟨ew, env5, S5, F5, er5, ok5, ht _ _ _ _ _ _ (fun b S6 w6 H6 F6 ok6 ex6 => ?_) (fun _ _ z => z.elim) w5⟩
    have e45 := ex4.trans ex5
    have e25 := ex2.trans e45
    obtain ⟨eD6, nF6, nS6⟩ := keepsD ex6 eD5 nF5 nS5
    cases b with
    | false => exact iteF ⟨S6, F6, acc, xs, ok6, e25.trans ex6, eD6, nF6, nS6, RepL.ext ok2 (e45.trans ex6) acc xs rp, by omega, w6⟩
    | true =>
      refine iteT ⟨env5, S6, F6, er5.ext ok5 ex6, ok6, he _ _ _ _ _ _ (fun y S7 w7 v7 H7 F7 ok7 ex7 r7 => ?_) (fun _ _ z => z.elim) w6⟩
      obtain ⟨eD7, nF7, nS7⟩ := keepsD ex7 eD6 nF6 nS6
      have e27 := (e45.trans ex6).trans ex7
      have rp7 := RepL.ext ok2 e27 acc xs rp
      have hz : xs.length < sizeLine := by
        have := wk.len
        rw [← rp.length, sizeLine_eq]; omega
      exact ⟨xs, eD7, hz, LcSt.app hD ok7 (ex2.trans e27) eD7 nF7 nS7 rp7 r7 hacc w7⟩
  · have e : i = items.length := by omega
    subst e
    have fr : Fr F1 H1 H2 := by
      obtain ⟨S2, F2, acc, xs, ok2, ex2, _⟩ := st
      exact ex2.fr ok1
    rw [List.drop_length] at st
    exact .inl ⟨wk.stops H2 fr, LcSt.done hD ex1 wk.len st⟩
theorem mon_Lc {l : LT} {g : GT} {tt : BT} {te : ET} {own : List Nat} (hl : MonA l) (hg : ∀ d env S Q Q', (∀ e S, Q e S → Q' e S) → g d env S Q → g d env S Q') (ht : MonB tt) (he : Mon te) : Mon (dLc l g tt te own) := fun env S Q Q' R R' hq hR w =>
  hl _ _ _ _ _ _ (fun items S1 w1 => mon_lcGo hg ht he (fun a S w => hq _ _ w) items [] S1 w1) hR w
section
variable {elt tg iter : Expr} {ifs : List Expr} {scope : Scope} {own : List (Str × Nat)} {pos : Pos} {l : LT} {g : GT} {tt : BT} {te : ET}
theorem je_lc (own : List (Str × Nat)) (hc : X.calm = true) (hN : X.N.Nodup) (ok : BlkOk X.N X.env.scope scope own) (hi : JI T X tg iter l)
    (hg : ∀ (s : Shared) (H : Hp) (C : Addr) (cl : List (Str × Addr)) (fp : List Addr), JGo T (X.blk s H scope (compEnvC scope cl C X.env) fp) tg g (own.map (·.2)))
    (ht : ∀ (s : Shared) (H : Hp) (C : Addr) (cl : List (Str × Addr)) (fp : List Addr), JTs T (X.blk s H scope (compEnvC scope cl C X.env) fp) ifs tt)
    (he : ∀ (s : Shared) (H : Hp) (C : Addr) (cl : List (Str × Addr)) (fp : List Addr), JE T (X.blk s H scope (compEnvC scope cl C X.env) fp) elt te) (hs : ∀ x, foldedSetIterable iter X.env x = pure x := by intro _; rfl) :
    JE T X (.ListComp elt [⟨tg, iter, ifs, 0⟩] scope pos) (dLc l g tt te (own.map (·.2))) := by
  have mg := (hg {} (fun _ => none) 0 [] []).mon
  have mt := (ht {} (fun _ => none) 0 [] []).mon
  have me := (he {} (fun _ => none) 0 [] []).mon
  refine ⟨mon_Lc hi.mon mg mt me, fun W tk => (pe_lc hc hN (hi.run W tk) ok (fun s H C cl fp => (hg s H C cl fp).run) (fun s H C cl fp => ⟨(ht s H C cl fp).run _ takesN⟩) (fun s H C cl fp => (he s H C cl fp).run _ takesN) hs).weak ?_⟩
  exact fun σ H Q h => lc_go hi.mon mg mt me rfl h
/-- name = [..] on one line, the name a local -/
theorem js_setLc (i : Nat) (own : List (Str × Nat)) {y : Str} {py spos : Pos} (hc : X.calm = true) (hN : X.N.Nodup) (ok : BlkOk X.N X.env.scope scope own) (hi : JI T X tg iter l)
    (hg : ∀ (s : Shared) (H : Hp) (C : Addr) (cl : List (Str × Addr)) (fp : List Addr), JGo T (X.blk s H scope (compEnvC scope cl C X.env) fp) tg g (own.map (·.2)))
    (ht : ∀ (s : Shared) (H : Hp) (C : Addr) (cl : List (Str × Addr)) (fp : List Addr), JTs T (X.blk s H scope (compEnvC scope cl C X.env) fp) ifs tt)
    (he : ∀ (s : Shared) (H : Hp) (C : Addr) (cl : List (Str × Addr)) (fp : List Addr), JE T (X.blk s H scope (compEnvC scope cl C X.env) fp) elt te)
    (hsw : swapsWith (.ListComp elt [⟨tg, iter, ifs, 0⟩] scope pos) (some (.Name y py)) spos.line X.env = pure true := by exact sw_true rfl rfl rfl (by decide +kernel))
    (hy : X.N[i]? = some y := by rfl) (hyl : X.env.scope.names.lookup y = some .local := by rfl) (hs : ∀ x, foldedSetIterable iter X.env x = pure x := by intro _; rfl) :
    JS T X (.Assign [.Name y py] (.ListComp elt [⟨tg, iter, ifs, 0⟩] scope pos) spos) (sAs (dLc l g tt te (own.map (·.2))) (gN i)) := by
  have mg := (hg {} (fun _ => none) 0 [] []).mon
  have mt := (ht {} (fun _ => none) 0 [] []).mon
  have me := (he {} (fun _ => none) 0 [] []).mon
  have ml := mon_Lc (own := own.map (·.2)) hi.mon mg mt me
  refine ⟨mon_sAs ml mon_gN, fun W tk po => (ps_setLc hc hN hy hyl hsw (hi.run W tk) ok (fun s H C cl fp => (hg s H C cl fp).run) (fun s H C cl fp => ⟨(ht s H C cl fp).run _ takesN⟩) (fun s H C cl fp => (he s H C cl fp).run _ takesN) hs).weak ?_⟩
  intro D σ H w
  obtain ⟨env, S, F, er, ok', w⟩ := gN_go (W := W) ml w
  exact lc_go (W := W) hi.mon mg mt me rfl ⟨env, S, F, er, ok', w⟩
end
/-! ### two clauses -/
def lc2Go (g : GT) (tt : BT) (l1 : LT) (g1 : GT) (tt1 : BT) (te : ET) (own1 : List Nat) (env : DEnv) : List D → List D → Sto → (List D → Sto → Prop) → Prop
  | [], acc, S, K => K acc S
  | d :: r, acc, S, K => g d env S fun env1 S1 => tt env1 S1 (fun b S2 => match b with
    | true => l1 env1 S2 (fun items1 S3 => items1.length ≤ 8192 ∧ lcGo g1 tt1 te (wipeD env1 own1) items1 acc S3 (fun acc S4 => lc2Go g tt l1 g1 tt1 te own1 env r acc S4 K)) noR
    | false => lc2Go g tt l1 g1 tt1 te own1 env r acc S2 K) noR
def dLc2 (l : LT) (g : GT) (tt : BT) (l1 : LT) (g1 : GT) (tt1 : BT) (te : ET) (own own1 : List Nat) : ET := fun env S Q R => l env S (fun items S1 => items.length ≤ 2048 ∧ lc2Go g tt l1 g1 tt1 te own1 (wipeD env own) items [] S1 (fun acc S2 => Q (.lst acc) S2)) R
theorem mon_lc2Go {g g1 : GT} {tt tt1 : BT} {l1 : LT} {te : ET} {own1 : List Nat} {env : DEnv} (hg : ∀ d env S Q Q', (∀ e S, Q e S → Q' e S) → g d env S Q → g d env S Q') (ht : MonB tt) (hl1 : MonA l1) (hg1 : ∀ d env S Q Q', (∀ e S, Q e S → Q' e S) → g1 d env S Q → g1 d env S Q') (ht1 : MonB tt1) (he : Mon te) {K K' : List D → Sto → Prop} (h : ∀ a S, K a S → K' a S) :
    ∀ (l acc : List D) (S : Sto), lc2Go g tt l1 g1 tt1 te own1 env l acc S K → lc2Go g tt l1 g1 tt1 te own1 env l acc S K'
  | [], acc, S, w => h _ _ w
  | d :: r, acc, S, w => hg _ _ _ _ _ (fun e1 S1 w1 => ht _ _ _ _ _ _ (fun b S2 w2 => by
    cases b with
    | true => exact hl1 _ _ _ _ _ _ (fun items1 S3 w3 => ⟨w3.1, mon_lcGo hg1 ht1 he (fun a S w => mon_lc2Go hg ht hl1 hg1 ht1 he h r a S w) items1 _ S3 w3.2⟩) (fun _ _ z => z) w2
    | false => exact mon_lc2Go hg ht hl1 hg1 ht1 he h r _ S2 w2) (fun _ _ z => z) w1) w
theorem mon_Lc2 {l l1 : LT} {g g1 : GT} {tt tt1 : BT} {te : ET} {own own1 : List Nat} (hl : MonA l) (hg : ∀ d env S Q Q', (∀ e S, Q e S → Q' e S) → g d env S Q → g d env S Q') (ht : MonB tt) (hl1 : MonA l1) (hg1 : ∀ d env S Q Q', (∀ e S, Q e S → Q' e S) → g1 d env S Q → g1 d env S Q') (ht1 : MonB tt1) (he : Mon te) : Mon (dLc2 l g tt l1 g1 tt1 te own own1) := fun env S Q Q' R R' hq hR w =>
  hl _ _ _ _ _ _ (fun items S1 w1 => ⟨w1.1, mon_lc2Go hg ht hl1 hg1 ht1 he (fun a S w => hq _ _ w) items [] S1 w1.2⟩) hR w
theorem lc2_go {wi wi1 : TI} {l l1 : LT} {g g1 : GT} {tt tt1 : BT} {te : ET} {own own1 : List Nat} {Q : VK} (hl : MonA l) (hg : ∀ d env S Q Q', (∀ e S, Q e S → Q' e S) → g d env S Q → g d env S Q') (ht : MonB tt) (hl1 : MonA l1) (hg1 : ∀ d env S Q Q', (∀ e S, Q e S → Q' e S) → g1 d env S Q → g1 d env S Q') (ht1 : MonB tt1) (he : Mon te)
    (ewi : wi = upI T W l) (ewi1 : wi1 = upI T (fun _ _ _ _ => False) l1) (h : up T W (dLc2 l g tt l1 g1 tt1 te own own1) σ H Q) : tLc2 wi (upGo T own g) (upB T (fun _ _ _ _ => False) tt) wi1 (upGo T own1 g1) (upB T (fun _ _ _ _ => False) tt1) (up T (fun _ _ _ _ => False) te) own own1 σ H Q := by
  subst ewi ewi1
  obtain ⟨env, S, F, er, ok, w⟩ := h
  refine ⟨env, S, F, er, ok, hl _ _ _ _ _ _ (fun items S1 w1 J H1 F1 ok1 ex1 wk => ?_) (fun _ _ z => z) w⟩
  obtain ⟨hit, w1⟩ := w1
  intro D hD
  have erw : EnvRel F1 H1 (L2.wipe σ own) (wipeD env own) := (er.ext ok ex1).wipe own
  refine ⟨fun i m H2 => m = items.length - i ∧ i ≤ items.length ∧ LcSt T F1 S1 H1 D (8192 * i) (fun acc S2 => lc2Go g tt l1 g1 tt1 te own1 (wipeD env own) (items.drop i) acc S2 (fun acc S3 => okK T F S H Q (.lst acc) S3)) H2, ⟨items.length, by simp, Nat.zero_le _, LcSt.start ok1 hD w1⟩, ?_⟩
  rintro i m H2 ⟨rfl, hi, st⟩
  by_cases hlt : i < items.length
  · obtain ⟨S2, F2, acc, xs, ok2, ex2, eD, nF, nS, rp, hacc, w2⟩ := st
    have fr := ex2.fr ok1
    refine .inr ⟨wk.goes i H2 hlt fr, fun H3 => LcSt T F1 S1 H1 D (8192 * (i + 1)) (fun acc S2 => lc2Go g tt l1 g1 tt1 te own1 (wipeD env own) (items.drop (i + 1)) acc S2 (fun acc S3 => okK T F S H Q (.lst acc) S3)) H3, fun H3 h3 => ⟨items.length - (i + 1), by omega, rfl, hlt, h3⟩, fun x H' y => ?_⟩
    obtain ⟨d, hd, yl⟩ := wk.yields i H2 x H' hlt fr y
    obtain ⟨F4, ok4, ex4, r4⟩ := yl.ok ok2 ex2.le
    rw [drop_of hlt hd] at w2
    obtain ⟨eD4, nF4, nS4⟩ := keepsD ex4 eD nF nS
    refine ⟨wipeD env own, S2, F4, d, erw.ext ok1 (ex2.trans ex4), ok4, r4, hg _ _ _ _ _ (fun env5 S5 w5 σ5 H5 F5 ew er5 ok5 ex5 => ?_) w2⟩
    obtain ⟨eD5, nF5, nS5⟩ := keepsD ex5 eD4 nF4 nS4
    have ew : L2.wipe σ5 own = L2.wipe σ own := by rw [ew, wipe_wipe]
    refine ⟨ew, env5, S5, F5, er5, ok5, ht _ _ _ _ _ _ (fun b S6 w6 H6 F6 ok6 ex6 => ?_) (fun _ _ z => z.elim) w5⟩
    have e45 := ex4.trans ex5
    have e25 := ex2.trans e45
    obtain ⟨eD6, nF6, nS6⟩ := keepsD ex6 eD5 nF5 nS5
    cases b with
    | false => exact iteF ⟨S6, F6, acc, xs, ok6, e25.trans ex6, eD6, nF6, nS6, RepL.ext ok2 (e45.trans ex6) acc xs rp, by omega, w6⟩
    | true =>
      refine iteT ⟨env5, S6, F6, er5.ext ok5 ex6, ok6, hl1 _ _ _ _ _ _ (fun items1 S7 w7 J1 H7 F7 ok7 ex7 wk1 => ?_) (fun _ _ z => z.elim) w6⟩
      obtain ⟨hit1, w7⟩ := w7
      obtain ⟨eD7, nF7, nS7⟩ := keepsD ex7 eD6 nF6 nS6
      have e27 := (e45.trans ex6).trans ex7
      have e17 := ex2.trans e27
      have er7 : EnvRel F7 H7 (L2.wipe σ5 own1) (wipeD env5 own1) := ((er5.ext ok5 ex6).ext ok6 ex7).wipe own1
      have rp7 := RepL.ext ok2 e27 acc xs rp
      -- the inner loop, from the state at H7
      refine ⟨fun j k H8 => k = items1.length - j ∧ j ≤ items1.length ∧ ∃ S8 F8 acc8 xs8, Ok T F8 S8 H8 ∧ Ext F1 S1 H1 F8 S8 H8 ∧ Fr F7 H7 H8 ∧ FzLe F7 F8 ∧ EnvRel F8 H8 (L2.wipe σ5 own1) (wipeD env5 own1) ∧ H8 D = some (.lst xs8) ∧ ¬ F8 D ∧ S8 D = none ∧ RepL F8 H8 acc8 xs8 ∧ acc8.length ≤ 8192 * i + j ∧
          lcGo g1 tt1 te (wipeD env5 own1) (items1.drop j) acc8 S8 (fun acc S4 => lc2Go g tt l1 g1 tt1 te own1 (wipeD env own) (items.drop (i + 1)) acc S4 (fun acc S3 => okK T F S H Q (.lst acc) S3)),
        ⟨items1.length, by simp, Nat.zero_le _, S7, F7, acc, xs, ok7, e17, fun _ _ => rfl, ⟨fun _ f => f, rfl⟩, er7, eD7, nF7, nS7, rp7, by omega, by simpa using w7⟩, ?_⟩
      rintro j k H8 ⟨rfl, hj, S8, F8, acc8, xs8, ok8, ex8, fr8, sub8, er8, eD8, nF8, nS8, rp8, ha8, w8⟩
      by_cases hjl : j < items1.length
      · refine .inr ⟨wk1.goes j H8 hjl fr8, fun H9 => ∃ S8 F8 acc8 xs8, Ok T F8 S8 H9 ∧ Ext F1 S1 H1 F8 S8 H9 ∧ Fr F7 H7 H9 ∧ FzLe F7 F8 ∧ EnvRel F8 H9 (L2.wipe σ5 own1) (wipeD env5 own1) ∧ H9 D = some (.lst xs8) ∧ ¬ F8 D ∧ S8 D = none ∧ RepL F8 H9 acc8 xs8 ∧ acc8.length ≤ 8192 * i + (j + 1) ∧
          lcGo g1 tt1 te (wipeD env5 own1) (items1.drop (j + 1)) acc8 S8 (fun acc S4 => lc2Go g tt l1 g1 tt1 te own1 (wipeD env own) (items.drop (i + 1)) acc S4 (fun acc S3 => okK T F S H Q (.lst acc) S3)), fun H9 h9 => ⟨items1.length - (j + 1), by omega, rfl, hjl, h9⟩, fun x9 H9 y9 => ?_⟩
        obtain ⟨d9, hd9, yl9⟩ := wk1.yields j H8 x9 H9 hjl fr8 y9
        obtain ⟨Fa, oka, exa, ra⟩ := yl9.ok ok8 sub8
        rw [drop_of hjl hd9] at w8
        obtain ⟨eDa, nFa, nSa⟩ := keepsD exa eD8 nF8 nS8
        refine ⟨wipeD env5 own1, S8, Fa, d9, er8.ext ok8 exa, oka, ra, hg1 _ _ _ _ _ (fun envb Sb wb σb Hb Fb ewb erb okb exb => ?_) w8⟩
        obtain ⟨eDb, nFb, nSb⟩ := keepsD exb eDa nFa nSa
        have ewb : L2.wipe σb own1 = L2.wipe σ5 own1 := by rw [ewb, wipe_wipe]
        refine ⟨ewb, envb, Sb, Fb, erb, okb, ht1 _ _ _ _ _ _ (fun b1 Sc wc Hc Fc okc exc => ?_) (fun _ _ z => z.elim) wb⟩
        obtain ⟨eDc, nFc, nSc⟩ := keepsD exc eDb nFb nSb
        have e8c := (exa.trans exb).trans exc
        cases b1 with
        | false => exact iteF ⟨Sc, Fc, acc8, xs8, okc, ex8.trans e8c, fun a f => ((e8c.fr ok8) a (sub8.sub a f)).trans (fr8 a f), ⟨fun a f => e8c.sub a (sub8.sub a f), e8c.cv.trans sub8.cv⟩, er8.ext ok8 e8c, eDc, nFc, nSc, RepL.ext ok8 e8c acc8 xs8 rp8, by omega, wc⟩
        | true =>
          refine iteT ⟨envb, Sc, Fc, erb.ext okb exc, okc, he _ _ _ _ _ _ (fun y Sd wd vd Hd Fd okd exd rd => ?_) (fun _ _ z => z.elim) wc⟩
          obtain ⟨eDd, nFd, nSd⟩ := keepsD exd eDc nFc nSc
          have e8d := e8c.trans exd
          have hz : xs8.length < sizeLine := by rw [← rp8.length, sizeLine_eq]; omega
          have ap := LcSt.app (P := fun acc8 S8 => lcGo g1 tt1 te (wipeD env5 own1) (items1.drop (j + 1)) acc8 S8 (fun acc S4 => lc2Go g tt l1 g1 tt1 te own1 (wipeD env own) (items.drop (i + 1)) acc S4 (fun acc S3 => okK T F S H Q (.lst acc) S3))) hD okd (ex8.trans e8d) eDd nFd nSd (RepL.ext ok8 e8d acc8 xs8 rp8) rd ha8 wd
          have frd : Fr F7 H7 (upd Hd D (.lst (xs8 ++ [vd]))) := fun a f => by
            have fd := e8d.sub a (sub8.sub a f)
            have na : a ≠ D := fun z => nFd (z ▸ fd)
            rw [upd_ne na]
            exact ((e8d.fr ok8) a (sub8.sub a f)).trans (fr8 a f)
          refine ⟨xs8, eDd, hz, Sd, Fd, acc8 ++ [y], xs8 ++ [vd], ?_⟩
          have frD : Fr Fd Hd (upd Hd D (.lst (xs8 ++ [vd]))) := fun a f => upd_ne (fun z => nFd (z ▸ f))
          have okE : Ok T Fd Sd (upd Hd D (.lst (xs8 ++ [vd]))) := by
            refine ⟨okd.cv, fun a f => ?_, fun a m e => ?_, tabs_upd_lst eDd okd.tb⟩
            · obtain ⟨z, o, e, n⟩ := okd.fz a f
              exact ⟨z, o, (frD a f).trans e, n⟩
            · have k := okd.st a m e
              have na : a ≠ D := fun z => by rw [z, nSd] at e; cases e
              cases m with
              | drum => obtain ⟨g, n, h1, h2⟩ := k; exact ⟨g, n, (upd_ne na).trans h1, h2⟩
              | lst ds => obtain ⟨zs, h1, h2, h3⟩ := k; exact ⟨zs, (upd_ne na).trans h1, RepL.fr frD ds zs h2, h3⟩
          have er9 := er8.ext ok8 e8d
          have erE : EnvRel Fd (upd Hd D (.lst (xs8 ++ [vd]))) (L2.wipe σ5 own1) (wipeD env5 own1) := ⟨er9.len, fun i d e => by
            obtain ⟨v, h1, h2⟩ := er9.get i d e
            exact ⟨v, h1, Rep.fr frD d v h2⟩⟩
          have e1d := ex8.trans e8d
          have nD1 : ∀ a o, H1 a = some o → a ≠ D := fun a o e z => by rw [z, hD] at e; cases e
          exact ⟨okE, ⟨fun a o h n z => by rw [upd_ne (nD1 a o h)]; exact e1d.keep a o h n z, e1d.mt, e1d.new, e1d.sub, e1d.cv⟩, frd, ⟨fun a f => e8d.sub a (sub8.sub a f), e8d.cv.trans sub8.cv⟩, erE, upd_same, nFd, nSd,
            RepL.fr frD _ _ ((RepL.ext ok8 e8d acc8 xs8 rp8).append (.cons rd .nil)), by rw [List.length_append]; show acc8.length + 1 ≤ _; omega, wd⟩
      · have e : j = items1.length := by omega
        subst e
        rw [List.drop_length] at w8
        exact .inl ⟨wk1.stops H8 fr8, S8, F8, acc8, xs8, ok8, ex8, eD8, nF8, nS8, rp8, by omega, w8⟩
  · have e : i = items.length := by omega
    subst e
    have fr : Fr F1 H1 H2 := by
      obtain ⟨S2, F2, acc, xs, ok2, ex2, _⟩ := st
      exact ex2.fr ok1
    rw [List.drop_length] at st
    exact .inl ⟨wk.stops H2 fr, LcSt.done hD ex1 (by omega) st⟩
section
variable {elt tg iter tg1 iter1 : Expr} {ifs ifs1 : List Expr} {scope : Scope} {pos : Pos} {l l1 : LT} {g g1 : GT} {tt tt1 : BT} {te : ET}
theorem je_lc2 (own : List (Str × Nat)) (own1 : List Nat) (hc : X.calm = true) (hN : X.N.Nodup) (ok : BlkOk X.N X.env.scope scope own) (hi : JI T X tg iter l)
    (hg : ∀ (s : Shared) (H : Hp) (C : Addr) (cl : List (Str × Addr)) (fp : List Addr), JGo T (X.blk s H scope (compEnvC scope cl C X.env) fp) tg g (own.map (·.2)))
    (ht : ∀ (s : Shared) (H : Hp) (C : Addr) (cl : List (Str × Addr)) (fp : List Addr), JTs T (X.blk s H scope (compEnvC scope cl C X.env) fp) ifs tt)
    (hi1 : ∀ (s : Shared) (H : Hp) (C : Addr) (cl : List (Str × Addr)) (fp : List Addr), JI T (X.blk s H scope (compEnvC scope cl C X.env) fp) tg1 iter1 l1)
    (hg1 : ∀ (s : Shared) (H : Hp) (C : Addr) (cl : List (Str × Addr)) (fp : List Addr), JGo T (X.blk s H scope (compEnvC scope cl C X.env) fp) tg1 g1 own1)
    (ht1 : ∀ (s : Shared) (H : Hp) (C : Addr) (cl : List (Str × Addr)) (fp : List Addr), JTs T (X.blk s H scope (compEnvC scope cl C X.env) fp) ifs1 tt1)
    (he : ∀ (s : Shared) (H : Hp) (C : Addr) (cl : List (Str × Addr)) (fp : List Addr), JE T (X.blk s H scope (compEnvC scope cl C X.env) fp) elt te)
    (hv : ∀ i ∈ own1, i ∈ own.map (·.2) := by decide) (hs : ∀ x, foldedSetIterable iter X.env x = pure x := by intro _; rfl) (hs1 : ∀ env x, foldedSetIterable iter1 env x = pure x := by intro _ _; rfl) :
    JE T X (.ListComp elt [⟨tg, iter, ifs, 0⟩, ⟨tg1, iter1, ifs1, 0⟩] scope pos) (dLc2 l g tt l1 g1 tt1 te (own.map (·.2)) own1) := by
  have mg := (hg {} (fun _ => none) 0 [] []).mon
  have mt := (ht {} (fun _ => none) 0 [] []).mon
  have ml1 := (hi1 {} (fun _ => none) 0 [] []).mon
  have mg1 := (hg1 {} (fun _ => none) 0 [] []).mon
  have mt1 := (ht1 {} (fun _ => none) 0 [] []).mon
  have me := (he {} (fun _ => none) 0 [] []).mon
  refine ⟨mon_Lc2 hi.mon mg mt ml1 mg1 mt1 me, fun W tk => (pe_lc2 hc hN (hi.run W tk) ok hv (fun s H C cl fp => (hg s H C cl fp).run) (fun s H C cl fp => ⟨(ht s H C cl fp).run _ takesN⟩) (fun s H C cl fp => (hi1 s H C cl fp).run _ takesN) (fun s H C cl fp => (hg1 s H C cl fp).run) (fun s H C cl fp => ⟨(ht1 s H C cl fp).run _ takesN⟩) (fun s H C cl fp => (he s H C cl fp).run _ takesN) hs hs1).weak ?_⟩
  exact fun σ H Q h => lc2_go hi.mon mg mt ml1 mg1 mt1 me rfl rfl h
theorem js_setLc2 (i : Nat) (own : List (Str × Nat)) (own1 : List Nat) {y : Str} {py spos : Pos} (hc : X.calm = true) (hN : X.N.Nodup) (ok : BlkOk X.N X.env.scope scope own) (hi : JI T X tg iter l)
    (hg : ∀ (s : Shared) (H : Hp) (C : Addr) (cl : List (Str × Addr)) (fp : List Addr), JGo T (X.blk s H scope (compEnvC scope cl C X.env) fp) tg g (own.map (·.2)))
    (ht : ∀ (s : Shared) (H : Hp) (C : Addr) (cl : List (Str × Addr)) (fp : List Addr), JTs T (X.blk s H scope (compEnvC scope cl C X.env) fp) ifs tt)
    (hi1 : ∀ (s : Shared) (H : Hp) (C : Addr) (cl : List (Str × Addr)) (fp : List Addr), JI T (X.blk s H scope (compEnvC scope cl C X.env) fp) tg1 iter1 l1)
    (hg1 : ∀ (s : Shared) (H : Hp) (C : Addr) (cl : List (Str × Addr)) (fp : List Addr), JGo T (X.blk s H scope (compEnvC scope cl C X.env) fp) tg1 g1 own1)
    (ht1 : ∀ (s : Shared) (H : Hp) (C : Addr) (cl : List (Str × Addr)) (fp : List Addr), JTs T (X.blk s H scope (compEnvC scope cl C X.env) fp) ifs1 tt1)
    (he : ∀ (s : Shared) (H : Hp) (C : Addr) (cl : List (Str × Addr)) (fp : List Addr), JE T (X.blk s H scope (compEnvC scope cl C X.env) fp) elt te)
    (hsw : swapsWith (.ListComp elt [⟨tg, iter, ifs, 0⟩, ⟨tg1, iter1, ifs1, 0⟩] scope pos) (some (.Name y py)) spos.line X.env = pure true := by exact sw_true rfl rfl rfl (by decide +kernel))
    (hy : X.N[i]? = some y := by rfl) (hyl : X.env.scope.names.lookup y = some .local := by rfl)
    (hv : ∀ i ∈ own1, i ∈ own.map (·.2) := by decide) (hs : ∀ x, foldedSetIterable iter X.env x = pure x := by intro _; rfl) (hs1 : ∀ env x, foldedSetIterable iter1 env x = pure x := by intro _ _; rfl) :
    JS T X (.Assign [.Name y py] (.ListComp elt [⟨tg, iter, ifs, 0⟩, ⟨tg1, iter1, ifs1, 0⟩] scope pos) spos) (sAs (dLc2 l g tt l1 g1 tt1 te (own.map (·.2)) own1) (gN i)) := by
  have mg := (hg {} (fun _ => none) 0 [] []).mon
  have mt := (ht {} (fun _ => none) 0 [] []).mon
  have ml1 := (hi1 {} (fun _ => none) 0 [] []).mon
  have mg1 := (hg1 {} (fun _ => none) 0 [] []).mon
  have mt1 := (ht1 {} (fun _ => none) 0 [] []).mon
  have me := (he {} (fun _ => none) 0 [] []).mon
  have ml := mon_Lc2 (own := own.map (·.2)) (own1 := own1) hi.mon mg mt ml1 mg1 mt1 me
  refine ⟨mon_sAs ml mon_gN, fun W tk po => (ps_setLc2 hc hN hy hyl hsw (hi.run W tk) ok hv (fun s H C cl fp => (hg s H C cl fp).run) (fun s H C cl fp => ⟨(ht s H C cl fp).run _ takesN⟩) (fun s H C cl fp => (hi1 s H C cl fp).run _ takesN) (fun s H C cl fp => (hg1 s H C cl fp).run) (fun s H C cl fp => ⟨(ht1 s H C cl fp).run _ takesN⟩) (fun s H C cl fp => (he s H C cl fp).run _ takesN) hs hs1).weak ?_⟩
  intro D σ H w
  obtain ⟨env, S, F, er, ok', w⟩ := gN_go (W := W) ml w
  exact lc2_go (W := W) hi.mon mg mt ml1 mg1 mt1 me rfl rfl ⟨env, S, F, er, ok', w⟩
end
end
end DL

namespace DL
open PySem PySem.Spec PyProof.Rows L2
section
variable {T : Tp} {X : Cx} {F F' F'' : Fz} {S S' S'' : Sto} {H H' H'' : Hp} {σ : L2.St} {W : WX}

/-! ### isinstance -/
inductive TN where
  | non | bl | int | str | tup | lst
  deriving DecidableEq
def TN.nm : TN → String
  | .non => "NoneType" | .bl => "bool" | .int => "int" | .str => "str" | .tup => "tuple" | .lst => "list"
def tyD (S : Sto) : D → Option TN
  | .non => some .non
  | .bl _ => some .bl
  | .int _ => some .int
  | .str _ => some .str
  | .tup _ => some .tup
  | .lst _ => some .lst
  | .scr _ => none
  | .obj a => (match S a with | some (.lst _) => some .lst | some .drum => some .lst | _ => none)
  | .cst _ => none
def isTN : TN → TN → Bool
  | .bl, .bl => true | .int, .int => true | .str, .str => true | .tup, .tup => true | .lst, .lst => true | .non, .non => true
  | .bl, .int => true
  | _, _ => false
theorem kit_TN {K : PySem.W.Frag} (n t : TN) : PySem.W.kitOne K (.type n.nm) (.type t.nm) = some (isTN n t) := by
  cases n <;> cases t <;> exact kit_ty (by decide +kernel)
def dIsi (t : TN) (ua : ET) : ET := fun env S Q R => ua env S (fun d S1 => match tyD S1 d with | some n => Q (.bl (isTN n t)) S1 | none => False) R
theorem tyD_of (ok : Ok T F S H) {K : PySem.W.Frag} {d : D} {v : V} {n : TN} (r : Rep F H d v) (e : tyD S d = some n) : TyX K H v (.type n.nm) := by
  cases r with
  | non => cases e; exact .base .non
  | bl b => cases e; exact .base (.bl b)
  | int b => cases e; exact .base (.int b)
  | str k => cases e; exact .base (.str _)
  | tup f h q l => cases e; exact .base (.tup h)
  | lst f h q l => cases e; exact .base (.lst h)
  | scr f h l => cases e
  | scK h l => cases e
  | cst n => cases e
  | obj a =>
    have e : (match S a with | some (.lst _) => some TN.lst | some .drum => some TN.lst | _ => none) = some n := e
    split at e
    · rename_i ds hs
      cases e
      obtain ⟨xs, h1, h2⟩ := ok.st a _ hs
      exact .base (.lst h1)
    · rename_i hs
      cases e
      obtain ⟨g, n, h1, h2⟩ := ok.st a _ hs
      exact .base (.lst h1)
    · cases e
theorem je_isi {a : Expr} {ua : ET} {x : Str} {p p2 pos : Pos} (t : TN) (hm : X.mg "isinstance" = none) (hm2 : X.mg x = none) (ha : JE T X a ua) (hv2 : bootBuiltins x = some (.type t.nm) := by decide +kernel) (hg : Gl X "isinstance" := by rfl) (hg2 : Gl X x := by rfl)
    (hv : bootBuiltins "isinstance" = some (.builtin "isinstance") := by decide +kernel) (hn2 : x ≠ "__name__" := by decide) (hd2 : (x == ("__debug__" : Str)) = false := by decide)
    (he : starEach [a, .Name x p2] X.env = (false, eval a X.env) :: starEach [.Name x p2] X.env := by rfl) (hpl : (backTo pos (starEach [.Name x p2] X.env)).any (·.1) = false := by rfl) (hs2 : starEach [.Name x p2] X.env = (false, eval (.Name x p2) X.env) :: starEach [] X.env := by rfl) :
    JE T X (.Call (.Name "isinstance" p) [a, .Name x p2] [] pos) (dIsi t ua) := by
  refine ⟨fun env S Q Q' R R' hq hR w => ha.mon _ _ _ _ _ _ (fun d S1 w1 => ?_) hR w, fun W tk => (pe_callB call_isi hg hm hv (pa_cons (ha.run W tk) (pa_cons (pe_bltn (v := .ty t.nm) hg2 hm2 hv2 rfl hn2 hd2) pa_nil hs2) he) (by decide) (by decide) he hpl).weak ?_⟩
  · revert w1
    show (match tyD S1 d with | some n => Q (.bl (isTN n t)) S1 | none => False) → (match tyD S1 d with | some n => Q' (.bl (isTN n t)) S1 | none => False)
    cases tyD S1 d with
    | none => exact fun w => w
    | some n => exact fun w => hq _ _ w
  · rintro σ H Q ⟨env, S, F, er, ok, w⟩
    refine ⟨env, S, F, er, ok, ha.mon _ _ _ _ _ _ (fun d S1 w1 v1 H1 F1 ok1 ex1 r1 => ?_) (fun _ _ z => z) w⟩
    cases e : tyD S1 d with
    | none => rw [e] at w1; exact w1.elim
    | some n =>
      rw [e] at w1
      exact ⟨v1, .ty t.nm, _, _, _, rfl, .ty _, tyD_of ok1 r1 e, kit_TN n t, w1 _ H1 F1 ok1 ex1 (.bl _)⟩

/-! ### int, len, tuple, list, str, bool -/
def opInt : OL := fun _ ds => match ds with
  | [x] => (match x with
    | .int i => .ok (.int i)
    | .bl b => .ok (.int (if b then 1 else 0))
    | .str s => (match s with
      | [c] => .pre (48 ≤ c ∧ c ≤ 57) (.int ((c : Int) - 48))
      | _ => .no)
    | _ => .no)
  | _ => .no
theorem digit_text {c : Nat} (h1 : 48 ≤ c) (h2 : c ≤ 57) : PySem.intText? (sOf [c]) = some ((c : Int) - 48) := by
  have : c = 48 ∨ c = 49 ∨ c = 50 ∨ c = 51 ∨ c = 52 ∨ c = 53 ∨ c = 54 ∨ c = 55 ∨ c = 56 ∨ c = 57 := by omega
  rcases this with rfl | rfl | rfl | rfl | rfl | rfl | rfl | rfl | rfl | rfl <;> decide +kernel
theorem oc_int : CallR X (.type "int") (rDL T opInt) := by
  intro pins s σ H vs us Q I r ⟨F, S, ds, ok, q, h⟩
  match ds, h with
  | [x], h =>
    obtain ⟨v, rfl, q1⟩ := rep1 q
    cases q1 with
    | int i => exact call_int1 pins s σ H _ us Q I r (.inl ⟨i, rfl, okK.flat ok h (.int _)⟩)
    | bl b => exact call_int1 pins s σ H _ us Q I r (.inr ⟨b, rfl, okK.flat ok h (.int _)⟩)
    | @str z kz =>
      match z, h with
      | [c], h => exact call_int_str pins s σ H _ us Q I r ⟨sOf [c], _, rfl, digit_text h.1.1 h.1.2, by rw [sOf_len]; show (1 : Nat) ≤ 640; decide, okK.flat ok h.2 (.int _)⟩
      | [], h => exact h.elim
      | _ :: _ :: _, h => exact h.elim
    | _ => exact h.elim
  | [], h => exact h.elim
  | _ :: _ :: _, h => exact h.elim
def opLen : OL := fun S ds => match ds with
  | [x] => (match x with
    | .str s => .ok (.int (s.length : Nat))
    | x => (match seqOf S x with | some l => .ok (.int (l.length : Nat)) | none => .no))
  | _ => .no
theorem oc_len : CallR X (.builtin "len") (rDL T opLen) := by
  intro pins s σ H vs us Q I r ⟨F, S, ds, ok, q, h⟩
  match ds, h with
  | [x], h =>
    obtain ⟨v, rfl, q1⟩ := rep1 q
    have other : ∀ {v : V}, Rep F H x v → Vals [v] us → ((match seqOf S x with | some l => PR.ok (.int (l.length : Nat)) | none => .no).wp fun z => okK T F S H Q z S) → wpAny (model X.prog X.w) X.A (call (.builtin "len") us) (EP X pins σ Q) X.xe s := fun {v} q1 r h => by
      cases e : seqOf S x with
      | none => rw [e] at h; exact h.elim
      | some l =>
        rw [e] at h
        obtain ⟨a, xs, rfl, hs, k, hl⟩ := seq_of ok (K := X.K) q1 e
        exact call_len_seq pins s σ H _ us Q I r ⟨a, xs, rfl, hs, by rw [← k.length]; exact okK.flat ok h (.int _)⟩
    cases q1 with
    | @str z kz => exact call_len_str pins s σ H _ us Q I r ⟨sOf z, rfl, by rw [sOf_len, sizeLine_eq]; exact kz.2, by rw [sOf_len]; exact okK.flat ok h (.int _)⟩
    | non => exact other .non r h
    | bl b => exact other (.bl b) r h
    | int b => exact other (.int b) r h
    | cst b => exact other (.cst b) r h
    | obj b => exact other (.obj b) r h
    | tup a b c d => exact other (.tup a b c d) r h
    | lst a b c d => exact other (.lst a b c d) r h
    | scr a b c => exact other (.scr a b c) r h
    | scK a b => exact other (.scK a b) r h
  | [], h => exact h.elim
  | _ :: _ :: _, h => exact h.elim
def opTup : OL := fun S ds => match ds with
  | [x] => (match x with
    | .tup l => .ok (.tup l)
    | x => (match lstOf S x with | some l => .ok (.tup l) | none => .no))
  | _ => .no
theorem oc_tup : CallR X (.type "tuple") (rDL T opTup) := by
  intro pins s σ H vs us Q I r ⟨F, S, ds, ok, q, h⟩
  match ds, h with
  | [x], h =>
    obtain ⟨v, rfl, q1⟩ := rep1 q
    have other : ∀ {v : V}, Rep F H x v → Vals [v] us → ((match lstOf S x with | some l => PR.ok (.tup l) | none => .no).wp fun z => okK T F S H Q z S) → wpAny (model X.prog X.w) X.A (call (.type "tuple") us) (EP X pins σ Q) X.xe s := fun {v} q1 r h => by
      cases e : lstOf S x with
      | none => rw [e] at h; exact h.elim
      | some l =>
        rw [e] at h
        obtain ⟨a, xs, rfl, ha, k, hl⟩ := list_of ok q1 e
        exact call_tuple_of pins s σ H _ us Q I r ⟨a, xs, rfl, .inl ⟨.inl (.inl ha), okK.newT ok h k hl⟩⟩
    cases q1 with
    | tup f e k l => exact call_tuple_of pins s σ H _ us Q I r ⟨_, _, rfl, .inr ⟨.inl (.inl e), okK.flat ok h (.tup f e k l)⟩⟩
    | non => exact other .non r h
    | bl b => exact other (.bl b) r h
    | int b => exact other (.int b) r h
    | str b => exact other (.str b) r h
    | cst b => exact other (.cst b) r h
    | obj b => exact other (.obj b) r h
    | lst a b c d => exact other (.lst a b c d) r h
    | scr a b c => exact other (.scr a b c) r h
    | scK a b => exact other (.scK a b) r h
  | [], h => exact h.elim
  | _ :: _ :: _, h => exact h.elim
def opList : OL := fun S ds => match ds with
  | [x] => (match x with
    | .str s => .ok (.lst (s.map fun c => .str [c]))
    | x => (match seqOf S x with | some l => .ok (.lst l) | none => .no))
  | _ => .no
theorem vals_get : ∀ {vs : List V} {us : List Value}, vs.length = us.length → (∀ (i : Nat) (v : V) (u : Value), vs[i]? = some v → us[i]? = some u → RelV v u) → Vals vs us
  | [], [], _, _ => .nil
  | [], _ :: _, h, _ => by cases h
  | _ :: _, [], h, _ => by cases h
  | v :: vs, u :: us, h, k => .cons (k 0 v u rfl rfl) (vals_get (Nat.succ.inj h) fun i a b h1 h2 => k (i + 1) a b (by simpa using h1) (by simpa using h2))
theorem signs_vals (z : List Nat) {acc : Array Value} (h : ItemsOf (SignAt (sOf z)) acc (sOf z).cps.size) : Vals ((z.map fun c => sOf [c]).map V.str) acc.toList := by
  have hs : (sOf z).cps.size = z.length := by show z.toArray.size = _; rw [List.size_toArray]
  rw [hs] at h
  refine vals_get (by simp [h.1]) fun i v u h1 h2 => ?_
  obtain ⟨c, t, hc, rfl⟩ := h.2 i u (by simpa using h2)
  have hc' : z[i]? = some c := by simpa [sOf] using hc
  have : v = .str (sOf [c]) := by simpa [hc'] using h1.symm
  rw [this]
  exact ⟨t, rfl⟩
theorem sOk_one {z : List Nat} (k : sOk z) : ∀ b ∈ z.map fun c => [c], sOk b := fun b hb => by
  obtain ⟨c, hc, rfl⟩ := List.mem_map.mp hb
  exact ⟨fun c' h' => by
    have : c' = c := by simpa using h'
    rw [this]; exact k.1 c hc, by show (1 : Nat) ≤ 16777216; decide⟩
theorem oc_list (hc : X.calm = true) : CallR X (.type "list") (rDL T opList) := by
  intro pins s σ H vs us Q I r ⟨F, S, ds, ok, q, h⟩
  match ds, h with
  | [x], h =>
    obtain ⟨v, rfl, q1⟩ := rep1 q
    have other : ∀ {v : V}, Rep F H x v → Vals [v] us → ((match seqOf S x with | some l => PR.ok (.lst l) | none => .no).wp fun z => okK T F S H Q z S) → wpAny (model X.prog X.w) X.A (call (.type "list") us) (EP X pins σ Q) X.xe s := fun {v} q1 r h => by
      cases e : seqOf S x with
      | none => rw [e] at h; exact h.elim
      | some l =>
        rw [e] at h
        obtain ⟨a, xs, rfl, hs, k, hl⟩ := seq_of ok (K := X.K) q1 e
        exact call_list_of pins s σ H _ us Q I r ⟨a, xs, rfl, hs, okK.newL ok h k hl⟩
    cases q1 with
    | @str z kz =>
      obtain ⟨u, rfl, t, rfl⟩ := vals1 r
      refine call_list_str (I.ok.hd hc) (sOf z) t (hn := by rw [sizeLine_eq]; show z.toArray.size ≤ _; rw [List.size_toArray]; exact kz.2) fun h' tk acc' c' hk hS' hacc => ?_
      have hv := signs_vals z hacc
      refine ⟨.ref _, _, I.laid (o := .lst ((z.map fun c => sOf [c]).map V.str)) hk (Nat.le_refl _) ⟨by rw [sizeLine_eq]; simp; exact kz.2, acc'.toList, c', hv, by simpa using hS'⟩, rfl, ?_⟩
      refine okK.newL ok h ?_ (by rw [List.length_map]; exact kz.2) _ I.fresh
      have e1 : z.map (fun c => D.str [c]) = (z.map fun c => [c]).map D.str := by rw [List.map_map]; rfl
      have e2 : (z.map fun c => sOf [c]).map V.str = ((z.map fun c => [c]).map sOf).map V.str := by simp
      rw [e1, e2]
      exact RepL.ofSts (sOk_one kz)
    | non => exact other .non r h
    | bl b => exact other (.bl b) r h
    | int b => exact other (.int b) r h
    | cst b => exact other (.cst b) r h
    | obj b => exact other (.obj b) r h
    | tup a b c d => exact other (.tup a b c d) r h
    | lst a b c d => exact other (.lst a b c d) r h
    | scr a b c => exact other (.scr a b c) r h
    | scK a b => exact other (.scK a b) r h
  | [], h => exact h.elim
  | _ :: _ :: _, h => exact h.elim
def intStr (i : Int) : List Nat := (Str.cps (toString i : String)).toList
def opStr : OL := fun _ ds => match ds with
  | [x] => (match x with
    | .int i => .pre (0 ≤ i ∧ i < 100) (.str (intStr i))
    | _ => .no)
  | _ => .no
theorem intStr_ok {i : Int} (h0 : 0 ≤ i) (h1 : i < 100) : sOk (intStr i) := by
  have key : (List.range 100).all (fun n => sOkB (intStr ((n : Nat) : Int))) = true := by decide +kernel
  have := List.all_eq_true.mp key i.toNat (List.mem_range.mpr (by omega))
  rw [Int.toNat_of_nonneg h0] at this
  exact sOk_of this
theorem oc_str : CallR X (.type "str") (rDL T opStr) := by
  intro pins s σ H vs us Q I r ⟨F, S, ds, ok, q, h⟩
  match ds, h with
  | [x], h =>
    obtain ⟨v, rfl, q1⟩ := rep1 q
    cases q1 with
    | int i =>
      obtain ⟨⟨h0, h1⟩, h⟩ := h
      refine call_str_int pins s σ H _ us Q I r ⟨i, rfl, ?_, ?_⟩
      · by_cases z : i.natAbs = 0
        · rw [z]; decide
        · have := (Nat.log2_lt z).mpr (show i.natAbs < 2 ^ 7 by omega)
          omega
      · have e : sOf (intStr i) = (toString i : String) := sOf_toList rfl
        rw [← e]
        exact okK.flat ok h (.str (intStr_ok h0 h1))
    | _ => exact h.elim
  | [], h => exact h.elim
  | _ :: _ :: _, h => exact h.elim
def opBool : OL := fun _ ds => match ds with
  | [x] => (match x with
    | .bl b => .ok (.bl b)
    | _ => .no)
  | _ => .no
theorem oc_bool : CallR X (.type "bool") (rDL T opBool) := by
  intro pins s σ H vs us Q I r ⟨F, S, ds, ok, q, h⟩
  match ds, h with
  | [x], h =>
    obtain ⟨v, rfl, q1⟩ := rep1 q
    cases q1 with
    | bl b => exact call_bool1 pins s σ H _ us Q I r (.inr ⟨b, rfl, okK.flat ok h (.bl _)⟩)
    | _ => exact h.elim
  | [], h => exact h.elim
  | _ :: _ :: _, h => exact h.elim

/-! ### min, max -/
theorem oc_max (hc : X.calm = true) : CallR X (.builtin "max") (rDL T opMax) := by
  intro pins s σ H vs us Q I r ⟨F, S, ds, ok, q, h⟩
  match ds, h with
  | [x], h =>
    obtain ⟨v, rfl, q1⟩ := rep1 q
    have h : (match lstOf S x with | some l => (match nts l with | some bs => PR.pre (bs ≠ []) (.int (mxL bs)) | none => .no) | none => .no).wp _ := h
    cases e : lstOf S x with
    | none => rw [e] at h; exact h.elim
    | some l =>
      simp only [e] at h
      cases e2 : nts l with
      | none => rw [e2] at h; exact h.elim
      | some bs =>
        simp only [e2] at h
        obtain ⟨a, xs, rfl, ha, k, _⟩ := list_of ok q1 e
        rw [nts_eq e2] at k
        have := k.nts
        subst this
        exact cr_max hc pins s σ H _ us Q I r ⟨a, bs, rfl, .inl (.inl ha), List.length_pos_iff.mpr h.1, fun m h1 h2 => by rw [mxL_uniq h1 h2]; exact okK.flat ok h.2 (.int _)⟩
  | [x, y], h =>
    obtain ⟨v, u, rfl, q1, q2⟩ := rep2 q
    cases q1 with
    | int i =>
      cases q2 with
      | int j => exact call_max2 hc pins s σ H _ us Q I r ⟨i, j, rfl, okK.flat ok h (.int _)⟩
      | _ => exact h.elim
    | _ => exact h.elim
  | [], h => exact h.elim
  | _ :: _ :: _ :: _, h => exact h.elim
theorem cmp_strs {P : Program} {w : World} {A : Around} {xs : Array Value} (val : Nat → List Nat) (hval : ∀ i v, xs[i]? = some v → ∃ t, v = Value.str (sOf (val i)) t) :
    CmpOf P w A .Lt (fun i v => xs[i]? = some v) (fun i j => ltL (val i) (val j)) := fun i j vi vj s Q E hi hj h => by
  obtain ⟨t, rfl⟩ := hval i vi hi
  obtain ⟨u, rfl⟩ := hval j vj hj
  have e : ltL (val i) (val j) = decide ((sOf (val i)).cps.toList < (sOf (val j)).cps.toList) := by rw [sOf_toL, sOf_toL]; rfl
  have h : Q (Value.bool (ltL (val i) (val j))) s := h
  rw [e] at h
  exact richCompare_gives (op := .Lt) (typeIs_str s _ t) (typeIs_str s _ u) PySem.F.slot_str_lt PySem.F.entry_str_lt (PySem.F.args_str_lt_2 _ _) (gives_str_lt _ _ t u) (fun x => nomatch x) h
theorem min_strs {P : Program} {w : World} {A : Around} {E : Value → Shared → Prop} {s : Shared} {a b : List Nat} {t u : Tok} {Q : Value → Shared → Prop} (hh : A.handled = none)
    (h : ∀ h' tk, (∀ c o, s.heap.get? c = some o → h'.get? c = some o) → Q (if ltL b a then Value.str (sOf b) u else Value.str (sOf a) t) { s with heap := h', toks := tk }) :
    wpAny (model P w) A (call (.builtin "min") [Value.str (sOf a) t, Value.str (sOf b) u]) Q E s := by
  have hT : (s.heap.push { cls := .type "tuple", data := .seq #[Value.str (sOf a) t, Value.str (sOf b) u] }).IsTuple s.heap.objs.size #[Value.str (sOf a) t, Value.str (sOf b) u] := ⟨_, Heap.get?_push_size _ rfl, rfl, 0, rfl⟩
  refine call_min_two (wpAny_pyIter_tuple hT ?_)
  have hsz : (s.heap.push { cls := .type "tuple", data := .seq #[Value.str (sOf a) t, Value.str (sOf b) u] }).objs.size = s.heap.objs.size + 1 := Heap.size_push ..
  refine ⟨_, [_, s.heap.objs.size], [_], _, _, _, _, rfl, Walks.tuple (A := A.in1) hh _ s.heap.objs.size (by rw [hsz]; exact Nat.ne_of_lt (Nat.lt_succ_self _)) #[Value.str (sOf a) t, Value.str (sOf b) u],
    ⟨⟨_, Heap.get?_push_size _ rfl, rfl, rfl⟩, hT.push _⟩, fun c hc => ?_, by show 0 < 2; exact Nat.zero_lt_two, cmp_strs (fun i => if i = 0 then a else b) (fun i v hi => ?_), fun v h' tk hP hk => ?_⟩
  · show c < ((s.heap.push _).push _).objs.size
    rw [Heap.size_push, hsz]
    simp only [List.mem_cons, List.not_mem_nil, or_false] at hc
    rcases hc with hc | hc
    · rw [hc, hsz]; exact Nat.lt_succ_self _
    · rw [hc]; exact Nat.lt_of_lt_of_le (Nat.lt_succ_self _) (Nat.le_succ _)
  · match i, hi with
    | 0, hi => simp at hi; exact ⟨t, hi.symm⟩
    | 1, hi => simp at hi; exact ⟨u, hi.symm⟩
    | _ + 2, hi => simp at hi
  · have hold : ∀ c o, s.heap.get? c = some o → h'.get? c = some o := fun c o e => by
      refine hk c o (fun hm => ?_) (Heap.get?_push_of_some _ (Heap.get?_push_of_some _ e))
      have := Heap.lt_size e
      simp only [List.mem_cons, List.not_mem_nil, or_false] at hm
      rw [hm, hsz] at this
      exact Nat.not_succ_lt_self this
    have q := h h' tk hold
    have hP' : (#[Value.str (sOf a) t, .str (sOf b) u] : Array Value)[argBest (fun i j => ltL (if i = 0 then a else b) (if j = 0 then a else b)) 1]? = some v := hP
    cases hb : ltL b a with
    | true =>
      have e : argBest (fun i j => ltL (if i = 0 then a else b) (if j = 0 then a else b)) 1 = 1 := by simp [argBest, hb]
      rw [e] at hP'
      rw [hb] at q
      have : v = .str (sOf b) u := by simpa using hP'.symm
      rw [this]; exact q
    | false =>
      have e : argBest (fun i j => ltL (if i = 0 then a else b) (if j = 0 then a else b)) 1 = 0 := by simp [argBest, hb]
      rw [e] at hP'
      rw [hb] at q
      have : v = .str (sOf a) t := by simpa using hP'.symm
      rw [this]; exact q
theorem oc_min (hc : X.calm = true) : CallR X (.builtin "min") (rDL T opMin) := by
  intro pins s σ H vs us Q I r ⟨F, S, ds, ok, q, h⟩
  match ds, h with
  | [x], h =>
    obtain ⟨v, rfl, q1⟩ := rep1 q
    have h : (match lstOf S x with | some l => (match nts l with | some bs => PR.pre (bs ≠ []) (.int (mnL bs)) | none => .no) | none => .no).wp _ := h
    cases e : lstOf S x with
    | none => rw [e] at h; exact h.elim
    | some l =>
      simp only [e] at h
      cases e2 : nts l with
      | none => rw [e2] at h; exact h.elim
      | some bs =>
        simp only [e2] at h
        obtain ⟨a, xs, rfl, ha, k, _⟩ := list_of ok q1 e
        rw [nts_eq e2] at k
        have := k.nts
        subst this
        exact cr_min hc pins s σ H _ us Q I r ⟨a, bs, rfl, .inl (.inl ha), List.length_pos_iff.mpr h.1, fun m h1 h2 => by rw [mnL_uniq h1 h2]; exact okK.flat ok h.2 (.int _)⟩
  | [x, y], h =>
    obtain ⟨v, u, rfl, q1, q2⟩ := rep2 q
    cases q1 with
    | int i =>
      cases q2 with
      | int j => exact call_min2 hc pins s σ H _ us Q I r ⟨i, j, rfl, okK.flat ok h (.int _)⟩
      | _ => exact h.elim
    | @str a ka =>
      cases q2 with
      | @str b kb =>
        obtain ⟨u1, u2, rfl, ⟨t, rfl⟩, ⟨t', rfl⟩⟩ := vals2 r
        refine min_strs (I.ok.hd hc) fun h' tk k => ⟨.str (sOf (if ltL b a then b else a)), H, I.kept k, ?_, okK.flat ok h ?_⟩
        · cases ltL b a with
          | true => exact ⟨t', rfl⟩
          | false => exact ⟨t, rfl⟩
        · cases ltL b a with
          | true => exact .str kb
          | false => exact .str ka
      | _ => exact h.elim
    | _ => exact h.elim
  | [], h => exact h.elim
  | _ :: _ :: _ :: _, h => exact h.elim

/-! ### raise X('..') -/
def sRs (id : Nat) : DS := fun env S D => D.er ⟨id, none⟩ env S
theorem js_raise {x m : Str} {j : Nat} {C : Addr} {p p2 p3 pos : Pos} {bmB : List Value} {newId initId B : String} (id : Nat) (hc : X.calm = true) (Fb : ExcBaseFacts B newId initId bmB) (q : PySem.W.excIn X.K C bmB newId = true) (gC : X.mg x = some (.ref C)) (kC : PySem.W.keepIn X.K (.ref C) = true) (r : Raises X (.ref C)) (hcl : T.cl id = .ref C) (hg : Gl X x := by rfl) (hd : (x == ("__debug__" : Str)) = false := by decide) :
    JS T X (.Raise (some (.Call (.Name x p) [.Constant (.str m) j p2] [] p3)) none pos) (sRs id) := by
  refine ⟨fun env S A B le w => le.er _ _ _ w, fun W tk po => (L2N.ps_raise hc tk (L2N.pmk_own Fb q gC kC r hg hd)).weak ?_⟩
  rintro D σ H ⟨env, S, F, er, ok, w⟩
  exact w (.ref C) none σ H F er ok Ext.refl ⟨hcl.symm, rfl⟩
end
end DL

namespace DL
open PySem PySem.Spec PyProof.Rows L2

/-! ### zip of any two: lists, tuples, texts -/
inductive SK where
  | l (a : Addr) | t (a : Addr) | s (x : Str) (u : Tok)
def SK.val : SK → Value
  | .l a => .ref a
  | .t a => .ref a
  | .s x u => .str x u
def SK.low (N : Nat) : SK → Prop
  | .l a => a < N
  | .t a => a < N
  | .s _ _ => True
def SK.itr (k : SK) (it : Addr) (i : Nat) (h : Heap) : Prop := match k with
  | .l a => h.IsListIter it a i
  | .t a => h.IsTupleIter it a i
  | .s x u => h.IsStrIter it (strIterType x) x u i
def SK.has (k : SK) (K : PySem.W.Frag) (H : Hp) (xs : List V) : Prop := match k with
  | .l a => SqL K H a xs
  | .t a => SqT K H a xs
  | .s x _ => xs = x.cps.toList.map fun c => .str ⟨#[c]⟩
def SK.fp (k : SK) (it : Addr) : List Addr := match k with
  | .l a => [it, a]
  | .t a => [it, a]
  | .s _ _ => [it]
theorem SK.itr_at {k : SK} {it : Addr} {i : Nat} {h h' : Heap} (st : k.itr it i h) (hk : ∀ o, h.get? it = some o → h'.get? it = some o) : k.itr it i h' := by
  cases k with
  | l a => exact Heap.IsListIter.at st hk
  | t a => exact Heap.IsTupleIter.at st hk
  | s x u => obtain ⟨o, e, r⟩ := st; exact ⟨o, hk o e, r⟩
theorem SK.itr_obj {k : SK} {it : Addr} {i : Nat} {h : Heap} (st : k.itr it i h) : ∃ o, h.get? it = some o ∧ ∀ v, o.data ≠ .cell v := by
  cases k with
  | l a => obtain ⟨o, e, _, d⟩ := st; exact ⟨o, e, fun v q => by rw [d] at q; cases q⟩
  | t a => obtain ⟨o, e, _, d⟩ := st; exact ⟨o, e, fun v q => by rw [d] at q; cases q⟩
  | s x u => obtain ⟨o, e, _, d⟩ := st; exact ⟨o, e, fun v q => by rw [d] at q; cases q⟩
section
variable {X : Cx} {pins : List (Addr × Obj)} {σ : L2.St} {H : Hp} {s : Shared}
theorem vals_getR : ∀ {vs : List V} {us : List Value} {i : Nat} {u : Value}, Vals vs us → us[i]? = some u → ∃ v, vs[i]? = some v ∧ RelV v u
  | _, _, _, _, .nil, e => by simp at e
  | _, _, 0, _, .cons a b, e => by simp at e; subst e; exact ⟨_, rfl, a⟩
  | _, _, i + 1, _, .cons a b, e => by
    obtain ⟨v, h1, h2⟩ := vals_getR (i := i) b (by simpa using e)
    exact ⟨v, by simpa using h1, h2⟩
theorem SK.inj {k : SK} {xs ys : List V} (I : Inv X pins σ H s) (h : k.has X.K H xs) (h' : k.has X.K H ys) : xs = ys := by
  cases k with
  | l a => exact I.list_inj h h'
  | t a => exact I.tuple_inj h h'
  | s x u => exact Eq.trans h h'.symm
/-- its iterator draws its items -/
theorem SK.draw {k : SK} {it : Addr} {N : Nat} {xs : List V} (I : Inv X pins σ H s) (hc : X.calm = true) (h : k.has X.K H xs) (hl : k.low N) (hit : N ≤ it) :
    ∃ (P : Nat → Value → Prop) (St : Nat → Heap → Prop), Draws X.prog X.w X.A.in1 it (k.fp it) xs.length P St ∧ (∀ i, k.itr it i s.heap → St i s.heap) ∧ (∀ i h', St i h' → k.itr it i h') ∧ ∀ i v, P i v → ∃ x, xs[i]? = some x ∧ RelV x v := by
  cases k with
  | l a =>
    obtain ⟨its, rv, p, _⟩ := I.list h
    have D := Draws.list (prog := X.prog) (w := X.w) (A := X.A.in1) (I.ok.hd hc) it a (Nat.ne_of_lt (Nat.lt_of_lt_of_le hl hit)) its.toArray
    rw [List.size_toArray, ← rv.length] at D
    exact ⟨_, _, D, fun i q => ⟨q, p.isList⟩, fun i h' q => q.1, fun i v e => by
      obtain ⟨x, h1, h2⟩ := vals_getR rv (by simpa using e)
      exact ⟨x, h1, h2⟩⟩
  | t a =>
    obtain ⟨its, rv, p, _⟩ := I.tuple h
    have D := Draws.tuple (prog := X.prog) (w := X.w) (A := X.A.in1) (I.ok.hd hc) it a (Nat.ne_of_lt (Nat.lt_of_lt_of_le hl hit)) its.toArray
    rw [List.size_toArray, ← rv.length] at D
    exact ⟨_, _, D, fun i q => ⟨q, p⟩, fun i h' q => q.1, fun i v e => by
      obtain ⟨x, h1, h2⟩ := vals_getR rv (by simpa using e)
      exact ⟨x, h1, h2⟩⟩
  | s x u =>
    have h : xs = x.cps.toList.map fun c => .str ⟨#[c]⟩ := h
    subst h
    have D := Draws.text (prog := X.prog) (w := X.w) (A := X.A.in1) (I.ok.hd hc) it x u
    rw [List.length_map, Array.length_toList]
    exact ⟨_, _, D, fun i q => q, fun i h' q => q, fun i v e => by
      obtain ⟨c, t, e1, e2⟩ := e
      exact ⟨.str ⟨#[c]⟩, by simp [e1], t, e2⟩⟩
end
def Izz (K : PySem.W.Frag) (k1 k2 : SK) : It :=
  ⟨fun i H => ∃ xs ys x y, k1.has K H xs ∧ k2.has K H ys ∧ xs[i]? = some x ∧ ys[i]? = some y,
   fun i H v H' => ∃ T x y, v = .ref T ∧ H T = none ∧ H' = upd H T (.tup [x, y]) ∧ (∀ xs, k1.has K H xs → xs[i]? = some x) ∧ ∀ ys, k2.has K H ys → ys[i]? = some y,
   fun i H => ∃ xs ys, k1.has K H xs ∧ k2.has K H ys ∧ i ≤ xs.length ∧ i ≤ ys.length ∧ (i = xs.length ∨ i = ys.length)⟩
theorem fp_low {k : SK} {N : Nat} (h : k.low N) (it : Addr) : ∃ r, k.fp it = it :: r ∧ ∀ b ∈ r, b < N := by
  cases k with
  | l a => exact ⟨[a], rfl, fun b hb => by rw [List.mem_singleton.mp hb]; exact h⟩
  | t a => exact ⟨[a], rfl, fun b hb => by rw [List.mem_singleton.mp hb]; exact h⟩
  | s x u => exact ⟨[], rfl, fun b hb => by cases hb⟩
theorem zz_sep {N : Nat} {k1 k2 : SK} (h1 : k1.low N) (h2 : k2.low N) : ZipSep2 (N + 4) (N + 2) (N + 3) N (N + 1) (k1.fp N) (k2.fp (N + 1)) := by
  obtain ⟨r1, e1, l1⟩ := fp_low h1 N
  obtain ⟨r2, e2, l2⟩ := fp_low h2 (N + 1)
  rw [e1, e2]
  exact zip_sep2 l1 l2
theorem turn_zz {P : Program} {w : World} {K : PySem.W.Frag} {elts : List Expr} {kk : Nat} {tpos : Pos} (N : Nat) (k1 k2 : SK) (l1 : k1.low N) (l2 : k2.low N) :
    Turn P w K (.Tuple elts kk tpos) (Izz K k1 k2) [N + 4, N + 2, N + 3, N, N + 1] (N + 4)
      (fun i h => IsZip h (N + 4) (N + 2) (N + 3) .none ∧ IsTupOf2 h (N + 2) (.ref N) (.ref (N + 1)) ∧ (∃ x y, IsTupOf2 h (N + 3) x y) ∧ k1.itr N i h ∧ k2.itr (N + 1) i h) where
  mem := by simp
  obj := fun i h st c hc => by
    obtain ⟨hz, hTI, ⟨x, y, hTO⟩, h1, h2⟩ := st
    have e' : c = N + 4 ∨ c = N + 2 ∨ c = N + 3 ∨ c = N ∨ c = N + 1 := by simpa using hc
    rcases e' with q | q | q | q | q
    · rw [q]; exact ⟨_, hz, fun v q => nomatch q⟩
    · rw [q]; exact ⟨_, hTI, fun v q => nomatch q⟩
    · rw [q]; exact ⟨_, hTO, fun v q => nomatch q⟩
    · rw [q]; exact SK.itr_obj h1
    · rw [q]; exact SK.itr_obj h2
  keep := fun i h h' st k => by
    obtain ⟨hz, hTI, ⟨x, y, hTO⟩, h1, h2⟩ := st
    exact ⟨k _ (by simp) _ hz, k _ (by simp) _ hTI, ⟨x, y, k _ (by simp) _ hTO⟩, SK.itr_at h1 fun o q => k _ (by simp) o q, SK.itr_at h2 fun o q => k _ (by simp) o q⟩
  item := by
    intro X hP hw hK hc i pins s σ H E I hf st hg
    subst hP hw hK
    obtain ⟨hz, hTI, ⟨x0, y0, hTO⟩, h1, h2⟩ := st
    obtain ⟨xs, ys, x, y, hqx, hqy, hx, hy⟩ := hg
    obtain ⟨P1, S1, D1, a1, b1, c1⟩ := SK.draw (it := N) I hc hqx l1 (Nat.le_refl _)
    obtain ⟨P2, S2, D2, a2, b2, c2⟩ := SK.draw (it := N + 1) I hc hqy l2 (Nat.le_succ _)
    have S := zz_sep l1 l2
    have hzl : (N + 4 : Nat) < s.heap.objs.size := Heap.lt_size hz
    have hl1 : i < xs.length := (List.getElem?_eq_some_iff.mp hx).1
    have hl2 : i < ys.length := (List.getElem?_eq_some_iff.mp hy).1
    refine wpAny_pyNext_zipD2_item S D1 D2 hz hTI hTO (a1 i h1) (a2 i h2) hl1 hl2 fun v1 v2 h' tk p1 p2 z' TO' s1' s2' hT hsz hk => ?_
    obtain ⟨x', ex, rx⟩ := c1 i v1 p1
    obtain ⟨y', ey, ry⟩ := c2 i v2 p2
    have ex : x' = x := Option.some.inj (ex.symm.trans hx)
    have ey : y' = y := Option.some.inj (ey.symm.trans hy)
    subst ex ey
    refine ⟨_, rfl, wpAny_letOwnedTupleGo_zip (s := { s with heap := h', toks := tk }) z' fun h'' z'' sb => ?_⟩
    have hT2 : h''.get? s.heap.objs.size = some { cls := .type "tuple", data := .seq #[v1, v2] } := (sb.2 _ (Nat.ne_of_gt hzl)).trans hT
    have new : ObjOk X.prog X.w (upd H s.heap.objs.size (.tup [x', y'])) h'' s.heap.objs.size (.tup [x', y']) :=
      ⟨by show 2 ≤ sizeLine; decide, [v1, v2], .cons rx (.cons ry .nil), ⟨_, hT2, rfl, _, rfl⟩⟩
    have I1 : Inv X pins σ (upd H s.heap.objs.size (.tup [x', y'])) { s with heap := h'', toks := tk } :=
      I.turnedNew (t' := tk) (ch := [N + 4, N + 2, N + 3, N, N + 1]) (fun c o hb q => (sb.2 c (fun q' => hb (by simp [q']))).trans (hk c o (fun q' => hb (by simp [q'])) (fun q' => hb (by simp [q'])) (fun q' => hb (by simp [q'])) (fun q' => hb (by simp [q'])) q)) hf (Nat.le_refl _) new
    refine ⟨.ref s.heap.objs.size, _, I1, rfl, ⟨_, x', y', rfl, I.hok.fresh (Nat.le_refl _), rfl, fun l hl => by rw [SK.inj I hl hqx]; exact hx, fun l hl => by rw [SK.inj I hl hqy]; exact hy⟩, ⟨z'', ?_, ⟨v1, v2, ?_⟩, ?_, ?_⟩, fun c hcm => ?_⟩
    · exact (sb.2 _ S.TIz).trans (hk _ _ S.TIz S.TITO S.TIi1 S.TIi2 hTI)
    · exact (sb.2 _ S.TOz).trans TO'
    · exact SK.itr_at (b1 _ _ s1') fun o q => (sb.2 _ (Ne.symm S.zi1)).trans q
    · exact SK.itr_at (b2 _ _ s2') fun o q => (sb.2 _ (Ne.symm S.zi2)).trans q
    · have hlt : c < s.heap.objs.size := by
        have e' : c = N + 4 ∨ c = N + 2 ∨ c = N + 3 ∨ c = N ∨ c = N + 1 := by simpa using hcm
        have : (c : Nat) ≤ N + 4 := by
          rcases e' with q | q | q | q | q
          · rw [q]; exact Nat.le_refl _
          · rw [q]; exact Nat.add_le_add_left (by decide) _
          · rw [q]; exact Nat.add_le_add_left (by decide) _
          · rw [q]; exact Nat.le_add_right _ _
          · rw [q]; exact Nat.add_le_add_left (by decide) _
        exact Nat.lt_of_le_of_lt this hzl
      rw [upd_ne (Nat.ne_of_lt hlt)]
      exact (hf c hcm).1
  done := by
    intro X hP hw hK hc i pins s σ H E I hf st hg
    subst hP hw hK
    obtain ⟨hz, hTI, ⟨x0, y0, hTO⟩, h1, h2⟩ := st
    obtain ⟨xs, ys, hqx, hqy, hi1, hi2, hend⟩ := hg
    obtain ⟨P1, S1, D1, a1, b1, c1⟩ := SK.draw (it := N) I hc hqx l1 (Nat.le_refl _)
    obtain ⟨P2, S2, D2, a2, b2, c2⟩ := SK.draw (it := N + 1) I hc hqy l2 (Nat.le_succ _)
    exact wpAny_pyNext_zipD2_end (zz_sep l1 l2) D1 D2 hz hTI hTO (a1 i h1) (a2 i h2) hi1 hi2 hend fun h' tk hk => ⟨rfl, I.turnedL (t' := tk) (ch := [N + 4, N + 2, N + 3, N, N + 1]) (fun c o hb q =>
      hk c o (fun q' => hb (by simp [q'])) (fun q' => hb (by simp [q'])) (fun q' => hb (by simp [q'])) (fun q' => hb (by simp [q'])) q) hf⟩
  self := fun A i s Q E st h => wpAny_pyIter_zip st.1 h
/-- the source of a value -/
def SkOf (K : PySem.W.Frag) (H : Hp) (v : V) (mk : Value → SK) (xs : List V) : Prop := (∀ u, RelV v u → (mk u).val = u) ∧ ∀ u, RelV v u → (mk u).has K H xs
theorem begins_of {X : Cx} {pins : List (Addr × Obj)} {σ : L2.St} {H : Hp} {s : Shared} (I : Inv X pins σ H s) {k : SK} {xs : List V} (h : k.has X.K H xs) :
    k.low s.heap.objs.size ∧ ∃ o Hb, Begins k.val o Hb ∧ Hb s.heap ∧ ∀ h' it, h'.get? it = some o → k.itr it 0 h' := by
  cases k with
  | l a =>
    obtain ⟨its, rv, p, _⟩ := I.list h
    exact ⟨p.lt, _, _, begins_list a its.toArray, p.isList, fun h' it e => ⟨_, e, rfl, rfl⟩⟩
  | t a =>
    obtain ⟨its, rv, p, _⟩ := I.tuple h
    obtain ⟨o, e, _⟩ := id p
    exact ⟨Heap.lt_size e, _, _, begins_tuple a its.toArray, p, fun h' it e => ⟨_, e, rfl, rfl⟩⟩
  | s x u => exact ⟨trivial, _, _, begins_text x u, trivial, fun h' it e => ⟨_, e, rfl, rfl⟩⟩
def kind (K : PySem.W.Frag) (H : Hp) (v : V) (k : SK) (xs : List V) : Prop := k.has K H xs ∧ match k with
  | .l a => v = .ref a
  | .t a => v = .ref a
  | .s x _ => v = .str x
theorem kind_val {K : PySem.W.Frag} {H : Hp} {v : V} {k : SK} {xs : List V} {u : Value} (h : kind K H v k xs) (r : RelV v u) : ∃ k', kind K H v k' xs ∧ k'.val = u ∧ ∀ K' H' ys, k'.has K' H' ys ↔ k.has K' H' ys := by
  cases k with
  | l a => have e : v = .ref a := h.2; subst e; cases r; exact ⟨.l a, h, rfl, fun _ _ _ => Iff.rfl⟩
  | t a => have e : v = .ref a := h.2; subst e; cases r; exact ⟨.t a, h, rfl, fun _ _ _ => Iff.rfl⟩
  | s x t => have e : v = .str x := h.2; subst e; obtain ⟨t', rfl⟩ := r; exact ⟨.s x t', ⟨h.1, rfl⟩, rfl, fun _ _ _ => Iff.rfl⟩
theorem pi_zz {X : Cx} {e e2 : Expr} {ta : TA} {p pos tpos : Pos} {elts : List Expr} {kk : Nat} (hg : Gl X "zip") (hm : X.mg "zip" = none) (ha : PA X [e, e2] ta)
    (hs : starEach [e, e2] X.env = (false, eval e X.env) :: starEach [e2] X.env := by rfl) (hpl : (backTo pos (starEach [e2] X.env)).any (·.1) = false := by rfl) :
    PI X (.Tuple elts kk tpos) (.Call (.Name "zip" p) [e, e2] [] pos) (fun σ H R => ta σ H fun vs H1 => ∃ v1 v2 k1 k2 xs ys, vs = [v1, v2] ∧ kind X.K H1 v1 k1 xs ∧ kind X.K H1 v2 k2 ys ∧
      ∀ k1' k2', (∀ K' H' zs, k1'.has K' H' zs ↔ k1.has K' H' zs) → (∀ K' H' zs, k2'.has K' H' zs ↔ k2.has K' H' zs) → R (Izz X.K k1' k2') H1) := by
  refine ⟨fun pins s σ H R I h => ?_⟩
  refine Call_ (ld_blt I hg hm PyProof.Rows.boot_zip (PyProof.Rows.callWith_type1 (thn (ha.run pos pins s σ H _ I h) fun us s1 ⟨vs, H1, I1, r1, q1⟩ => ?_) hs hpl))
  obtain ⟨v1, v2, k1, k2, xs, ys, ex, hk1, hk2, q⟩ := q1
  subst ex
  obtain ⟨u1, u2, rfl, ru1, ru2⟩ := vals2 r1
  obtain ⟨k1', hk1, rfl, e1⟩ := kind_val hk1 ru1
  obtain ⟨k2', hk2, rfl, e2⟩ := kind_val hk2 ru2
  obtain ⟨low1, o1, Hb1, B1, hb1, i1⟩ := begins_of I1 hk1.1
  obtain ⟨low2, o2, Hb2, B2, hb2, i2⟩ := begins_of I1 hk2.1
  refine zip_begins2 B1 B2 hb1 hb2 fun h' hz hTI hTO h1 h2 hsz hk => wpAny_pyIter_zip hz ?_
  have I2 : Inv X pins σ H1 { s1 with heap := h' } := I1.kept (t' := s1.toks) hk
  refine ⟨s1.heap.objs.size + 4, [s1.heap.objs.size + 4, s1.heap.objs.size + 2, s1.heap.objs.size + 3, s1.heap.objs.size, s1.heap.objs.size + 1], _, _, H1, rfl, I2, turn_zz s1.heap.objs.size k1' k2' low1 low2, ⟨hz, hTI, ⟨_, _, hTO⟩, i1 _ _ h1, i2 _ _ h2⟩, fun c hcm => ?_, q k1' k2' e1 e2⟩
  have e' : c = s1.heap.objs.size + 4 ∨ c = s1.heap.objs.size + 2 ∨ c = s1.heap.objs.size + 3 ∨ c = s1.heap.objs.size ∨ c = s1.heap.objs.size + 1 := by simpa using hcm
  have hle : s1.heap.objs.size ≤ c := by
    rcases e' with z | z | z | z | z
    · rw [z]; exact Nat.le_add_right _ _
    · rw [z]; exact Nat.le_add_right _ _
    · rw [z]; exact Nat.le_add_right _ _
    · rw [z]; exact Nat.le_refl _
    · rw [z]; exact Nat.le_add_right _ _
  exact I1.fpOk hle (I1.hok.fresh hle)

section
variable {T : Tp} {X : Cx} {F F' F'' : Fz} {S S' S'' : Sto} {H H' H'' : Hp} {σ : L2.St} {W : WX}
theorem RepL.chars {s : List Nat} (k : sOk s) : RepL F H (s.map fun c => .str [c]) ((sOf s).cps.toList.map fun c => .str ⟨#[c]⟩) := by
  have e1 : s.map (fun c => D.str [c]) = (s.map fun c => [c]).map D.str := by rw [List.map_map]; rfl
  have e2 : (sOf s).cps.toList.map (fun c => V.str ⟨#[c]⟩) = ((s.map fun c => [c]).map sOf).map V.str := by simp [sOf]
  rw [e1, e2]
  exact RepL.ofSts (sOk_one k)
/-- a value's source -/
theorem kind_of {d : D} {v : V} {l : List D} (K : PySem.W.Frag) (r : Rep F H d v) (e : itemsOf d = some l) :
    ∃ k xs, kind K H v k xs ∧ RepL F H l xs ∧ l.length ≤ 16777216 ∧ ∀ H', Fr F H H' → k.has K H' xs ∧ RepL F H' l xs := by
  cases r with
  | tup f h q z => cases e; exact ⟨.t _, _, ⟨.inl (.inl h), rfl⟩, q, z, fun H' x => ⟨.inl (.inl ((x _ f).trans h)), RepL.fr x _ _ q⟩⟩
  | lst f h q z => cases e; exact ⟨.l _, _, ⟨.inl (.inl h), rfl⟩, q, z, fun H' x => ⟨.inl (.inl ((x _ f).trans h)), RepL.fr x _ _ q⟩⟩
  | str k => cases e; exact ⟨.s _ 0, _, ⟨rfl, rfl⟩, RepL.chars k, by rw [List.length_map]; exact k.2, fun H' x => ⟨rfl, RepL.chars k⟩⟩
  | _ => cases e
def zipD (l m : List D) : List D := List.zipWith (fun a b => .tup [a, b]) l m
theorem walkD_zz {K : PySem.W.Frag} {k1 k2 : SK} {l m : List D} {xs ys : List V} (h1 : ∀ H', Fr F H H' → k1.has K H' xs ∧ RepL F H' l xs) (h2 : ∀ H', Fr F H H' → k2.has K H' ys ∧ RepL F H' m ys) (hl : l.length ≤ 16777216) : WalkD F H (Izz K k1 k2) (zipD l m) := by
  have len : (zipD l m).length = min l.length m.length := by unfold zipD; rw [List.length_zipWith]
  have L1 : l.length = xs.length := (h1 H fun _ _ => rfl).2.length
  have L2 : m.length = ys.length := (h2 H fun _ _ => rfl).2.length
  refine ⟨by rw [len]; omega, fun i H' hi x => ?_, fun H' x => ⟨xs, ys, (h1 H' x).1, (h2 H' x).1, by omega, by omega, by omega⟩, fun i H' v H'' hi x y => ?_⟩
  · have a1 : i < xs.length := by omega
    have a2 : i < ys.length := by omega
    exact ⟨xs, ys, xs[i], ys[i], (h1 H' x).1, (h2 H' x).1, by simp [a1], by simp [a2]⟩
  · obtain ⟨p, x1, y1, rfl, hp, e, q1, q2⟩ := y
    obtain ⟨d1, e1, r1⟩ := (h1 H' x).2.getV (q1 xs (h1 H' x).1)
    obtain ⟨d2, e2, r2⟩ := (h2 H' x).2.getV (q2 ys (h2 H' x).1)
    refine ⟨.tup [d1, d2], ?_, .new rfl hp e (.cons r1 (.cons r2 .nil)) (by show (2 : Nat) ≤ 16777216; decide)⟩
    unfold zipD
    rw [List.getElem?_zipWith, e1, e2]
def lZip (t : AT) : LT := fun env S Q R => t env S (fun ds S1 => match ds with
  | [x, y] => (match itemsOf x, itemsOf y with | some l, some m => Q (zipD l m) S1 | _, _ => False)
  | _ => False) R
theorem mon_lZip {t : AT} (h : MonA t) : MonA (lZip t) := fun env S Q Q' R R' hq hR w => h _ _ _ _ _ _ (fun ds S1 w1 => by
  match ds, w1 with
  | [x, y], w1 =>
    revert w1
    show (match itemsOf x, itemsOf y with | some l, some m => Q (zipD l m) S1 | _, _ => False) → (match itemsOf x, itemsOf y with | some l, some m => Q' (zipD l m) S1 | _, _ => False)
    cases itemsOf x with
    | none => exact fun w => w
    | some l =>
      cases itemsOf y with
      | none => exact fun w => w
      | some m => exact fun w => hq _ _ w) hR w
theorem ji_zip {elts : List Expr} {kk : Nat} {a b : Expr} {t : AT} {p pos tpos : Pos} (hm : X.mg "zip" = none) (ha : JA T X [a, b] t) (hg : Gl X "zip" := by rfl) (hs : starEach [a, b] X.env = (false, eval a X.env) :: starEach [b] X.env := by rfl) (hpl : (backTo pos (starEach [b] X.env)).any (·.1) = false := by rfl) :
    JI T X (.Tuple elts kk tpos) (.Call (.Name "zip" p) [a, b] [] pos) (lZip t) := by
  refine ⟨mon_lZip ha.mon, fun W tk => ⟨fun pins s σ H R I hh => ?_⟩⟩
  obtain ⟨env, S, F, er, ok, w⟩ := hh
  refine (pi_zz hg hm (ha.run W tk) hs hpl).run pins s σ H R I ⟨env, S, F, er, ok, ha.mon _ _ _ _ _ _ (fun ds S1 w1 vs H1 F1 ok1 ex1 r1 => ?_) (fun _ _ z => z) w⟩
  match ds, w1, r1 with
  | [x, y], w1, r1 =>
    obtain ⟨v1, v2, rfl, q1, q2⟩ := rep2 r1
    have w1 : (match itemsOf x, itemsOf y with | some l, some m => ∀ J H' F', Ok T F' S1 H' → Ext F S H F' S1 H' → WalkD F' H' J (zipD l m) → R J H' | _, _ => False) := w1
    cases e1 : itemsOf x with
    | none => rw [e1] at w1; exact w1.elim
    | some l =>
      cases e2 : itemsOf y with
      | none => rw [e1, e2] at w1; exact w1.elim
      | some m =>
        rw [e1, e2] at w1
        obtain ⟨k1, xs, c1, _, z1, f1⟩ := kind_of X.K q1 e1
        obtain ⟨k2, ys, c2, _, z2, f2⟩ := kind_of X.K q2 e2
        exact ⟨v1, v2, k1, k2, xs, ys, rfl, c1, c2, fun k1' k2' h1 h2 => w1 _ H1 F1 ok1 ex1 (walkD_zz (fun H' x => ⟨(h1 _ _ _).mpr (f1 H' x).1, (f1 H' x).2⟩) (fun H' x => ⟨(h2 _ _ _).mpr (f2 H' x).1, (f2 H' x).2⟩) z1)⟩
end
end DL

namespace DL
open PySem PySem.Spec PyProof.Rows L2
section
variable {T : Tp} {X : Cx} {F F' F'' : Fz} {S S' S'' : Sto} {H H' H'' : Hp} {σ : L2.St} {W : WX}

/-! ### methods of texts -/
abbrev OM := List Nat → Sto → List D → PR
def rDM (T : Tp) (op : OM) : V → List V → Hp → VK → Prop := fun x vs H Q => ∃ F S s ds, Ok T F S H ∧ Rep F H (.str s) x ∧ RepL F H ds vs ∧ (op s S ds).wp fun z => okK T F S H Q z S
def dMs (op : OM) (uo : ET) (t : AT) : ET := fun env S Q R => uo env S (fun x S1 => match x with
  | .str s => t env S1 (fun ds S2 => (op s S2 ds).wp fun z => Q z S2) R
  | _ => False) R
theorem mon_Ms {op : OM} {uo : ET} {t : AT} (ho : Mon uo) (ht : MonA t) : Mon (dMs op uo t) := fun env S Q Q' R R' hq hR w => ho _ _ _ _ _ _ (fun x S1 w1 => by
  cases x with
  | str s => exact ht _ _ _ _ _ _ (fun ds S2 w2 => PR.mono (fun d => hq d S2) w2) hR w1
  | _ => exact w1) hR w
variable {o e : Expr} {es : List Expr} {uo : ET} {t : AT} {name : Str} {apos cpos : Pos} {id : String} {op : OM}
theorem je_ms (slot : Slot "str" name id) (hty : typeOf (.builtin id) = pure (.type "method_descriptor")) (hm : MtR X id (rDM T op)) (ho : JE T X o uo) (ha : JA T X (e :: es) t)
    (hbase : attributeBase o name X.env (eval o X.env) = eval o X.env := by rfl)
    (hfew : ((backTo cpos (starEach (e :: es) X.env)).all (fun x => !x.1) && (backToKw cpos (keywordEach [] X.env)).all (fun x => x.1.isSome)
      && decide ((e :: es).length + ([] : List Keyword).length + (if ([] : List Keyword).isEmpty then 0 else 1) < 30)) = true := by rfl)
    (hline : (apos.endLine == cpos.line) = true := by rfl) (hs : starEach (e :: es) X.env = (false, eval e X.env) :: starEach es X.env := by rfl) (hplain : (backTo cpos (starEach es X.env)).any (·.1) = false := by rfl) :
    JE T X (.Call (.Attribute o name apos) (e :: es) [] cpos) (dMs op uo t) := by
  refine ⟨mon_Ms ho.mon ha.mon, fun W tk => (pe_bm F.plainAttrs_str slot hty hm (ho.run W tk) (ha.run W tk) hbase hfew hline hs hplain).weak ?_⟩
  rintro σ H Q ⟨env, S, F, er, ok, w⟩
  refine ⟨env, S, F, er, ok, ho.mon _ _ _ _ _ _ (fun d S1 w1 v1 H1 F1 ok1 ex1 r1 => ?_) (fun _ _ z => z) w⟩
  cases d with
  | str s =>
    cases r1 with
    | str k =>
      refine ⟨rfl, env, S1, F1, er.ext ok ex1, ok1, ha.mon _ _ _ _ _ _ (fun ds S2 w2 vs H2 F2 ok2 ex2 r2 => ?_) (fun e S' z => erK.back ex1 e S' z) w1⟩
      exact ⟨F2, S2, s, ds, ok2, .str k, r2, PR.mono (fun z q => okK.back (ex1.trans ex2) z S2 q) w2⟩
  | _ => exact w1.elim
def joinD (s : List Nat) : List (List Nat) → List Nat
  | [] => []
  | [p] => p
  | p :: q :: r => p ++ (s ++ joinD s (q :: r))
theorem joinD_eq (s : List Nat) : ∀ ys, TL.joinL s ys = joinD s ys
  | [] => rfl
  | [p] => rfl
  | p :: q :: r => by show p ++ (s ++ TL.joinL s (q :: r)) = p ++ (s ++ joinD s (q :: r)); rw [joinD_eq s (q :: r)]
theorem joinD_mem {s : List Nat} {c : Nat} : ∀ {ys : List (List Nat)}, c ∈ joinD s ys → c ∈ s ∨ ∃ y ∈ ys, c ∈ y
  | [], h => by cases h
  | [p], h => .inr ⟨p, List.mem_cons_self, h⟩
  | p :: q :: r, h => by
    have h : c ∈ p ++ (s ++ joinD s (q :: r)) := h
    rcases List.mem_append.mp h with h | h
    · exact .inr ⟨p, List.mem_cons_self, h⟩
    · rcases List.mem_append.mp h with h | h
      · exact .inl h
      · rcases joinD_mem h with h | ⟨y, hy, h⟩
        · exact .inl h
        · exact .inr ⟨y, List.mem_cons_of_mem _ hy, h⟩
theorem joinD_len {s : List Nat} : ∀ (ys : List (List Nat)), (joinD s ys).length ≤ (ys.map (·.length)).sum + ys.length * s.length
  | [] => Nat.zero_le _
  | [p] => by show p.length ≤ _; simp only [List.map_cons, List.map_nil, List.sum_cons, List.sum_nil]; omega
  | p :: q :: r => by
    have h := joinD_len (s := s) (q :: r)
    show (p ++ (s ++ joinD s (q :: r))).length ≤ _
    rw [List.length_append, List.length_append, List.map_cons, List.sum_cons, List.length_cons, Nat.succ_mul]
    omega
def opJoin : OM := fun s S ds => match ds with
  | [x] => (match seqOf S x with | some l => (match sts l with | some ys => .pre ((ys.map (·.length)).sum + ys.length * s.length ≤ 16777216) (.str (joinD s ys)) | none => .no) | none => .no)
  | _ => .no
theorem om_join : MtR X "str.join" (rDM T opJoin) := by
  intro pins s σ H x xs v us Q I rx rs ⟨F, S, a, ds, ok, r1, r2, h⟩
  cases r1 with
  | str ka =>
  match ds, r2, h with
  | [d], r2, h =>
    obtain ⟨v, rfl, q1⟩ := rep1 r2
    have h : (match seqOf S d with | some l => (match sts l with | some ys => PR.pre ((ys.map fun z : List Nat => z.length).sum + ys.length * a.length ≤ 16777216) (.str (joinD a ys)) | none => .no) | none => .no).wp _ := h
    cases e : seqOf S d with
    | none => rw [e] at h; exact h.elim
    | some l =>
      simp only [e] at h
      cases e2 : sts l with
      | none => rw [e2] at h; exact h.elim
      | some ys =>
        simp only [e2] at h
        obtain ⟨p, xs, rfl, hs, k, hl⟩ := seq_of ok (K := X.K) q1 e
        rw [sts_eq e2] at k
        obtain ⟨k1, k2⟩ := k.sts
        subst k1
        have hlen : ((ys.map sOf).map Str.length) = ys.map List.length := by rw [List.map_map]; exact List.map_congr_left fun x _ => sOf_len x
        refine mt_join pins s σ H _ _ _ us Q I rx rs ⟨sOf a, p, ys.map sOf, rfl, rfl, hs, by rw [List.length_map, sOf_len]; exact Nat.le_trans (Nat.le_of_eq (by rw [hlen])) h.1, ?_⟩
        have e3 : Txt.join (sOf a) (ys.map sOf) = sOf (joinD a ys) := (SX.join_S a ys).trans (by rw [joinD_eq]; rfl)
        rw [e3]
        refine okK.flat ok h.2 (.str ⟨fun c hc => ?_, Nat.le_trans (joinD_len ys) h.1⟩)
        rcases joinD_mem hc with hc | ⟨y, hy, hc⟩
        · exact ka.1 c hc
        · exact (k2 y hy).1 c hc
/-- parts between the signs c -/
def splD (c : Nat) : List Nat → List Nat → List (List Nat)
  | acc, [] => [acc]
  | acc, d :: r => if d = c then acc :: splD c [] r else splD c (acc ++ [d]) r
theorem splD_eq (c : Nat) : ∀ (l acc : List Nat), TL.spl [c] 0 acc l = splD c acc l
  | [], _ => rfl
  | d :: r, acc => by
    show (if TL.pre [c] (d :: r) = true then acc :: TL.spl [c] 0 [] r else TL.spl [c] 0 (acc ++ [d]) r) = if d = c then acc :: splD c [] r else splD c (acc ++ [d]) r
    have e : (TL.pre [c] (d :: r) = true) ↔ d = c := by
      show ((d :: r).take 1 == [c]) = true ↔ _
      rw [beq_iff_eq]
      simp
    by_cases h : d = c
    · rw [if_pos (e.mpr h), if_pos h, splD_eq c r []]
    · rw [if_neg (fun z => h (e.mp z)), if_neg h, splD_eq c r (acc ++ [d])]
theorem splD_ok {c : Nat} : ∀ (l acc : List Nat), (∀ x ∈ splD c acc l, (∀ d ∈ x, d ∈ acc ∨ d ∈ l) ∧ x.length ≤ acc.length + l.length) ∧ (splD c acc l).length ≤ l.length + 1
  | [], acc => ⟨fun x hx => by
    have hx : x ∈ [acc] := hx
    rw [List.mem_singleton.mp hx]; exact ⟨fun d h => .inl h, Nat.le_refl _⟩, Nat.le_refl _⟩
  | d :: r, acc => by
    show (∀ x ∈ (if d = c then acc :: splD c [] r else splD c (acc ++ [d]) r), _) ∧ _ ≤ _
    by_cases h : d = c
    · obtain ⟨h1, h2⟩ := splD_ok (c := c) r []
      rw [show splD c acc (d :: r) = acc :: splD c [] r from if_pos h, if_pos h]
      refine ⟨fun x hx => ?_, by rw [List.length_cons, List.length_cons]; omega⟩
      rcases List.mem_cons.mp hx with rfl | hx
      · exact ⟨fun d h => .inl h, by omega⟩
      · refine ⟨fun d hd => ?_, by have := (h1 x hx).2; rw [List.length_cons]; simp only [List.length_nil] at this; omega⟩
        rcases (h1 x hx).1 d hd with q | q
        · cases q
        · exact .inr (List.mem_cons_of_mem _ q)
    · obtain ⟨h1, h2⟩ := splD_ok (c := c) r (acc ++ [d])
      rw [show splD c acc (d :: r) = splD c (acc ++ [d]) r from if_neg h, if_neg h]
      refine ⟨fun x hx => ?_, by rw [List.length_cons]; omega⟩
      refine ⟨fun y hy => ?_, by have := (h1 x hx).2; rw [List.length_append, List.length_singleton] at this; rw [List.length_cons]; omega⟩
      rcases (h1 x hx).1 y hy with q | q
      · rcases List.mem_append.mp q with q | q
        · exact .inl q
        · rw [List.mem_singleton.mp q]; exact .inr List.mem_cons_self
      · exact .inr (List.mem_cons_of_mem _ q)
def opSplit : OM := fun s _ ds => match ds with
  | [x] => (match x with
    | .str b => (match b with
      | [c] => .pre (c < 256 ∧ s.length + 2 ≤ 16777216) (.lst ((splD c [] s).map D.str))
      | _ => .no)
    | _ => .no)
  | _ => .no
theorem om_split : MtR X "str.split" (rDM T opSplit) := by
  intro pins s σ H x xs v us Q I rx rs ⟨F, S, a, ds, ok, r1, r2, h⟩
  cases r1 with
  | str ka =>
  match ds, r2, h with
  | [d], r2, h =>
    obtain ⟨v, rfl, q1⟩ := rep1 r2
    cases q1 with
    | @str b kb =>
      match b, kb, h with
      | [c], kb, h =>
        have e1 : Txt.split (sOf a) (sOf [c]) = (splD c [] a).map sOf := (SX.split_S (a := a) (b := [c]) (by simp) (by simpa using h.1.1)).trans (by rw [splD_eq]; rfl)
        obtain ⟨h1, h2⟩ := splD_ok (c := c) a []
        have h3 := h.1.2
        refine mt_split pins s σ H _ _ _ us Q I rx rs ⟨sOf a, sOf [c], rfl, rfl, rfl, by rw [sOf_len, sizeLine_eq]; exact h.1.2, ?_⟩
        rw [e1]
        refine okK.newL ok h.2 (RepL.ofSts fun b hb => ⟨fun y hy => ?_, ?_⟩) (by rw [List.length_map]; omega)
        · rcases (h1 b hb).1 y hy with q | q
          · cases q
          · exact ka.1 y q
        · have := (h1 b hb).2
          simp only [List.length_nil] at this
          omega
      | [], kb, h => exact h.elim
      | _ :: _ :: _, kb, h => exact h.elim
    | _ => exact h.elim

/-! ### the store written -/
theorem Ext.write {a : Addr} {m' : MO} {ob : HO} {xs : List V} (hS : S a ≠ none) (hH : H a = some (.lst xs)) : Ext F S H F (put S a m') (upd H a ob) := by
  have na : ∀ b, S b = none → b ≠ a := fun b z e => hS (by rw [← e]; exact z)
  exact ⟨fun b o h _ z => by rw [upd_ne (na b z)]; exact h, fun b o _ _ z => by rw [put_ne (na b z)]; exact z, fun _ _ _ _ _ f => f, fun _ h => h, rfl⟩
theorem Ok.write {a : Addr} {m' : MO} {xs ys : List V} (ok : Ok T F S H) (hS : S a ≠ none) (hH : H a = some (.lst xs)) (hm : MOk F (upd H a (.lst ys)) a m') : Ok T F (put S a m') (upd H a (.lst ys)) := by
  refine ⟨ok.cv, fun b h => ?_, fun b m h => ?_, tabs_upd_lst hH ok.tb⟩
  · obtain ⟨h1, o', h2, h3⟩ := ok.fz b h
    have na : b ≠ a := fun e => hS (by rw [← e]; exact h1)
    exact ⟨by rw [put_ne na]; exact h1, o', by rw [upd_ne na]; exact h2, h3⟩
  · by_cases e : b = a
    · subst e
      rw [put_same] at h
      cases h
      exact hm
    · rw [put_ne e] at h
      exact MOk.ext ok (Ext.write (ob := .lst ys) (m' := m') hS hH) (ok.st b m h) (upd_ne e)
theorem RepL.write {a : Addr} {m' : MO} {xs : List V} {ob : HO} {ds : List D} {vs : List V} (ok : Ok T F S H) (hS : S a ≠ none) (hH : H a = some (.lst xs)) (r : RepL F H ds vs) : RepL F (upd H a ob) ds vs :=
  RepL.ext ok (Ext.write (ob := ob) (m' := m') hS hH) ds vs r
/-- x.append(y) -/
def dApp (uo : ET) (t : AT) : ET := fun env S Q R => uo env S (fun x S1 => match x with
  | .obj a => (∃ l, S1 a = some (.lst l)) ∧ t env S1 (fun ds S2 => match ds with
    | [d] => (match S2 a with | some (.lst l) => l.length < 16777216 ∧ Q .non (put S2 a (.lst (l ++ [d]))) | _ => False)
    | _ => False) R
  | _ => False) R
theorem je_app (ho : JE T X o uo) (ha : JA T X [e] t)
    (hbase : attributeBase o "append" X.env (eval o X.env) = eval o X.env := by rfl)
    (hfew : ((backTo cpos (starEach [e] X.env)).all (fun x => !x.1) && (backToKw cpos (keywordEach [] X.env)).all (fun x => x.1.isSome)
      && decide (([e] : List Expr).length + ([] : List Keyword).length + (if ([] : List Keyword).isEmpty then 0 else 1) < 30)) = true := by rfl)
    (hline : (apos.endLine == cpos.line) = true := by rfl) (hs : starEach [e] X.env = (false, eval e X.env) :: starEach [] X.env := by rfl) (hplain : (backTo cpos (starEach [] X.env)).any (·.1) = false := by rfl) :
    JE T X (.Call (.Attribute o "append" apos) [e] [] cpos) (dApp uo t) := by
  refine ⟨fun env S Q Q' R R' hq hR w => ho.mon _ _ _ _ _ _ (fun x S1 w1 => ?_) hR w, fun W tk => (pe_bm F.plainAttrs_list F.slot_list_append F.type_list_append mt_append (ho.run W tk) (ha.run W tk) hbase hfew hline hs hplain).weak ?_⟩
  · cases x with
    | obj a =>
      refine ⟨w1.1, ha.mon _ _ _ _ _ _ (fun ds S2 w2 => ?_) hR w1.2⟩
      match ds, w2 with
      | [d], w2 =>
        revert w2
        show (match S2 a with | some (.lst l) => l.length < 16777216 ∧ Q .non (put S2 a (.lst (l ++ [d]))) | _ => False) → (match S2 a with | some (.lst l) => l.length < 16777216 ∧ Q' .non (put S2 a (.lst (l ++ [d]))) | _ => False)
        cases S2 a with
        | none => exact fun w => w
        | some m =>
          cases m with
          | drum => exact fun w => w
          | lst l => exact fun w => ⟨w.1, hq _ _ w.2⟩
    | _ => exact w1
  · rintro σ H Q ⟨env, S, F, er, ok, w⟩
    refine ⟨env, S, F, er, ok, ho.mon _ _ _ _ _ _ (fun d S1 w1 v1 H1 F1 ok1 ex1 r1 => ?_) (fun _ _ z => z) w⟩
    cases d with
    | obj a =>
      cases r1
      obtain ⟨⟨l0, hl0⟩, w1⟩ := w1
      obtain ⟨xs0, k0, _⟩ := ok1.st a _ hl0
      refine ⟨.inl ⟨rfl, xs0, .inl (.inl k0)⟩, env, S1, F1, er.ext ok ex1, ok1, ha.mon _ _ _ _ _ _ (fun ds S2 w2 vs H2 F2 ok2 ex2 r2 => ?_) (fun e S' z => erK.back ex1 e S' z) w1⟩
      match ds, w2, r2 with
      | [d], w2, r2 =>
        obtain ⟨v, rfl, q⟩ := rep1 r2
        have w2 : (match S2 a with | some (.lst l) => l.length < 16777216 ∧ okK T F S H Q .non (put S2 a (.lst (l ++ [d]))) | _ => False) := w2
        cases e2 : S2 a with
        | none => rw [e2] at w2; exact w2.elim
        | some m =>
          cases m with
          | drum => rw [e2] at w2; exact w2.elim
          | lst l =>
            rw [e2] at w2
            obtain ⟨xs, k1, k2, k3⟩ := ok2.st a _ e2
            have hS : S2 a ≠ none := by rw [e2]; exact fun z => by cases z
            refine ⟨a, xs, v, rfl, rfl, k1, by rw [← k2.length, sizeLine_eq]; exact w2.1, ?_⟩
            have ex3 : Ext F2 S2 H2 F2 (put S2 a (.lst (l ++ [d]))) (upd H2 a (.lst (xs ++ [v]))) := Ext.write hS k1
            exact w2.2 .non _ F2 (ok2.write hS k1 ⟨_, upd_same, RepL.ext ok2 ex3 _ _ (k2.append (.cons q .nil)), by rw [List.length_append]; exact w2.1⟩) ((ex1.trans ex2).trans ex3) .non
    | _ => exact w1.elim

/-! ### sorted -/
def sortD (l : List D) : List D := l.mergeSort (PySem.W.dataLe false toPy)
def alikeB (l : List D) : Bool := l.all fun a => l.all fun b => PySem.W.alike (toPy a) (toPy b)
def sortB (l : List D) : Bool := (l.all fun a => match a with | .tup (_ :: _) => true | _ => false) || l.all fun a => match a with | .tup _ => false | .non => false | _ => true
def opSorted : OL := fun S ds => match ds with
  | [x] => (match lstOf S x with | some l => .pre (alikeB l = true ∧ sortB l = true ∧ l.all (dok 60) = true) (.lst (sortD l)) | none => .no)
  | _ => .no
theorem alikeB_ok {l : List D} (h : alikeB l = true) : PySem.W.AllAlike (l.map toPy) := fun d hd d' hd' => by
  obtain ⟨a, ha, rfl⟩ := List.mem_map.mp hd
  obtain ⟨b, hb, rfl⟩ := List.mem_map.mp hd'
  unfold alikeB at h
  exact List.all_eq_true.mp (List.all_eq_true.mp h a ha) b hb
theorem sortB_ok {l : List D} (h : sortB l = true) : PySem.W.Sortable (l.map toPy) := by
  unfold sortB at h
  rw [Bool.or_eq_true] at h
  rcases h with h | h
  · refine .inl fun d hd => ?_
    obtain ⟨a, ha, rfl⟩ := List.mem_map.mp hd
    have q := List.all_eq_true.mp h a ha
    cases a with
    | tup ds =>
      cases ds with
      | nil => cases q
      | cons x r => exact ⟨toPy x, toPyL r, by simp [toPy, toPyL]⟩
    | _ => cases q
  · refine .inr fun d hd => ?_
    obtain ⟨a, ha, rfl⟩ := List.mem_map.mp hd
    have q := List.all_eq_true.mp h a ha
    cases a with
    | tup ds => cases q
    | non => cases q
    | _ => exact ⟨by simp [toPy], by simp [toPy]⟩
theorem each_rep : ∀ {l : List D} {xs : List V} {us : List Value}, RepL F H l xs → Vals xs us → PySem.W.EachIs (fun u d => ∃ v, RelV v u ∧ Rep F H d v) us l
  | _, _, _, .nil, .nil => .nil
  | _, _, _, .cons a b, .cons c d => .cons ⟨_, c, a⟩ (each_rep b d)
theorem each_back : ∀ {l : List D} {us : List Value}, PySem.W.EachIs (fun u d => ∃ v, RelV v u ∧ Rep F H d v) us l → ∃ xs, Vals xs us ∧ RepL F H l xs
  | _, _, .nil => ⟨[], .nil, .nil⟩
  | _, _, .cons ⟨v, a, b⟩ r => by
    obtain ⟨xs, h1, h2⟩ := each_back r
    exact ⟨v :: xs, .cons a h1, .cons b h2⟩
theorem oc_sorted {k : Nat} (hr : Room k X.A) : CallR X (.builtin "sorted") (rDL T opSorted) := by
  intro pins s σ H vs us Q I r ⟨F, S, ds, ok, q, h⟩
  match ds, h with
  | [x], h =>
    obtain ⟨v, rfl, q1⟩ := rep1 q
    have h : (match lstOf S x with | some l => PR.pre (alikeB l = true ∧ sortB l = true ∧ l.all (dok 60) = true) (.lst (sortD l)) | none => .no).wp _ := h
    cases e : lstOf S x with
    | none => rw [e] at h; exact h.elim
    | some l =>
      rw [e] at h
      obtain ⟨⟨h1, h2, h3⟩, h⟩ := h
      obtain ⟨a, xs, rfl, ha, kk, hl⟩ := list_of ok q1 e
      obtain ⟨its, rv, p, hz⟩ := I.list (xs := xs) (.inl (.inl ha))
      rw [Vals.ref1 r]
      have dpo : ∀ d ∈ l, ∀ v, Rep F H d v → Dp X.K H v (toPy d) ∧ (toPy d).depth ≤ 60 := fun d hd v rd => by
        obtain ⟨b1, _, b3⟩ := dp_of (K := X.K) d v 60 rd (List.all_eq_true.mp h3 d hd)
        exact ⟨b1, b3⟩
      have e1 := each_rep kk rv
      have e2 : PySem.W.EachIs (fun v b => ∃ as, Reads s.heap v (toPy b) as) its l := by
        refine (PySem.W.each_mem e1).mono fun u d ⟨⟨v, a1, a2⟩, hd⟩ => ?_
        exact Dp.reads I _ v u (dpo d hd v a2).1 a1
      refine PySem.W.sorted_data (R := fun u d => ∃ v, RelV v u ∧ Rep F H d v) p.isList e1 e2 (alikeB_ok h1) (sortB_ok h2) (by rw [sizeLine_eq]; exact hl) (fun b hb => ?_) fun out ho eo => ?_
      · have : (toPy b).depth ≤ 60 := by
          obtain ⟨i, hi⟩ := List.mem_iff_getElem?.mp hb
          obtain ⟨v, _, hv⟩ := kk.get hi
          exact (dpo b hb v hv).2
        have := hr.un
        omega
      · obtain ⟨ys, v1, v2⟩ := each_back eo
        obtain ⟨ep, he⟩ := PyProof.Rows.sortedAll_at s.heap its out.toArray
        have len : (sortD l).length = l.length := List.length_mergeSort _
        have hys : ys.length ≤ sizeLine := by rw [v1.length, ho, sizeLine_eq]; exact hl
        refine ⟨.ref _, upd H (s.heap.objs.size + 1) (.lst ys), I.laid (t' := s.toks) (fun _ _ => PyProof.Rows.sortedAll_old) (Nat.le_succ _) ⟨hys, out, ep, v1, he⟩, rfl, ?_⟩
        exact okK.newL ok h v2 (by show (sortD l).length ≤ _; rw [len]; exact hl) _ (I.hok.fresh (Nat.le_succ _))
  | [], h => exact h.elim
  | _ :: _ :: _, h => exact h.elim

/-! ### sorted(set(..)) -/
def insD (x : List Nat) : List (List Nat) → List (List Nat)
  | [] => [x]
  | y :: r => if x = y then y :: r else if ltL x y then x :: y :: r else y :: insD x r
def ssetD (l : List (List Nat)) : List (List Nat) := l.foldl (fun acc x => insD x acc) []
def insI (x : Int) : List Int → List Int
  | [] => [x]
  | y :: r => if x = y then y :: r else if x < y then x :: y :: r else y :: insI x r
def ssetI (l : List Int) : List Int := l.foldl (fun acc x => insI x acc) []
/-- sorted(set(x)) of texts or of ints -/
def opSset : O1 := fun S x => match seqOf S x with
  | some l => (match sts l with
    | some ys => .pre (ys.length < 60) (.lst ((ssetD ys).map D.str))
    | none => (match nts l with
      | some ns => .pre (ns.length < 60) (.lst ((ssetI ns).map D.int))
      | none => .no))
  | none => .no
end
end DL

namespace DL
open PySem PySem.Spec PyProof.Rows L2
/-! ### sets of any kind of keys: laid one by one, walked, sorted -/
section
variable {P : Program} {w : World} {κ : Type} [DecidableEq κ] (kd : PySem.KeyKind P w κ)
/-- entry e holds key k -/
def Gd (e : Int × Value) (k : κ) : Prop := kd.is k e.2 = true ∧ e.1 = kd.hash k ∧ e.2.scannable = true
inductive Hold : List (Int × Value) → List κ → Prop
  | nil : Hold [] []
  | cons {e : Int × Value} {k : κ} {l : List (Int × Value)} {ms : List κ} : Gd kd e k → Hold l ms → Hold (e :: l) (k :: ms)
/-- the set at a: its members ms, its table in order -/
def GS (h : Heap) (a : Addr) (ms : List κ) : Prop :=
  ∃ o es ep t l, h.get? a = some o ∧ o.ExactSet ∧ o.data = .set es ep t ∧ l.Perm es.toList ∧ Hold kd l ms ∧ ms.Nodup ∧ ms.length < scanBound ∧ t.fits es.size = true ∧ Ris t.place.toList ∧ (w.params.followText "set-order" = true ∨ t.led = true)
variable {kd} {h h' : Heap} {a : Addr} {ms : List κ}
theorem GS.at (g : GS kd h a ms) (k : ∀ o, h.get? a = some o → h'.get? a = some o) : GS kd h' a ms := by
  obtain ⟨o, es, ep, t, l, ho, r⟩ := g
  exact ⟨o, es, ep, t, l, k o ho, r⟩
theorem Hold.len : ∀ {l : List (Int × Value)} {ms : List κ}, Hold kd l ms → l.length = ms.length
  | _, _, .nil => rfl
  | _, _, .cons _ r => congrArg (· + 1) r.len
theorem Hold.left : ∀ {l : List (Int × Value)} {ms : List κ}, Hold kd l ms → ∀ e ∈ l, ∃ k ∈ ms, Gd kd e k
  | _, _, .nil, e, he => by cases he
  | _, _, .cons g r, e, he => by
    rcases List.mem_cons.mp he with rfl | he
    · exact ⟨_, List.mem_cons_self, g⟩
    · obtain ⟨k, hk, q⟩ := r.left e he
      exact ⟨k, List.mem_cons_of_mem _ hk, q⟩
theorem Hold.right : ∀ {l : List (Int × Value)} {ms : List κ}, Hold kd l ms → ∀ k ∈ ms, ∃ e ∈ l, Gd kd e k
  | _, _, .nil, e, he => by cases he
  | _, _, .cons g r, e, he => by
    rcases List.mem_cons.mp he with rfl | he
    · exact ⟨_, List.mem_cons_self, g⟩
    · obtain ⟨k, hk, q⟩ := r.right e he
      exact ⟨k, List.mem_cons_of_mem _ hk, q⟩
/-- entries in another order hold the members in another order -/
theorem Hold.perm {l l' : List (Int × Value)} (p : l.Perm l') : ∀ {ms : List κ}, Hold kd l ms → ∃ ms', ms.Perm ms' ∧ Hold kd l' ms' := by
  induction p with
  | nil => exact fun {ms} x => ⟨ms, .refl _, x⟩
  | cons e _ ih =>
    intro ms x
    cases x with
    | cons g r =>
      obtain ⟨ms', p, q⟩ := ih r
      exact ⟨_ :: ms', p.cons _, .cons g q⟩
  | swap e f l =>
    intro ms x
    cases x with
    | cons g r =>
      cases r with
      | cons g2 r => exact ⟨_, .swap _ _ _, .cons g2 (.cons g r)⟩
  | trans _ _ ih1 ih2 =>
    intro ms x
    obtain ⟨m1, p1, x1⟩ := ih1 x
    obtain ⟨m2, p2, x2⟩ := ih2 x1
    exact ⟨m2, p1.trans p2, x2⟩
theorem Hold.elems {l : List (Int × Value)} {es : Array (Int × Value)} (p : l.Perm es.toList) (x : Hold kd l ms) : ElemsOf kd es.toList := fun e he => by
  obtain ⟨k, _, q⟩ := x.left e (p.mem_iff.mpr he)
  exact ⟨⟨k, q.1, q.2.1⟩, q.2.2⟩
end
section
variable {P : Program} {w : World} {κ : Type} [DecidableEq κ] {kd : PySem.KeyKind P w κ} {A : Around} {E : Value → Shared → Prop} {s : Shared} {a : Addr} {ms : List κ}
theorem gs_size {l : List (Int × Value)} {es : Array (Int × Value)} (p : l.Perm es.toList) (x : Hold kd l ms) : es.size = ms.length := by rw [← Array.length_toList, ← p.length_eq, x.len]
/-- the entries are stored, the table laid anew where it is full -/
theorem gs_store {gw : Bool → Sem Unit} (hg : ∀ (b : Bool) (s1 : Shared) (K : Unit → Shared → Prop), K () s1 → wpAny (model P w) A (gw b) K E s1) {o : Obj} {es e1 : Array (Int × Value)} {ep : Nat} {t t2 : SetTable} {l1 : List (Int × Value)}
    (ho : s.heap.get? a = some o) (hx : o.ExactSet) (hd : o.data = .set es ep t) (p1 : l1.Perm e1.toList) (hold : Hold kd l1 ms) (nd : ms.Nodup) (hb : ms.length < scanBound) (hf : t2.fits e1.size = true) (hr : Ris t2.place.toList)
    (hl : w.params.followText "set-order" = true ∨ t2.led = true) {dm : Bool} {K : Option Bool → Shared → Prop} (hK : ∀ h', Heap.SameBut a s.heap h' → GS kd h' a ms → K (some true) { s with heap := h' }) :
    wpAny (model P w) A (do
        storeSet a e1 t2
        if (!dm && t2.tooFull) = true then do
            gw (relayAll t2 e1 (SetTable.grown e1.size)).2.2
            storeSet a (relayAll t2 e1 (SetTable.grown e1.size)).1 (relayAll t2 e1 (SetTable.grown e1.size)).2.1
            pure (some true)
          else pure (some true)) K E s := by
  have hz : e1.size = ms.length := gs_size p1 hold
  refine wpAny_bind (wpAny_storeSet_of ho hd ?_ (fits_of_scanBound (by rw [hz]; exact hb)))
  have ho1 := store_at (es' := e1) (t' := t2) ho hd
  have sb := Heap.SameBut.update s.heap a (Obj.putSet e1 t2)
  by_cases full : (!dm && t2.tooFull) = true
  · rw [if_pos full]
    obtain ⟨r1, r2, r3, r4⟩ := And.intro (relayAll_perm t2 e1 (SetTable.grown e1.size)) (And.intro (relayAll_fits t2 e1 (SetTable.grown e1.size)) (And.intro (relayAll_ris t2 e1 (SetTable.grown e1.size)) (relayAll_led t2 e1 (SetTable.grown e1.size))))
    generalize relayAll t2 e1 (SetTable.grown e1.size) = Z at r1 r2 r3 r4 ⊢
    obtain ⟨e2, t3, b⟩ := Z
    replace r1 : e2.toList.Perm e1.toList := r1
    have hz2 : e2.size = ms.length := by rw [← Array.length_toList, r1.length_eq, Array.length_toList, hz]
    refine wpAny_bind (hg _ _ _ (wpAny_bind (wpAny_storeSet_of ho1 rfl (wpAny_pure (hK _ (sb.trans (Heap.SameBut.update _ a _)) ?_)) (fits_of_scanBound (by show e2.size < _; rw [hz2]; exact hb)))))
    exact ⟨_, e2, _, t3, l1, store_at (es' := e2) (t' := t3) ho1 rfl, hx, rfl, p1.trans r1.symm, hold, nd, hb, r2, r3, hl.imp id fun z => (show t3.led = t2.led from r4).trans z⟩
  · rw [if_neg full]
    exact wpAny_pure (hK _ sb ⟨_, e1, _, t2, l1, ho1, hx, rfl, p1, hold, nd, hb, hf, hr, hl⟩)
/-- a key is laid, if it isn't in -/
theorem gs_add {k : κ} {x : Value} (hk : kd.is k x = true) (hs : x.scannable = true) {K : Bool → Shared → Prop} (g : GS kd s.heap a ms) (room : ms.length + 1 < scanBound)
    (hK : ∀ h' b, Heap.SameBut a s.heap h' → GS kd h' a (if k ∈ ms then ms else k :: ms) → K b { s with heap := h' }) : wpAny (model P w) A (setAddHashed a x (kd.hash k)) K E s := by
  obtain ⟨o, es, ep, t, l, ho, hx, hd, p, hold, nd, hb, hf, hr, hl⟩ := g
  have hel : ElemsOf kd es.toList := hold.elems p
  unfold setAddHashed setAddHashedIn
  refine wpAny_holding (wpAny_bind (wpAny_setState_of ho hd hf ?_)); dsimp only
  rw [byScan_of hs (by rw [gs_size p hold]; exact hb) hel]; simp only [↓reduceIte]
  unfold setAddByScan; refine wpAny_bind (wpAny_bind (wpAny_rule (wpAny_bind (wpAny_setScan_of hk ho hd hf hel ?_))))
  cases hfi : List.findIdx? (fun e => kd.is k e.2) es.toList with
  | some j =>
    dsimp only
    obtain ⟨hj, pj, _⟩ := List.findIdx?_eq_some_iff_getElem.mp hfi
    obtain ⟨k', hk', q⟩ := hold.left _ (p.mem_iff.mpr (List.getElem_mem hj))
    have e : k' = k := kd.inj _ _ _ q.1 pj
    subst e
    refine wpAny_pure (wpAny_pure (hK s.heap _ (Heap.SameBut.refl a s.heap) ?_)); rw [if_pos hk']
    exact ⟨o, es, ep, t, l, ho, hx, hd, p, hold, nd, hb, hf, hr, hl⟩
  | none =>
    dsimp only
    have hn : k ∉ ms := fun z => by
      obtain ⟨e, he, q⟩ := hold.right k z
      have := List.findIdx?_eq_none_iff.mp hfi e (p.mem_iff.mp he)
      rw [q.1] at this; cases this
    rw [if_neg hn] at hK
    have gave : ∀ (b : Bool) {s1 : Shared} {K' : Unit → Shared → Prop}, K' () s1 → wpAny (model P w) A (match b with | true => rule "set.scan.the-table-gave-way" | false => pure ()) K' E s1 := fun b s1 K' q => by
      cases b with
      | true => exact wpAny_rule q
      | false => exact wpAny_pure q
    obtain ⟨r1, r2, r3, r4⟩ := And.intro (layNew_perm t es (kd.hash k) x) (And.intro (layNew_fits t es (kd.hash k) x) (And.intro (layNew_ris t es (kd.hash k) x hr) (layNew_led t es (kd.hash k) x)))
    generalize layNew t es (kd.hash k) x = Z at r1 r2 r3 r4 ⊢
    obtain ⟨e1, t1, dm, gv⟩ := Z
    replace r1 : e1.toList.Perm (es.push (kd.hash k, x)).toList := r1
    rw [Array.toList_push] at r1
    have p1 : ((kd.hash k, x) :: l).Perm e1.toList := (p.cons _).trans (r1.trans (List.perm_append_singleton _ _)).symm
    have hold1 : Hold kd ((kd.hash k, x) :: l) (k :: ms) := .cons ⟨hk, rfl, hs⟩ hold
    have led1 : w.params.followText "set-order" = true ∨ t1.led = true := hl.imp id fun z => (show t1.led = t.led from r4).trans z
    have nd1 : (k :: ms).Nodup := List.nodup_cons.mpr ⟨hn, nd⟩
    refine wpAny_bind (gave _ ?_); split
    · refine wpAny_bind ?_; rw [hashByValue_scannable 8 hs]; refine wpAny_pure (gs_store (dm := dm) ?_ ho hx hd p1 hold1 nd1 room ?_ ?_ ?_ fun h' sb r => ?_)
      · intro b s1 K' q; cases b <;> first | exact wpAny_pure q | exact wpAny_rule q
      · first | exact r2 | (split <;> first | exact r2 | exact SetTable.fits_plain_off r2)
      · first | exact r3 | (split <;> exact r3)
      · first | exact led1 | (split <;> exact led1)
      · dsimp only; exact wpAny_pure (hK h' _ sb r)
    · refine wpAny_bind (wpAny_pure ?_); simp only [↓reduceIte]
      refine gs_store (dm := dm) ?_ ho hx hd p1 hold1 nd1 room r2 r3 led1 fun h' sb r => ?_
      · intro b s1 K' q; cases b <;> first | exact wpAny_pure q | exact wpAny_rule q
      · dsimp only; exact wpAny_pure (hK h' _ sb r)
/-- set.update over what is walked -/
theorem gs_loop {I : Addr} {fp wr : List Addr} {G : Array GenState → Array GenState → Prop} {n : Nat} {Pv : Nat → Value → Prop} {St : Nat → Shared → Prop} {R : Result → Shared → Prop} (W : WalksS P w A.in1 I fp wr G n Pv St) (a : Addr) (na : a ∉ fp) (ks : List κ) (hn : n = ks.length) (hb : ks.length + 1 < scanBound)
    (hv : ∀ i v, Pv i v → ∃ k, ks[i]? = some k ∧ kd.is k v = true ∧ v.scannable = true) (j : Nat) : ∀ (i : Nat) (s : Shared), n - i = j → i ≤ n → St i s → (∃ ms, GS kd s.heap a ms ∧ ms.length ≤ i ∧ ∀ k, k ∈ ms ↔ k ∈ ks.take i) →
      (∀ s' ms, Moved (a :: wr) G s s' → GS kd s'.heap a ms → ms.length ≤ n → (∀ k, k ∈ ms ↔ k ∈ ks) → R (.ok (.ret .none)) s') → codeAny (model P w) A (.builtin "set.update.loop" ⟨[.ref a, .ref I], []⟩) R s := by
  have nw : a ∉ wr := fun z => na (W.sub _ z)
  have more : ∀ b ∈ wr, b ∈ a :: wr := fun b z => List.mem_cons_of_mem _ z
  induction j with
  | zero =>
    rintro i s hj hi st ⟨ms, g, hm, hs⟩ hR
    obtain rfl : i = n := by omega
    refine codeAny_builtin PyProof.Rows.F.entry_set_update_loop ?_; rw [Around.under_plainId PyProof.Rows.F.plain_set_update_loop _]
    show wpAny _ A.in1 (pyNext (.ref I) >>= _) _ _ s
    refine wpAny_bind (W.done s _ _ st fun s' mv => ?_)
    show wpAny _ A.in1 (ret Value.none) _ _ s'
    rw [List.take_of_length_le (Nat.le_of_eq hn.symm)] at hs
    exact wpAny_pure (hR s' ms (mv.mono more) (g.at fun o e => mv.heap a o nw e) hm hs)
  | succ j ih =>
    rintro i s hj hi st ⟨ms, g, hm, hs⟩ hR
    have lt : i < n := by omega
    refine codeAny_builtin PyProof.Rows.F.entry_set_update_loop ?_; rw [Around.under_plainId PyProof.Rows.F.plain_set_update_loop _]
    show wpAny _ A.in1 (pyNext (.ref I) >>= _) _ _ s
    refine wpAny_bind (W.item i s _ _ lt st fun v s' hP st' mv => ?_)
    obtain ⟨k, ek, hk, hsc⟩ := hv i v hP
    have g' : GS kd s'.heap a ms := g.at fun o e => mv.heap a o nw e
    show wpAny _ A.in1 (holding [v] (setAdd a v) >>= _) _ _ s'
    refine wpAny_bind (wpAny_holding ?_); unfold setAdd; refine wpAny_holding (wpAny_bind (kd.pyHash hk ?_))
    refine gs_add (s := { s' with toks := s'.toks + 1 }) hk hsc g' (by omega) fun h' b sb g2 => ?_
    have mem : ∀ z, z ∈ (if k ∈ ms then ms else k :: ms) ↔ z ∈ ks.take (i + 1) := fun z => by
      rw [List.take_add_one, ek, List.mem_append, ← hs z]
      by_cases q : k ∈ ms
      · rw [if_pos q]
        constructor
        · exact .inl
        · rintro (y | y)
          · exact y
          · have : z = k := by simpa using y
            rw [this]; exact q
      · rw [if_neg q, List.mem_cons, or_comm]
        simp
    have len : (if k ∈ ms then ms else k :: ms).length ≤ i + 1 := by
      split
      · omega
      · rw [List.length_cons]; omega
    refine wpAny_pure ⟨plainId_quiet PyProof.Rows.F.plain_set_update_loop _, ih (i + 1) _ (by omega) lt (W.frame _ s' _ _ st' (Nat.le_succ _) fun b hb o e => (sb.2 b fun z => na (z ▸ hb)).trans e) ⟨_, g2, len, mem⟩ fun s2 m2 mv2 g3 l3 e3 => ?_⟩
    exact hR s2 m2 (Moved.trans W.gtrans ((mv.mono more).then_heap (Nat.le_succ _) fun b o hb e => (sb.2 b fun z => hb (by rw [z]; exact List.mem_cons_self)).trans e) mv2) g3 l3 e3
theorem gs_new {h : Heap} {a : Addr} (ho : h.get? a = some { cls := .type "set", dict := none, data := .set #[] 0 (.fresh 0 0 (!w.params.followText "set-order")) }) : GS kd h a [] :=
  ⟨_, #[], 0, _, [], ho, ⟨rfl, rfl, rfl⟩, rfl, .refl _, .nil, List.nodup_nil, by show 0 < scanBound; decide, rfl, List.Pairwise.nil, by
    show _ ∨ (!w.params.followText "set-order") = true
    cases w.params.followText "set-order" <;> simp⟩
/-- what set(..) made -/
abbrev freshSet (w : World) : Obj := { cls := .type "set", dict := none, data := .set #[] 0 (.fresh 0 0 (!w.params.followText "set-order")) }
theorem fresh_at {h : Heap} : (h.push (freshSet w)).get? h.objs.size = some (freshSet w) := Heap.get?_push_size _ rfl
set_option maxHeartbeats 6400000 in
/-- set(l), l a list or a tuple -/
theorem gs_call {l : Addr} {items : Array Value} (ks : List κ) {K : Value → Shared → Prop} (hh : A.handled = none) (hl : s.heap.IsList l items ∨ s.heap.IsTuple l items) (hn : items.size = ks.length) (hb : ks.length + 1 < scanBound)
    (hv : ∀ (i : Nat) (v : Value), items[i]? = some v → ∃ k, ks[i]? = some k ∧ kd.is k v = true ∧ v.scannable = true)
    (hK : ∀ (h' : Heap) (tk : Nat) (ms : List κ), GS kd h' s.heap.objs.size ms → ms.length ≤ ks.length → (∀ k, k ∈ ms ↔ k ∈ ks) → (∀ b o, s.heap.get? b = some o → h'.get? b = some o) → K (.ref s.heap.objs.size) { s with heap := h', toks := tk }) :
    wpAny (model P w) A (call (.type "set") [.ref l]) K E s := by
  have hls : l < s.heap.objs.size := by rcases hl with ⟨o, e, _⟩ | ⟨o, e, _⟩ <;> exact Heap.lt_size e
  obtain ⟨c, tl, hmro⟩ := PySem.F.called_set.mro
  have q1 := PySem.F.called_set.made; have q2 := PySem.F.called_set.sub; have q3 := PySem.F.called_set.notType; have q4 := PySem.F.called_set.canCreate; have q5 := PySem.F.typeCall_set_1 (.ref l)
  refine wpAny_call (codeAny_of_tree ?_); show wpAny _ _ (callAny (.type "set") _) _ _ _
  refine wpAny_pure ⟨Code.quiet_builtin _ (by decide +kernel), codeAny_builtin PySem.F.entry_type_call ?_⟩; rw [Around.under_plain (weight_type_call_type "set" [.ref l] []) rfl]
  repeat (any_goals (first | assumption | wp_step))

  refine codeAny_mono (code_set_led1 (.ref l) (E := E) (Q₁ := fun obj s1 => obj = .ref s.heap.objs.size ∧ s1 = { s with heap := s.heap.push (freshSet w) }) ⟨rfl, rfl⟩) fun r s1 hr => ?_
  match r, hr with
  | .error e, hr => exact hr
  | .ok (.next), hr => exact hr.elim
  | .ok (.brk), hr => exact hr.elim
  | .ok (.cont), hr => exact hr.elim
  | .ok (.ret obj), hr =>
    obtain ⟨rfl, rfl⟩ := hr
    have hS := fresh_at (w := w) (h := s.heap)
    have hT : Shared.TypeIs { s with heap := s.heap.push (freshSet w) } (.ref s.heap.objs.size) "set" := ⟨_, hS, rfl⟩
    have q6 := PySem.F.called_set.init.lookup; have q7 := PySem.F.called_set.init.bind (.ref s.heap.objs.size)
    repeat (any_goals (first | assumption | wp_step))

    refine codeAny_mono (codeAny_call_builtin (R := wants (fun r s2 => r = .none ∧ ∃ h' tk ms, s2 = { s with heap := h', toks := tk } ∧ GS kd h' s.heap.objs.size ms ∧ ms.length ≤ ks.length ∧ (∀ k, k ∈ ms ↔ k ∈ ks) ∧ (∀ b o, s.heap.get? b = some o → h'.get? b = some o)) E) PySem.F.called_set.init.plain PySem.F.entry_set_init (check_set_init_1 hT ?_)) fun r2 s2 hr2 => ?_
    · have sz : (s.heap.push (freshSet w)).objs.size = s.heap.objs.size + 1 := Heap.size_push ..
      have hh3 : A.in1.in1.in1.handled = none := by simp [hh]
      have lne : l ≠ (s.heap.push (freshSet w)).objs.size := by rw [sz]; exact Nat.ne_of_lt (Nat.lt_succ_of_lt hls)
      have apart : s.heap.objs.size ∉ [(s.heap.push (freshSet w)).objs.size, l] := fun z => by
        rcases List.mem_cons.mp z with z | z
        · rw [sz] at z; exact absurd z (Nat.ne_of_lt (Nat.lt_succ_self _))
        · exact absurd (List.mem_singleton.mp z) (Nat.ne_of_gt hls)
      have fin : ∀ (s' : Shared) (ms : List κ) (o : Obj) (wr : List Addr), (∀ b ∈ wr, b = (s.heap.push (freshSet w)).objs.size) → Moved (s.heap.objs.size :: wr) (fun a b => b = a) { s with heap := (s.heap.push (freshSet w)).push o } s' → GS kd s'.heap s.heap.objs.size ms → ms.length ≤ items.size → (∀ k, k ∈ ms ↔ k ∈ ks) →
          ∃ h' tk ms, s' = { s with heap := h', toks := tk } ∧ GS kd h' s.heap.objs.size ms ∧ ms.length ≤ ks.length ∧ (∀ k, k ∈ ms ↔ k ∈ ks) ∧ (∀ b o, s.heap.get? b = some o → h'.get? b = some o) := fun s' ms o wr hw mv g len mem => by
        obtain ⟨h', g2, d', tk', os'⟩ := s'
        obtain rfl : g2 = s.gens := mv.gens
        obtain rfl : d' = s.drawn := mv.drawn
        obtain rfl : os' = s.os := mv.os
        refine ⟨h', tk', ms, rfl, g, by rw [← hn]; exact len, mem, fun b ob e => mv.heap b ob (fun z => ?_) (Heap.get?_push_of_some _ (Heap.get?_push_of_some _ e))⟩
        have lb := Heap.lt_size e
        rcases List.mem_cons.mp z with z | z
        · exact absurd z (Nat.ne_of_lt lb)
        · have z := hw b z; rw [sz] at z
          exact absurd z (Nat.ne_of_lt (Nat.lt_succ_of_lt lb))
      have f1 := PySem.F.sub_list_set; have f2 := PySem.F.sub_list_frozenset; have f3 : (Value.type "list" == Value.type "dict") = false := by decide
      have f4 := PySem.F.sub_tuple_set; have f5 := PySem.F.sub_tuple_frozenset; have f6 : (Value.type "tuple" == Value.type "dict") = false := by decide
      have g0 : ∀ o : Obj, GS kd ((s.heap.push (freshSet w)).push o) s.heap.objs.size [] := fun o => gs_new (Heap.get?_push_of_some _ hS)
      rcases hl with hl | hl
      · obtain ⟨⟨ocls, odict, odata, oslots⟩, hol, hcl, nl, hdl⟩ := hl
        simp only at hcl hdl
        subst hcl hdl
        have hol' : (s.heap.push (freshSet w)).get? l = some { cls := .type "list", dict := odict, data := .seq items nl, slots := oslots } := Heap.get?_push_of_some _ hol
        have hl1 : (s.heap.push (freshSet w)).IsList l items := ⟨_, hol', rfl, nl, rfl⟩
        unfold Builtin.«set.__init__» noKeywords Builtin.Frozenset.updateFrom
        generalize hPI : pyIter = PI
        wp_walk
        subst hPI

        refine wpAny_pyIter_list hl1 (wpAny_bind (wpAny_runValue ?_))
        refine gs_loop ((Walks.list hh3 _ l lne items).toS) s.heap.objs.size apart ks hn hb hv (items.size - 0) 0 _ (by omega) (Nat.zero_le _) ⟨⟨_, Heap.get?_push_size _ rfl, rfl, rfl⟩, hl1.push _⟩ ⟨[], g0 _, Nat.le_refl _, fun k => by simp⟩ fun s' ms mv g len mem => ?_
        show wpAny _ _ _ _ _ _
        refine wpAny_pure ?_; show wpAny _ _ (ret Value.none) _ _ _
        exact wpAny_pure ⟨rfl, fin s' ms _ _ (fun b z => by simpa using z) mv g len mem⟩
      · obtain ⟨⟨ocls, odict, odata, oslots⟩, hol, hcl, nl, hdl⟩ := hl
        simp only at hcl hdl
        subst hcl hdl
        have hol' : (s.heap.push (freshSet w)).get? l = some { cls := .type "tuple", dict := odict, data := .seq items nl, slots := oslots } := Heap.get?_push_of_some _ hol
        have hl1 : (s.heap.push (freshSet w)).IsTuple l items := ⟨_, hol', rfl, nl, rfl⟩
        unfold Builtin.«set.__init__» noKeywords Builtin.Frozenset.updateFrom
        generalize hPI : pyIter = PI
        wp_walk
        subst hPI

        refine wpAny_pyIter_tuple hl1 (wpAny_bind (wpAny_runValue ?_))
        refine gs_loop ((Walks.tuple hh3 _ l lne items).toS) s.heap.objs.size apart ks hn hb hv (items.size - 0) 0 _ (by omega) (Nat.zero_le _) ⟨⟨_, Heap.get?_push_size _ rfl, rfl, rfl⟩, hl1.push _⟩ ⟨[], g0 _, Nat.le_refl _, fun k => by simp⟩ fun s' ms mv g len mem => ?_
        show wpAny _ _ _ _ _ _
        refine wpAny_pure ?_; show wpAny _ _ (ret Value.none) _ _ _
        exact wpAny_pure ⟨rfl, fin s' ms _ _ (fun b z => by simpa using z) mv g len mem⟩
    · match r2, hr2 with
      | .error e, hr2 => exact hr2
      | .ok (.next), hr2 => exact hr2.elim
      | .ok (.brk), hr2 => exact hr2.elim
      | .ok (.cont), hr2 => exact hr2.elim
      | .ok (.ret r), hr2 =>
        obtain ⟨rfl, h', tk, ms, rfl, g, len, mem, kp⟩ := hr2
        repeat (any_goals (first | assumption | wp_step))
        exact hK _ _ _ g len mem kp
/-- values hold members -/
inductive VH (kd : PySem.KeyKind P w κ) : List Value → List κ → Prop
  | nil : VH kd [] []
  | cons {v : Value} {k : κ} {l : List Value} {ms : List κ} : kd.is k v = true → VH kd l ms → VH kd (v :: l) (k :: ms)
theorem VH.perm {l l' : List Value} (p : l.Perm l') : ∀ {ms : List κ}, VH kd l ms → ∃ ms', ms.Perm ms' ∧ VH kd l' ms' := by
  induction p with
  | nil => exact fun {ms} x => ⟨ms, .refl _, x⟩
  | cons e _ ih =>
    intro ms x
    cases x with
    | cons g r =>
      obtain ⟨ms', p, q⟩ := ih r
      exact ⟨_ :: ms', p.cons _, .cons g q⟩
  | swap e f l =>
    intro ms x
    cases x with
    | cons g r =>
      cases r with
      | cons g2 r => exact ⟨_, .swap _ _ _, .cons g2 (.cons g r)⟩
  | trans _ _ ih1 ih2 =>
    intro ms x
    obtain ⟨m1, p1, x1⟩ := ih1 x
    obtain ⟨m2, p2, x2⟩ := ih2 x1
    exact ⟨m2, p1.trans p2, x2⟩
theorem Hold.vals : ∀ {l : List (Int × Value)} {ms : List κ}, Hold kd l ms → VH kd (l.map (·.2)) ms
  | _, _, .nil => .nil
  | _, _, .cons g r => .cons g.1 r.vals
theorem VH.each {R : Value → κ → Prop} (hR : ∀ v k, kd.is k v = true → R v k) : ∀ {l : List Value} {ms : List κ}, VH kd l ms → PySem.W.EachIs R l ms
  | _, _, .nil => .nil
  | _, _, .cons g r => .cons (hR _ _ g) (r.each hR)
/-- sorted(a set) -/
theorem gs_sorted {K : Value → Shared → Prop} (g : GS kd s.heap a ms) (hh : A.handled = none) (hm : ms.length ≤ 1000) (enc : κ → PyData) (he : ∀ (h : Heap) k v, kd.is k v = true → Reads h v (enc k) []) (hal : ∀ k k', PySem.W.alike (enc k) (enc k') = true) (hso : ∀ k, enc k ≠ .none ∧ ∀ xs, enc k ≠ .tuple xs) (hdp : ∀ k, (enc k).depth = 0) (hu : A.units + 64 < cLine)
    (hK : ∀ (s' : Shared) (p : Addr) (out : List Value) (c : Nat) (bs : List κ), (∀ b o, s.heap.get? b = some o → s'.heap.get? b = some o) → s'.gens = s.gens → s'.os = s.os → s.heap.objs.size ≤ p → s'.heap.get? p = some (seqObj "list" out.toArray c) → bs.Perm ms →
      PySem.W.EachIs (fun v k => kd.is k v = true) out (bs.mergeSort (PySem.W.dataLe false enc)) → K (.ref p) s') : wpAny (model P w) A (call (.builtin "sorted") [.ref a]) K E s := by
  obtain ⟨o, es, ep, t, l, ho, hx, hd, p, hold, nd, hb, hf, hr, hl⟩ := g
  refine Calls.call_function_entry kind_sorted plain_sorted entry_sorted (args_sorted1 _) ?_; unfold Builtin.«sorted»
  refine wpAny_bind (m := checkCount "sorted" 1 1 _) (wpAny_pure (wpAny_bind (collect_set (A := A.in1) hh ⟨o, ho, hx.1, hd⟩ hf (by rw [gs_size p hold]; exact hb) hr hl fun s1 vs k1 hz g1 o1 pm => ?_)))
  obtain ⟨bs, pb, vh⟩ := VH.perm ((p.map (·.2)).trans pm.symm) hold.vals
  have hvl : vs.length = ms.length := by rw [pm.length_eq, List.length_map, ← p.length_eq, hold.len]
  have hbl : bs.length = ms.length := pb.length_eq.symm
  refine wpAny_bind (wpAny_newList ?_ (by rw [hvl, sizeLine_eq]; omega))
  have hoL : (s1.heap.push (seqObj "list" vs.toArray 0)).get? s1.heap.objs.size = some (seqObj "list" vs.toArray 0) := Heap.get?_push_size _ rfl
  refine wpAny_bind (wpAny_holding ?_)
  refine PySem.W.list_sort_data (bs := bs) (enc := enc) (R := fun v k => kd.is k v = true) hoL (vh.each fun _ _ h => h) (vh.each fun v k h => ⟨[], he _ k v h, by simp⟩) (fun d hd d' hd' => ?_) (.inr fun d hd => ?_) (by rw [hbl, sizeLine_eq]; omega) (fun k _ => by rw [hdp]; exact Nat.lt_of_le_of_lt (by show A.units + 1 + 1 + 0 ≤ A.units + 64; omega) hu) fun out len eo => ?_
  · obtain ⟨k, _, rfl⟩ := List.mem_map.mp hd
    obtain ⟨k', _, rfl⟩ := List.mem_map.mp hd'
    exact hal k k'
  · obtain ⟨k, _, rfl⟩ := List.mem_map.mp hd
    exact hso k
  · obtain ⟨c, hc⟩ := sortedHeap_at (vs := vs) (out := out.toArray) hoL
    refine wpAny_pure ⟨_, rfl, hK _ s1.heap.objs.size out c bs (fun b u e => ?_) g1 o1 hz hc pb.symm eo⟩
    have q := k1 b u e
    have lt := Heap.lt_size q
    show (sortedHeap (s1.heap.push (seqObj "list" vs.toArray 0)) s1.heap.objs.size vs out.toArray).get? b = some u
    rw [sortedHeap_old (Nat.ne_of_lt lt) (by rw [size_push']; exact Nat.lt_succ_of_lt lt)]
    exact Heap.get?_push_of_some _ q
end
end DL

namespace DL
open PySem PySem.Spec PyProof.Rows L2
theorem le_str (x y : Str) : PySem.W.dataLe false PyData.str x y = !ltL y.cps.toList x.cps.toList := by
  show (!lexLt itemOrd [.inr y.cps.toList] [.inr x.cps.toList]) = _
  have e : lexLt itemOrd [.inr y.cps.toList] [.inr x.cps.toList] = (itemLt (.inr y.cps.toList) (.inr x.cps.toList) || (!itemLt (.inr x.cps.toList) (.inr y.cps.toList) && lexLt itemOrd [] [])) := lex_cons (O := itemOrd) _ _ _ _
  rw [e]
  show (!(ltL y.cps.toList x.cps.toList || (!ltL x.cps.toList y.cps.toList && false))) = _
  rw [Bool.and_false, Bool.or_false]
theorem le_int (x y : Int) : PySem.W.dataLe false PyData.int x y = !decide (y < x) := by
  show (!lexLt itemOrd [.inl y] [.inl x]) = _
  have e : lexLt itemOrd [.inl y] [.inl x] = (itemLt (.inl y) (.inl x) || (!itemLt (.inl x) (.inl y) && lexLt itemOrd [] [])) := lex_cons (O := itemOrd) _ _ _ _
  rw [e]
  show (!(decide (y < x) || (!decide (x < y) && false))) = _
  rw [Bool.and_false, Bool.or_false]
theorem dataLe_pw {β : Type} (enc : β → PyData) (l : List β) : (l.mergeSort (PySem.W.dataLe false enc)).Pairwise fun a b => PySem.W.dataLe false enc a b = true := PySem.W.sort_pairwise (PySem.W.sortLe_total _ _ _) l
/-! the sorted texts -/
theorem ltL_trans {a b c : List Nat} (h1 : ltL a b = true) (h2 : ltL b c = true) : ltL a c = true := by
  unfold ltL at *
  exact decide_eq_true (List.lt_trans (of_decide_eq_true h1) (of_decide_eq_true h2))
theorem ltL_irr {a : List Nat} : ltL a a = false := by
  unfold ltL
  exact decide_eq_false (List.lt_irrefl a)
theorem ltL_tri {a b : List Nat} (h1 : a ≠ b) (h2 : ltL a b = false) : ltL b a = true := by
  unfold ltL at *
  have h3 := of_decide_eq_false h2
  by_cases h : b < a
  · exact decide_eq_true h
  · exact absurd (List.le_antisymm (show a ≤ b from h) (show b ≤ a from h3)) h1
abbrev Asc (l : List (List Nat)) : Prop := l.Pairwise fun a b => ltL a b = true
theorem insD_mem {x y : List Nat} : ∀ {l : List (List Nat)}, y ∈ insD x l ↔ y = x ∨ y ∈ l
  | [] => by simp [insD]
  | z :: r => by
    unfold insD
    by_cases h1 : x = z
    · rw [if_pos h1, h1]; simp
    · rw [if_neg h1]
      by_cases h2 : ltL x z = true
      · rw [if_pos h2]; simp
      · rw [if_neg h2, List.mem_cons, insD_mem (l := r), List.mem_cons]
        constructor
        · rintro (h | h | h)
          · exact .inr (.inl h)
          · exact .inl h
          · exact .inr (.inr h)
        · rintro (h | h | h)
          · exact .inr (.inl h)
          · exact .inl h
          · exact .inr (.inr h)
theorem insD_asc {x : List Nat} : ∀ {l : List (List Nat)}, Asc l → Asc (insD x l)
  | [], _ => List.pairwise_singleton _ _
  | z :: r, h => by
    have hz := List.pairwise_cons.mp h
    unfold insD
    by_cases h1 : x = z
    · rw [if_pos h1]; exact h
    · rw [if_neg h1]
      by_cases h2 : ltL x z = true
      · rw [if_pos h2]
        refine List.pairwise_cons.mpr ⟨fun y hy => ?_, h⟩
        rcases List.mem_cons.mp hy with rfl | hy
        · exact h2
        · exact ltL_trans h2 (hz.1 y hy)
      · rw [if_neg h2]
        refine List.pairwise_cons.mpr ⟨fun y hy => ?_, insD_asc hz.2⟩
        rcases insD_mem.mp hy with rfl | hy
        · exact ltL_tri h1 (by simpa using h2)
        · exact hz.1 y hy
theorem insD_len {x : List Nat} : ∀ {l : List (List Nat)}, (insD x l).length ≤ l.length + 1
  | [] => Nat.le_refl _
  | z :: r => by
    unfold insD
    have := insD_len (x := x) (l := r)
    split
    · rw [List.length_cons]; omega
    · split
      · simp
      · rw [List.length_cons, List.length_cons]; omega
theorem foldD {l : List (List Nat)} : ∀ acc : List (List Nat), Asc acc → Asc (l.foldl (fun acc x => insD x acc) acc) ∧ (∀ y, y ∈ l.foldl (fun acc x => insD x acc) acc ↔ y ∈ acc ∨ y ∈ l) ∧ (l.foldl (fun acc x => insD x acc) acc).length ≤ acc.length + l.length := by
  induction l with
  | nil => exact fun acc h => ⟨h, fun y => by simp, by simp⟩
  | cons x r ih =>
    intro acc h
    obtain ⟨h1, h2, h3⟩ := ih (insD x acc) (insD_asc h)
    refine ⟨h1, fun y => ?_, ?_⟩
    · rw [List.foldl_cons, h2 y, insD_mem, List.mem_cons]
      constructor
      · rintro ((h | h) | h)
        · exact .inr (.inl h)
        · exact .inl h
        · exact .inr (.inr h)
      · rintro (h | h | h)
        · exact .inl (.inr h)
        · exact .inl (.inl h)
        · exact .inr h
    · rw [List.foldl_cons, List.length_cons]
      have := insD_len (x := x) (l := acc)
      omega
theorem ssetD_asc (l : List (List Nat)) : Asc (ssetD l) := (foldD [] List.Pairwise.nil).1
theorem ssetD_mem {l : List (List Nat)} {y : List Nat} : y ∈ ssetD l ↔ y ∈ l := ((foldD [] List.Pairwise.nil).2.1 y).trans (by simp)
theorem ssetD_len (l : List (List Nat)) : (ssetD l).length ≤ l.length := by
  have := (foldD (l := l) [] List.Pairwise.nil).2.2
  rwa [List.length_nil, Nat.zero_add] at this
abbrev AscI (l : List Int) : Prop := l.Pairwise (· < ·)
theorem insI_mem {x y : Int} : ∀ {l : List Int}, y ∈ insI x l ↔ y = x ∨ y ∈ l
  | [] => by simp [insI]
  | z :: r => by
    unfold insI
    by_cases h1 : x = z
    · rw [if_pos h1, h1]; simp
    · rw [if_neg h1]
      by_cases h2 : x < z
      · rw [if_pos h2]; simp
      · rw [if_neg h2, List.mem_cons, insI_mem (l := r), List.mem_cons]
        constructor
        · rintro (h | h | h)
          · exact .inr (.inl h)
          · exact .inl h
          · exact .inr (.inr h)
        · rintro (h | h | h)
          · exact .inr (.inl h)
          · exact .inl h
          · exact .inr (.inr h)
theorem insI_asc {x : Int} : ∀ {l : List Int}, AscI l → AscI (insI x l)
  | [], _ => List.pairwise_singleton _ _
  | z :: r, h => by
    have hz := List.pairwise_cons.mp h
    unfold insI
    by_cases h1 : x = z
    · rw [if_pos h1]; exact h
    · rw [if_neg h1]
      by_cases h2 : x < z
      · rw [if_pos h2]
        refine List.pairwise_cons.mpr ⟨fun y hy => ?_, h⟩
        rcases List.mem_cons.mp hy with rfl | hy
        · exact h2
        · have := hz.1 y hy; omega
      · rw [if_neg h2]
        refine List.pairwise_cons.mpr ⟨fun y hy => ?_, insI_asc hz.2⟩
        rcases insI_mem.mp hy with rfl | hy
        · omega
        · exact hz.1 y hy
theorem insI_len {x : Int} : ∀ {l : List Int}, (insI x l).length ≤ l.length + 1
  | [] => Nat.le_refl _
  | z :: r => by
    unfold insI
    have := insI_len (x := x) (l := r)
    split
    · rw [List.length_cons]; omega
    · split
      · simp
      · rw [List.length_cons, List.length_cons]; omega
theorem foldI {l : List Int} : ∀ acc : List Int, AscI acc → AscI (l.foldl (fun acc x => insI x acc) acc) ∧ (∀ y, y ∈ l.foldl (fun acc x => insI x acc) acc ↔ y ∈ acc ∨ y ∈ l) ∧ (l.foldl (fun acc x => insI x acc) acc).length ≤ acc.length + l.length := by
  induction l with
  | nil => exact fun acc h => ⟨h, fun y => by simp, by simp⟩
  | cons x r ih =>
    intro acc h
    obtain ⟨h1, h2, h3⟩ := ih (insI x acc) (insI_asc h)
    refine ⟨h1, fun y => ?_, ?_⟩
    · rw [List.foldl_cons, h2 y, insI_mem, List.mem_cons]
      constructor
      · rintro ((h | h) | h)
        · exact .inr (.inl h)
        · exact .inl h
        · exact .inr (.inr h)
      · rintro (h | h | h)
        · exact .inl (.inr h)
        · exact .inl (.inl h)
        · exact .inr h
    · rw [List.foldl_cons, List.length_cons]
      have := insI_len (x := x) (l := acc)
      omega
theorem ssetI_asc (l : List Int) : AscI (ssetI l) := (foldI [] List.Pairwise.nil).1
theorem ssetI_mem {l : List Int} {y : Int} : y ∈ ssetI l ↔ y ∈ l := ((foldI [] List.Pairwise.nil).2.1 y).trans (by simp)
theorem ssetI_len (l : List Int) : (ssetI l).length ≤ l.length := by
  have := (foldI (l := l) [] List.Pairwise.nil).2.2
  rwa [List.length_nil, Nat.zero_add] at this
/-- what sorted(set(..)) hands back -/
theorem sset_strs {ys : List (List Nat)} {ms bs : List Str} (nd : ms.Nodup) (hm : ∀ k, k ∈ ms ↔ k ∈ ys.map sOf) (pb : bs.Perm ms) : bs.mergeSort (PySem.W.dataLe false PyData.str) = (ssetD ys).map sOf := by
  refine List.Perm.eq_of_pairwise (le := fun a b => PySem.W.dataLe false PyData.str a b = true) (fun a b _ _ h1 h2 => ?_) (dataLe_pw _ _) ?_ ?_
  · rw [le_str] at h1 h2
    by_cases e : a.cps.toList = b.cps.toList
    · have : sOf a.cps.toList = sOf b.cps.toList := by rw [e]
      rwa [sOf_toList rfl, sOf_toList rfl] at this
    · have := ltL_tri e (by simpa using h2)
      rw [this] at h1; cases h1
  · rw [List.pairwise_map]
    refine (ssetD_asc ys).imp fun {a b} h => ?_
    rw [le_str, sOf_toL, sOf_toL]
    cases q : ltL b a with
    | false => rfl
    | true => have := ltL_trans h q; rw [ltL_irr] at this; cases this
  · refine (List.mergeSort_perm _ _).trans (pb.trans ((List.perm_ext_iff_of_nodup nd ?_).mpr fun k => ?_))
    · refine List.pairwise_map.mpr ((ssetD_asc ys).imp fun {a b} h e => ?_)
      have := sOf_inj.mp e
      subst this
      rw [ltL_irr] at h; cases h
    · rw [hm k, List.mem_map, List.mem_map]
      exact ⟨fun ⟨a, h1, h2⟩ => ⟨a, ssetD_mem.mpr h1, h2⟩, fun ⟨a, h1, h2⟩ => ⟨a, ssetD_mem.mp h1, h2⟩⟩
theorem sset_ints {ys ms bs : List Int} (nd : ms.Nodup) (hm : ∀ k, k ∈ ms ↔ k ∈ ys) (pb : bs.Perm ms) : bs.mergeSort (PySem.W.dataLe false PyData.int) = ssetI ys := by
  refine List.Perm.eq_of_pairwise (le := fun a b => PySem.W.dataLe false PyData.int a b = true) (fun a b _ _ h1 h2 => ?_) (dataLe_pw _ _) ?_ ?_
  · rw [le_int] at h1 h2
    simp only [Bool.not_eq_true', decide_eq_false_iff_not] at h1 h2
    omega
  · refine (ssetI_asc ys).imp fun {a b} h => ?_
    rw [le_int]
    simp only [Bool.not_eq_true', decide_eq_false_iff_not]
    omega
  · refine (List.mergeSort_perm _ _).trans (pb.trans ((List.perm_ext_iff_of_nodup nd ?_).mpr fun k => ?_))
    · exact (ssetI_asc ys).imp fun {a b} h => by omega
    · rw [hm k, ssetI_mem]
theorem GS.nodup {P : Program} {w : World} {κ : Type} [DecidableEq κ] {kd : PySem.KeyKind P w κ} {h : Heap} {a : Addr} {ms : List κ} (g : GS kd h a ms) : ms.Nodup := by
  obtain ⟨o, es, ep, t, l, h1, h2, h3, h4, h5, h6, _⟩ := g
  exact h6
theorem vals_each {β : Type} {R : Value → β → Prop} {f : β → V} (h : ∀ v b, R v b → RelV (f b) v) : ∀ {vs : List Value} {bs : List β}, PySem.W.EachIs R vs bs → Vals (bs.map f) vs
  | _, _, .nil => .nil
  | _, _, .cons a r => .cons (h _ _ a) (vals_each h r)
theorem GS.lt {P : Program} {w : World} {κ : Type} [DecidableEq κ] {kd : PySem.KeyKind P w κ} {h : Heap} {a : Addr} {ms : List κ} (g : GS kd h a ms) : a < h.objs.size := by
  obtain ⟨o, es, ep, t, l, h1, _⟩ := g
  exact Heap.lt_size h1
section
variable {X : Cx}
theorem str_of_is {k : Str} {v : Value} (h : (PySem.strKind X.prog X.w).is k v = true) : ∃ t, v = .str k t := Value.isStrOf_shape h
theorem int_of_is {k : Int} {v : Value} (h : (PySem.intKind X.prog X.w).is k v = true) : ∃ t, v = .int k t := Value.isInt_shape h
/-- sorted(set(x)), by values -/
def tSset (K : PySem.W.Frag) (ta : TE) : TE := fun σ H Q => ta σ H fun x H1 => ∃ p xs, x = .ref p ∧ (SqL K H1 p xs ∨ SqT K H1 p xs) ∧
  ((∃ ys : List (List Nat), xs = (ys.map sOf).map V.str ∧ ys.length ≤ 1000 ∧ ∀ q, H1 q = none → Q (.ref q) (upd H1 q (.lst (((ssetD ys).map sOf).map V.str)))) ∨ ∃ ys : List Int, xs = ys.map V.int ∧ ys.length ≤ 1000 ∧ ∀ q, H1 q = none → Q (.ref q) (upd H1 q (.lst ((ssetI ys).map V.int))))
theorem pe_sset {k : Nat} {a : Expr} {ta : TE} {p p2 q pos : Pos} (hr : Room k X.A) (hc : X.calm = true) (hg : Gl X "sorted") (hm : X.mg "sorted" = none) (hg2 : Gl X "set") (hm2 : X.mg "set" = none) (ha : PE X a ta)
    (na : starEach [a] X.env = (false, eval a X.env) :: starEach [] X.env := by rfl) : PE X (.Call (.Name "sorted" p) [.Call (.Name "set" p2) [a] [] q] [] pos) (tSset X.K ta) := by
  refine ⟨fun pins s σ H Q I h => Call_ (ld_blt I hg hm boot_sorted (PyProof.Rows.callWith_builtin1 (PyProof.Rows.args_cons ?_ rfl) rfl rfl))⟩
  refine Call_ (ld_blt I hg2 hm2 boot_set (PyProof.Rows.callWith_type1 (PyProof.Rows.args_cons (thn (ha.run pins s σ H _ I h) fun v s1 ⟨x, H1, I1, r1, q1⟩ => PyProof.Rows.args_nil ?_) na) na rfl))
  obtain ⟨l, xs, rfl, hq, q1⟩ := q1
  cases r1
  obtain ⟨its, rv, hl⟩ : ∃ its : List Value, Vals xs its ∧ (s1.heap.IsList l its.toArray ∨ s1.heap.IsTuple l its.toArray) := by
    rcases hq with hq | hq
    · obtain ⟨its, rv, pl, _⟩ := I1.list hq
      exact ⟨its, rv, .inl pl.isList⟩
    · obtain ⟨its, rv, pl, _⟩ := I1.tuple hq
      exact ⟨its, rv, .inr pl⟩
  have fin : ∀ (s' : Shared) (p : Addr) (out : List Value) (c : Nat) (zs : List V), (∀ b o, s1.heap.get? b = some o → s'.heap.get? b = some o) → s'.gens = s1.gens → s'.os = s1.os → s1.heap.objs.size ≤ p →
      s'.heap.get? p = some (seqObj "list" out.toArray c) → Vals zs out → zs.length ≤ sizeLine → (∀ q, H1 q = none → Q (.ref q) (upd H1 q (.lst zs))) → EP X pins σ Q (.ref p) s' := fun s' p out c zs k2 g o hp e rz hz q => by
    have hn : H1 p = none := I1.hok.fresh hp
    have J : Inv X pins σ (upd H1 p (.lst zs)) { s1 with heap := s'.heap, gens := s'.gens, drawn := s'.drawn, toks := s'.toks } := I1.call (ch := []) (Un.laid k2 hp hn) (I1.hok.laid k2 hp ⟨hz, out, c, rz, e⟩) (by rw [g]; exact I1.bare) (fun _ z => nomatch z)
    have es : s' = { s1 with heap := s'.heap, gens := s'.gens, drawn := s'.drawn, toks := s'.toks } := by
      cases s'; cases s1; cases o; rfl
    rw [es]
    exact ⟨.ref p, _, J, rfl, q p hn⟩
  have hh := I1.ok.hd hc
  have hlen := rv.length
  rcases q1 with ⟨ys, rfl, hy, q1⟩ | ⟨ys, rfl, hy, q1⟩
  · rw [List.length_map, List.length_map] at hlen
    refine gs_call (kd := PySem.strKind X.prog X.w) (ys.map sOf) hh hl (by rw [List.size_toArray, ← hlen, List.length_map]) (by rw [List.length_map]; unfold scanBound; omega) (fun i v e => ?_) fun h' tk ms g len mem kp => ?_
    · obtain ⟨x, e1, e2⟩ := vals_getR rv (by simpa using e)
      rw [List.getElem?_map] at e1
      cases e3 : (ys.map sOf)[i]? with
      | none => rw [e3] at e1; cases e1
      | some z =>
        rw [e3] at e1
        cases e1
        obtain ⟨t, rfl⟩ := e2
        exact ⟨z, rfl, strKind_is _ _ _ _, rfl⟩
    · refine PyProof.Rows.args_nil (gs_sorted g hh (by rw [List.length_map] at len; omega) PyData.str (fun h k v e => ?_) (fun _ _ => rfl) (fun _ => ⟨(fun z => by cases z), fun _ z => by cases z⟩) (fun _ => rfl) hr.units fun s' p out c bs k2 g2 o2 hp e pb eo => ?_)
      · obtain ⟨t, rfl⟩ := str_of_is (X := X) e
        exact .str _ _
      · rw [sset_strs g.nodup mem pb] at eo
        have rz : Vals (((ssetD ys).map sOf).map V.str) out := vals_each (fun v k e => by obtain ⟨t, rfl⟩ := str_of_is (X := X) e; exact ⟨t, rfl⟩) eo
        have := ssetD_len ys
        exact fin s' p out c _ (fun b o z => k2 b o (kp b o z)) g2 o2 (Nat.le_trans (Nat.le_of_lt g.lt) hp) e rz (by rw [List.length_map, List.length_map, sizeLine_eq]; omega) q1
  · rw [List.length_map] at hlen
    refine gs_call (kd := PySem.intKind X.prog X.w) ys hh hl (by rw [List.size_toArray, ← hlen]) (by unfold scanBound; omega) (fun i v e => ?_) fun h' tk ms g len mem kp => ?_
    · obtain ⟨x, e1, e2⟩ := vals_getR rv (by simpa using e)
      rw [List.getElem?_map] at e1
      cases e3 : ys[i]? with
      | none => rw [e3] at e1; cases e1
      | some z =>
        rw [e3] at e1
        cases e1
        obtain ⟨t, rfl⟩ := e2
        exact ⟨z, rfl, intKind_is _ _ _ _, rfl⟩
    · refine PyProof.Rows.args_nil (gs_sorted g hh (by omega) PyData.int (fun h k v e => ?_) (fun _ _ => rfl) (fun _ => ⟨(fun z => by cases z), fun _ z => by cases z⟩) (fun _ => rfl) hr.units fun s' p out c bs k2 g2 o2 hp e pb eo => ?_)
      · obtain ⟨t, rfl⟩ := int_of_is (X := X) e
        exact .int _ _
      · rw [sset_ints g.nodup mem pb] at eo
        have rz : Vals ((ssetI ys).map V.int) out := vals_each (fun v k e => by obtain ⟨t, rfl⟩ := int_of_is (X := X) e; exact ⟨t, rfl⟩) eo
        have := ssetI_len ys
        exact fin s' p out c _ (fun b o z => k2 b o (kp b o z)) g2 o2 (Nat.le_trans (Nat.le_of_lt g.lt) hp) e rz (by rw [List.length_map, sizeLine_eq]; omega) q1
end
section
variable {T : Tp} {X : Cx} {F F' F'' : Fz} {S S' S'' : Sto} {H H' H'' : Hp} {σ : L2.St} {W : WX}
theorem je_sset {k : Nat} {a : Expr} {ua : ET} {p p2 q pos : Pos} (hr : Room k X.A) (hc : X.calm = true) (hm : X.mg "sorted" = none) (hm2 : X.mg "set" = none) (ha : JE T X a ua) (hg : Gl X "sorted" := by rfl) (hg2 : Gl X "set" := by rfl)
    (na : starEach [a] X.env = (false, eval a X.env) :: starEach [] X.env := by rfl) : JE T X (.Call (.Name "sorted" p) [.Call (.Name "set" p2) [a] [] q] [] pos) (dU opSset ua) := by
  refine ⟨mon_U ha.mon, fun W tk => (pe_sset hr hc hg hm hg2 hm2 (ha.run W tk) na).weak ?_⟩
  rintro σ H Q ⟨env, S, F, er, ok, w⟩
  refine ⟨env, S, F, er, ok, ha.mon _ _ _ _ _ _ (fun d S1 w1 v1 H1 F1 ok1 ex1 r1 => ?_) (fun _ _ z => z) w⟩
  have w1 : (match seqOf S1 d with
    | some l => (match sts l with
      | some ys => PR.pre (ys.length < 60) (.lst ((ssetD ys).map D.str))
      | none => (match nts l with
        | some ns => .pre (ns.length < 60) (.lst ((ssetI ns).map D.int))
        | none => .no))
    | none => .no).wp _ := w1
  cases e : seqOf S1 d with
  | none => rw [e] at w1; exact w1.elim
  | some l =>
    simp only [e] at w1
    obtain ⟨p, xs, rfl, hs, kk, hl⟩ := seq_of ok1 (K := X.K) r1 e
    refine ⟨p, xs, rfl, hs, ?_⟩
    cases e2 : sts l with
    | some ys =>
      simp only [e2] at w1
      obtain ⟨h1, h2⟩ := w1
      rw [sts_eq e2] at kk
      obtain ⟨k1, k2⟩ := kk.sts
      have := ssetD_len ys
      exact .inl ⟨ys, k1, by omega, okK.newL ok1 (okK.back ex1 _ _ h2) (RepL.ofSts fun b hb => k2 b (ssetD_mem.mp hb)) (by rw [List.length_map]; omega)⟩
    | none =>
      simp only [e2] at w1
      cases e3 : nts l with
      | none => rw [e3] at w1; exact w1.elim
      | some ys =>
        simp only [e3] at w1
        obtain ⟨h1, h2⟩ := w1
        rw [nts_eq e3] at kk
        have := ssetI_len ys
        exact .inr ⟨ys, kk.nts, by omega, okK.newL ok1 (okK.back ex1 _ _ h2) (RepL.ints _) (by rw [List.length_map]; omega)⟩
end
end DL

namespace DL
open PySem PySem.Spec PyProof.Rows L2
theorem bb_sum : bootBuiltins "sum" = some (.builtin "sum") := by decide +kernel
theorem bb_all : bootBuiltins "all" = some (.builtin "all") := by decide +kernel
theorem bb_len : bootBuiltins "len" = some (.builtin "len") := by decide +kernel
theorem bb_min : bootBuiltins "min" = some (.builtin "min") := by decide +kernel
theorem bb_max : bootBuiltins "max" = some (.builtin "max") := by decide +kernel
theorem bb_sorted : bootBuiltins "sorted" = some (.builtin "sorted") := by decide +kernel
theorem bb_int : bootBuiltins "int" = some (.type "int") := by decide +kernel
theorem bb_str : bootBuiltins "str" = some (.type "str") := by decide +kernel
theorem bb_list : bootBuiltins "list" = some (.type "list") := by decide +kernel
theorem bb_tuple : bootBuiltins "tuple" = some (.type "tuple") := by decide +kernel
theorem bb_bool : bootBuiltins "bool" = some (.type "bool") := by decide +kernel
section
variable {T : Tp} {X : Cx} {F F' F'' : Fz} {S S' S'' : Sto} {H H' H'' : Hp} {σ : L2.St} {W : WX}
/-- x, y, z = e1, e2, e3 -/
def sPar3 (i j l : Nat) (t : AT) : DS := fun env S D => t env S (fun ds S1 => match ds with
  | [d1, d2, d3] => D.nx (((env.set i (some d1)).set j (some d2)).set l (some d3)) S1
  | _ => False) (fun e S1 => D.er e env S1)
theorem rep3 {d e f : D} {vs : List V} (r : RepL F H [d, e, f] vs) : ∃ v u w, vs = [v, u, w] ∧ Rep F H d v ∧ Rep F H e u ∧ Rep F H f w := by
  cases r with
  | cons a b =>
    obtain ⟨u, w, rfl, h1, h2⟩ := rep2 b
    exact ⟨_, u, w, rfl, a, h1, h2⟩
theorem js_par3 {i j l : Nat} {x y z : Str} {e1 e2 e3 : Expr} {ta : AT} {px py pz pt pos : Pos} {kt k2 pt2} (hc : X.calm = true) (hN : X.N.Nodup) (ha : JA T X [e1, e2, e3] ta) (hi : X.N[i]? = some x := by rfl) (hj : X.N[j]? = some y := by rfl) (hl : X.N[l]? = some z := by rfl) (hij : i ≠ j := by decide) (hil : i ≠ l := by decide) (hjl : j ≠ l := by decide)
    (hx : X.env.scope.names.lookup x = some .local := by rfl) (hy : X.env.scope.names.lookup y = some .local := by rfl) (hz : X.env.scope.names.lookup z = some .local := by rfl)
    (hw : swappedStores [.Tuple [.Name x px, .Name y py, .Name z pz] kt pt] (.Tuple [e1, e2, e3] k2 pt2) X.env = pure (some [x, y, z]) := by rfl)
    (hs : swapsWithSole [.Tuple [.Name x px, .Name y py, .Name z pz] kt pt] (.Tuple [e1, e2, e3] k2 pt2) pos.line X.env = pure false := by rfl) : JS T X (.Assign [.Tuple [.Name x px, .Name y py, .Name z pz] kt pt] (.Tuple [e1, e2, e3] k2 pt2) pos) (sPar3 i j l ta) := by
  refine ⟨fun env S A B le w => ha.mon _ _ _ _ _ _ (fun ds S1 w1 => by
    match ds, w1 with
    | [d1, d2, d3], w1 => exact le.nx _ _ w1) (fun x S1 w1 => le.er _ _ _ w1) w, fun W tk po => (ps_par3 hc hN hi hj hl hij hil hjl hx hy hz (ha.run W tk) hw hs).weak ?_⟩
  rintro D σ H ⟨env, S, F, er, ok, w⟩
  refine ⟨env, S, F, er, ok, ha.mon _ _ _ _ _ _ (fun ds S1 w1 vs H1 F1 ok1 ex1 r1 => ?_) (fun x S1 w1 cls da H1 F1 ok1 ex1 z => w1 cls da σ H1 F1 (er.ext ok ex1) ok1 ex1 z) w⟩
  match ds, w1, r1 with
  | [d1, d2, d3], w1, r1 =>
    obtain ⟨v, u, t, rfl, q1, q2, q3⟩ := rep3 r1
    exact ⟨v, u, t, rfl, w1 _ H1 F1 ((((er.ext ok ex1).set i q1).set j q2).set l q3) ok1 ex1⟩
/-- o[i] = v, o a list of the store -/
def setIx (S : Sto) (o k v : D) (Q : Sto → Prop) : Prop := ∃ a l j n, o = .obj a ∧ S a = some (.lst l) ∧ k = .int j ∧ ixN l.length j = some n ∧ Q (put S a (.lst (l.set n v)))
theorem setIx_mono {S : Sto} {o k v : D} {Q Q' : Sto → Prop} (h : ∀ S, Q S → Q' S) : setIx S o k v Q → setIx S o k v Q' := fun ⟨a, l, j, n, h1, h2, h3, h4, h5⟩ => ⟨a, l, j, n, h1, h2, h3, h4, h _ h5⟩
def sSub (uv uo ui : ET) : DS := fun env S D => uv env S (fun v S1 => uo env S1 (fun o S2 => ui env S2 (fun k S3 => setIx S3 o k v (D.nx env)) (fun e S1 => D.er e env S1)) (fun e S1 => D.er e env S1)) (fun e S1 => D.er e env S1)
theorem js_sub {ev eo ei : Expr} {uv uo ui : ET} {p pos : Pos} (hv : JE T X ev uv) (ho : JE T X eo uo) (hi : JE T X ei ui)
    (ha : ∀ v, assign (.Subscript eo ei p) X.env v = (do
      let ov ← holding [v] (eval eo X.env)
      let iv ← holding [v, ov] (eval ei X.env)
      standAt p
      holding [v, ov, iv] (setItem ov iv v)
      release [v, ov, iv] []) := by intro _; rfl)
    (hs : swapsWithSole [.Subscript eo ei p] ev pos.line X.env = pure false := by rfl) (hw : swappedStores [.Subscript eo ei p] ev X.env = pure none := by rfl) (h1 : (assignEach [.Subscript eo ei p] X.env).map (·.2) = [assign (.Subscript eo ei p) X.env] := by rfl) :
    JS T X (.Assign [.Subscript eo ei p] ev pos) (sSub uv uo ui) := by
  refine ⟨fun env S A B le w => hv.mon _ _ _ _ _ _ (fun v S1 w1 => ho.mon _ _ _ _ _ _ (fun o S2 w2 => hi.mon _ _ _ _ _ _ (fun k S3 w3 => setIx_mono (fun S w => le.nx _ _ w) w3) (fun x S1 w1 => le.er _ _ _ w1) w2) (fun x S1 w1 => le.er _ _ _ w1) w1) (fun x S1 w1 => le.er _ _ _ w1) w,
    fun W tk po => (ps_asg (hv.run W tk) (pg_sub (ho.run W tk) (hi.run W tk) set_list ha) hs hw h1).weak ?_⟩
  rintro D σ H ⟨env, S, F, er, ok, w⟩
  refine ⟨env, S, F, er, ok, hv.mon _ _ _ _ _ _ (fun v S1 w1 vv H1 F1 ok1 ex1 r1 => ?_) (fun x S1 w1 cls da H1 F1 ok1 ex1 z => w1 cls da σ H1 F1 (er.ext ok ex1) ok1 ex1 z) w⟩
  refine ⟨env, S1, F1, er.ext ok ex1, ok1, ho.mon _ _ _ _ _ _ (fun o S2 w2 ov H2 F2 ok2 ex2 r2 => ?_) (fun x S2 w1 cls da H2 F2 ok2 ex2 z => w1 cls da σ H2 F2 (er.ext ok (ex1.trans ex2)) ok2 (ex1.trans ex2) z) w1⟩
  have e02 := ex1.trans ex2
  refine ⟨env, S2, F2, er.ext ok e02, ok2, hi.mon _ _ _ _ _ _ (fun k S3 w3 kv H3 F3 ok3 ex3 r3 => ?_) (fun x S3 w1 cls da H3 F3 ok3 ex3 z => w1 cls da σ H3 F3 (er.ext ok (e02.trans ex3)) ok3 (e02.trans ex3) z) w2⟩
  obtain ⟨a, l, j, n, rfl, e, rfl, e2, w4⟩ := w3
  cases r2
  cases r3
  obtain ⟨xs, k1, k2, k3⟩ := ok3.st a _ e
  have hS : S3 a ≠ none := by rw [e]; exact fun z => by cases z
  have e03 := e02.trans ex3
  have ex4 : Ext F3 S3 H3 F3 (put S3 a (.lst (l.set n v))) (upd H3 a (.lst (xs.set n vv))) := Ext.write hS k1
  have r1' := Rep.ext ok1 (ex2.trans ex3) _ _ r1
  exact ⟨a, xs, j, n, rfl, rfl, k1, by rw [← k2.length]; exact e2, w4 σ _ F3 ((er.ext ok e03).ext ok3 ex4) (ok3.write hS k1 ⟨_, upd_same, RepL.ext ok3 ex4 _ _ (k2.set r1' n), by rw [List.length_set]; exact k3⟩) (e03.trans ex4)⟩
end
end DL

namespace DL
open PySem PySem.Spec PyProof.Rows L2
/-- the script's list, where it is one of the module's own -/
def inK (K : PySem.W.Frag) (a : Addr) (ns : List Int) : Prop := ∃ vs, K.lookup a = some { cls := .type "list", data := .seq (List.toArray vs) } ∧ Vals (ns.map V.int) vs
theorem loose_int {p : Program} {lv : List (Str × PySem.W.WData)} {mg : Str → Option Value} {h : Heap} {x : Str} {i : Int} (X : PySem.W.XL p lv mg h) (hm : (x, PySem.W.WData.int i) ∈ lv) : ∃ t, mg x = some (.int i t) := by
  obtain ⟨v, a, b⟩ := X.2.val _ hm
  cases b
  exact ⟨_, a⟩
theorem walk_L {l : PySem.W.OpenLaw} {n k : Nat} {q : Program} {loose : List Str} {XP : (Str → Option Value) → Heap → Prop} {YP : World → Heap → Prop} {d : DefRec} {K : Params → PySem.W.Frag} {α : Type} {sp : DSp} {x : Str} (tpf : PySem.W.Frag → α → Tp)
    (hn : l.most = some n) (hn2 : n ≤ sizeLine) (hdf : d.params.defaults = []) (hr : Room k callerA)
    (hY : ∀ (w : World) (h : Heap), YP w h → (K w.params).In h)
    (F : ∀ (w : World) (mg : Str → Option Value) (fa : Addr) (h : Heap), (K w.params).In h → h.Ns mainGlobals mg → mg d.name = some (.ref fa) → XP mg h →
      ∃ (a : α) (fd : FuncData), (∀ (s : Shared) (u : Value), BindsTo s fd ⟨[u], []⟩ [(x, u)]) ∧
        ∀ base : Heap, (K w.params).In base → base.Ns mainGlobals mg → FnOk l.prog w (K w.params) mg base (L2N.CX l.prog w) k fa fd [x] (upSp (tpf (K w.params) a) sp))
    (hT : ∀ K a, (tpf K a).tabs = [] ∧ (tpf K a).cv.sc = inK K)
    (hsp : ∀ (ns : List Int) (Q : DK) (R : RK), ns.length ≤ n → (∀ S, Q (.bl true) S) → (sp.g (fun _ => none) [.scr ns]).wp (fun _ => none) Q R) :
    PySem.W.WalkO q loose XP YP l.row.toRowW d [] (fun f vs => PySem.call f vs) := by
  refine Att.attach_call hn hdf fun w s₀ s₁ mg mb fa o pm cd doc a vs ns G Y ho hd hcd hmg hobj hints hlen hg => ?_
  have KX := hY w _ Y
  obtain ⟨al, fd, hb, hF⟩ := F w mg fa _ KX G.T.g hmg G.X
  obtain ⟨hT1, hT2⟩ := hT (K w.params) al
  have hlen2 : ns.length ≤ 16777216 := by have := hn2; rw [sizeLine_eq] at this; omega
  refine law_call KX G.T.g G.T.b G.T.builtins G.T.nolimit hg hobj hints (Nat.le_trans hlen hn2) hr hF hb (fun H hO hS => ?_) fun H e s' => ?_
  · have fin : ∀ (P : Addr → Prop), (∀ a, P a → ∃ o, H a = some o ∧ ∀ ps, o ≠ .tbl ps) → Rep ⟨P, (tpf (K w.params) al).cv⟩ H (.scr ns) (.ref a) → upSp (tpf (K w.params) al) sp [.ref a] H (fun v _ => v = .bl true) fun _ _ _ => False := fun P hP r => by
      refine ⟨[.scr ns], fun _ => none, ⟨P, (tpf (K w.params) al).cv⟩, .cons r .nil, ⟨rfl, fun b hb => ⟨rfl, hP b hb⟩, (fun b m e => by cases e), by rw [hT1]; exact fun p hp => by cases hp⟩, hsp ns _ _ hlen fun S v H' F' _ _ r' => ?_⟩
      cases r'
      rfl
    rcases hS with hS | ⟨o', its, m, hk, hc, hdd, hs, hz, rv⟩
    · rcases hO a with z | ⟨ob, xs, z⟩
      · rcases hS with hS | ⟨ob, hS⟩
        · rw [z] at hS; cases hS
        · rw [z] at hS; cases hS
      · have e : xs = ns.map V.int := by
          rcases hS with hS | ⟨ob', hS⟩
          · rw [z] at hS; cases hS
          · rw [z] at hS; cases hS; rfl
        subst e
        exact fin (fun b => b = a) (fun b hb => by subst hb; exact ⟨_, z, fun ps q => by cases q⟩) (.scr rfl (.inr ⟨_, z⟩) hlen2)
    · have e := KX a o' hk
      rw [hobj] at e
      cases e
      refine fin (fun _ => False) (fun b hb => hb.elim) (.scK ?_ hlen2)
      show (tpf (K w.params) al).cv.sc a ns
      rw [hT2]
      exact ⟨vs, hk, vals_ints hints⟩
  · rintro ⟨_, _, _, _, _, _, _, _, _, _, _, _, hE⟩
    exact hE.elim
end DL
namespace DL
open PySem PySem.Spec PyProof.Rows L2
/-- a def of the top: where its name leads, what stands there, how it takes arguments -/
def FnE (K : PySem.W.Frag) (mg : Str → Option Value) (x : Str) (st : Stmt) (ps : List Str) (a : Addr) : Prop := ∃ fd : FuncData, mg x = some (.ref a) ∧ Fun K x x st a fd ∧ L2.Binds K fd ps []
end DL
namespace DL
open PySem PySem.Spec PyProof.Rows L2
theorem fnok_weak {P : Program} {w : World} {K : PySem.W.Frag} {mg : Str → Option Value} {base : Heap} {CX : CXT} {k : Nat} {f : Addr} {fd : FuncData} {ps : List Str} {sp sp' : Sp} (x : ∀ vs H Q E, sp vs H Q E → sp' vs H Q E) (G : FnOk P w K mg base CX k f fd ps sp') : FnOk P w K mg base CX k f fd ps sp := G.imp x
end DL

namespace DL
open PySem L2
/-! ### readings, computed -/
theorem dV_get {env : DEnv} {i : Nat} {d : D} {S : Sto} {Q : DK} {R : RK} (h : env[i]? = some (some d)) : dV i env S Q R = Q d S := by
  unfold dV; rw [h]
/-- one turn of a comprehension -/
def lcStep (g : GT) (tt : BT) (te : ET) (env : DEnv) (d : D) (S : Sto) (KN : Sto → Prop) (KY : D → Sto → Prop) : Prop :=
  g d env S fun e1 S1 => tt e1 S1 (fun b S2 => match b with | true => te e1 S2 KY noR | false => KN S2) noR
theorem lcGo_cons {g : GT} {tt : BT} {te : ET} {env : DEnv} {d : D} {r acc : List D} {S : Sto} {K : List D → Sto → Prop} :
    lcGo g tt te env (d :: r) acc S K = lcStep g tt te env d S (fun S2 => lcGo g tt te env r acc S2 K) (fun y S3 => lcGo g tt te env r (acc ++ [y]) S3 K) := rfl
theorem lc_fm {g : GT} {tt : BT} {te : ET} {env : DEnv} {S : Sto} (f : D → Option D) {K : List D → Sto → Prop} : ∀ (l acc : List D),
    (∀ d ∈ l, ∀ KN KY, (match f d with | some y => KY y S | none => KN S) → lcStep g tt te env d S KN KY) → K (acc ++ l.filterMap f) S → lcGo g tt te env l acc S K
  | [], acc, _, k => by rw [List.filterMap_nil, List.append_nil] at k; exact k
  | d :: r, acc, h, k => by
    rw [lcGo_cons]
    refine h d List.mem_cons_self _ _ ?_
    rw [List.filterMap_cons] at k
    cases e : f d with
    | none =>
      rw [e] at k
      exact lc_fm f r acc (fun x hx => h x (List.mem_cons_of_mem _ hx)) k
    | some y =>
      rw [e] at k
      exact lc_fm f r (acc ++ [y]) (fun x hx => h x (List.mem_cons_of_mem _ hx)) (by rw [List.append_assoc]; exact k)
/-- every item kept: items made from a list of plain things -/
theorem lc_map {α : Type} {g : GT} {tt : BT} {te : ET} {env : DEnv} {S : Sto} (p : α → D) (f : α → D) {K : List D → Sto → Prop} : ∀ (l : List α) (acc : List D),
    (∀ x ∈ l, ∀ KN KY, KY (f x) S → lcStep g tt te env (p x) S KN KY) → K (acc ++ l.map f) S → lcGo g tt te env (l.map p) acc S K
  | [], acc, _, k => by rw [List.map_nil, List.append_nil] at k; exact k
  | d :: r, acc, h, k => by
    rw [List.map_cons, lcGo_cons]
    refine h d List.mem_cons_self _ _ ?_
    rw [List.map_cons] at k
    exact lc_map p f r (acc ++ [f d]) (fun x hx => h x (List.mem_cons_of_mem _ hx)) (by rw [List.append_assoc]; exact k)
/-- .. some kept -/
theorem lc_mf {α : Type} {g : GT} {tt : BT} {te : ET} {env : DEnv} {S : Sto} (p : α → D) (c : α → Bool) (f : α → D) {K : List D → Sto → Prop} : ∀ (l : List α) (acc : List D),
    (∀ x ∈ l, ∀ KN KY, (if c x = true then KY (f x) S else KN S) → lcStep g tt te env (p x) S KN KY) → K (acc ++ (l.filter c).map f) S → lcGo g tt te env (l.map p) acc S K
  | [], acc, _, k => by rw [List.filter_nil, List.map_nil, List.append_nil] at k; exact k
  | d :: r, acc, h, k => by
    rw [List.map_cons, lcGo_cons]
    refine h d List.mem_cons_self _ _ ?_
    by_cases e : c d = true
    · rw [if_pos e]
      rw [List.filter_cons_of_pos e, List.map_cons] at k
      exact lc_mf p c f r (acc ++ [f d]) (fun x hx => h x (List.mem_cons_of_mem _ hx)) (by rw [List.append_assoc]; exact k)
    · rw [if_neg e]
      rw [List.filter_cons_of_neg e] at k
      exact lc_mf p c f r acc (fun x hx => h x (List.mem_cons_of_mem _ hx)) k
/-- each item any value with P -/
theorem lc_any {g : GT} {tt : BT} {te : ET} {env : DEnv} {S : Sto} (P : D → Prop) {K : List D → Sto → Prop} : ∀ (l acc : List D),
    (∀ d ∈ l, ∀ KN KY, (∀ y, P y → KY y S) → lcStep g tt te env d S KN KY) → (∀ ys, ys.length = l.length → (∀ y ∈ ys, P y) → K (acc ++ ys) S) → lcGo g tt te env l acc S K
  | [], acc, _, k => by have := k [] rfl (fun _ h => by cases h); rw [List.append_nil] at this; exact this
  | d :: r, acc, h, k => by
    rw [lcGo_cons]
    refine h d List.mem_cons_self _ _ fun y hy => ?_
    refine lc_any P r (acc ++ [y]) (fun x hx => h x (List.mem_cons_of_mem _ hx)) fun ys hl hp => ?_
    rw [List.append_assoc]
    refine k (y :: ys) (by rw [List.length_cons, hl, List.length_cons]) fun z hz => ?_
    rcases List.mem_cons.mp hz with rfl | hz
    · exact hy
    · exact hp z hz
/-- two clauses -/
theorem lc2_cons {g g1 : GT} {tt tt1 : BT} {l1 : LT} {te : ET} {own1 : List Nat} {env : DEnv} {d : D} {r acc : List D} {S : Sto} {K : List D → Sto → Prop} :
    lc2Go g tt l1 g1 tt1 te own1 env (d :: r) acc S K = g d env S fun e1 S1 => tt e1 S1 (fun b S2 => match b with
      | true => l1 e1 S2 (fun items1 S3 => items1.length ≤ 8192 ∧ lcGo g1 tt1 te (wipeD e1 own1) items1 acc S3 (fun acc S4 => lc2Go g tt l1 g1 tt1 te own1 env r acc S4 K)) noR
      | false => lc2Go g tt l1 g1 tt1 te own1 env r acc S2 K) noR := rfl
/-- a for loop by what holds ahead of each turn -/
theorem for_inv {g : GT} {b : DS} {D0 : DEnds} (J : List D → DEnv → Sto → Prop) (h : ∀ d r env S, J (d :: r) env S → ∀ K : DEnv → Sto → Prop, (∀ e2 S2, J r e2 S2 → K e2 S2) → g d env S fun e1 S1 => b e1 S1 (D0.loop K))
    (hn : ∀ env S, J [] env S → D0.nx env S) : ∀ (l : List D) env S, J l env S → forGo g b l env S D0
  | [], env, S, j => hn env S j
  | d :: r, env, S, j => h d r env S j _ fun e2 S2 j2 => for_inv J h hn r e2 S2 j2
/-- a while loop by a measure -/
theorem wh_inv {t : BT} {b : DS} {D0 : DEnds} (J : Nat → DEnv → Sto → Prop) (h : ∀ m env S, J m env S → t env S (fun c S1 => match c with
      | true => ∀ K : DEnv → Sto → Prop, (∀ m' e2 S2, m' < m → J m' e2 S2 → K e2 S2) → b env S1 (D0.loop K)
      | false => D0.nx env S1) (fun e S1 => D0.er e env S1)) (ht : MonB t) (m : Nat) (env : DEnv) (S : Sto) (j : J m env S) : dWh t b env S D0 := by
  refine ⟨m + 1, ?_⟩
  have go : ∀ n m env S, m < n → J m env S → whGo t b n env S D0 := by
    intro n
    induction n with
    | zero => intro m env S hm; omega
    | succ n ih =>
      intro m env S hm j
      refine ht _ _ _ _ _ _ (fun c S1 w => ?_) (fun _ _ z => z) (h m env S j)
      cases c with
      | false => exact w
      | true => exact w _ fun m' e2 S2 hm' j2 => ih m' e2 S2 (by omega) j2
  exact go (m + 1) m env S (Nat.lt_succ_self _) j
theorem tyD_non {S : Sto} : tyD S .non = some .non := rfl
theorem tyD_bl {S : Sto} {b : Bool} : tyD S (.bl b) = some .bl := rfl
theorem tyD_int {S : Sto} {b : Int} : tyD S (.int b) = some .int := rfl
theorem tyD_str {S : Sto} {b : List Nat} : tyD S (.str b) = some .str := rfl
theorem tyD_tup {S : Sto} {b : List D} : tyD S (.tup b) = some .tup := rfl
theorem tyD_lst {S : Sto} {b : List D} : tyD S (.lst b) = some .lst := rfl
theorem tyD_obj {S : Sto} {a : Addr} {n : TN} (h : tyD S (.obj a) = some n) : n = .lst := by
  have h : (match S a with | some (.lst _) => some TN.lst | some .drum => some TN.lst | _ => none) = some n := h
  split at h
  · cases h; rfl
  · cases h; rfl
  · cases h
theorem sp1_inv {g : Sto → D → RS} {S : Sto} {ds : List D} {Q : DK} {R : RK} (h : ((sp1 g).g S ds).wp S Q R) : ∃ x, ds = [x] ∧ (g S x).wp S Q R := by
  match ds, h with
  | [x], h => exact ⟨x, rfl, h⟩
  | [], h => exact h.elim
  | _ :: _ :: _, h => exact h.elim
theorem sp2_inv {g : Sto → D → D → RS} {S : Sto} {ds : List D} {Q : DK} {R : RK} (h : ((sp2 g).g S ds).wp S Q R) : ∃ x y, ds = [x, y] ∧ (g S x y).wp S Q R := by
  match ds, h with
  | [x, y], h => exact ⟨x, y, rfl, h⟩
  | [], h => exact h.elim
  | [_], h => exact h.elim
  | _ :: _ :: _ :: _, h => exact h.elim
theorem sp3_inv {g : Sto → D → D → D → RS} {S : Sto} {ds : List D} {Q : DK} {R : RK} (h : ((sp3 g).g S ds).wp S Q R) : ∃ x y z, ds = [x, y, z] ∧ (g S x y z).wp S Q R := by
  match ds, h with
  | [x, y, z], h => exact ⟨x, y, z, rfl, h⟩
  | [], h => exact h.elim
  | [_], h => exact h.elim
  | [_, _], h => exact h.elim
  | _ :: _ :: _ :: _ :: _, h => exact h.elim
theorem ch_int {a b : Bool} {Q : DK} {S : Sto} (h : Q (.bl (a && b)) S) : match (D.bl a) with
    | .bl true => Q (.bl b) S
    | .bl false => Q (.bl false) S
    | _ => False := by
  cases a with
  | true => exact h
  | false => exact h
theorem eqD_int {a b : Int} : eqD (.int a) (.int b) = decide (a = b) := by
  show (a == b) = _
  by_cases h : a = b <;> simp [h]
theorem eqD_str {a b : List Nat} : eqD (.str a) (.str b) = decide (a = b) := by
  show (sOf a == sOf b) = _
  by_cases h : a = b <;> simp [h, sOf_inj]
theorem eqD_bl {a b : Bool} : eqD (.bl a) (.bl b) = (a == b) := rfl
theorem eqD_non : eqD .non .non = true := rfl
theorem eqD_tup {x y : D} {xs ys : List D} : eqD (.tup (x :: xs)) (.tup (y :: ys)) = (eqD x y && eqD (.tup xs) (.tup ys)) := rfl
theorem eqD_lst {x y : D} {xs ys : List D} : eqD (.lst (x :: xs)) (.lst (y :: ys)) = (eqD x y && eqD (.lst xs) (.lst ys)) := rfl
theorem eqD_tup0 : eqD (.tup []) (.tup []) = true := rfl
theorem eqD_lst0 : eqD (.lst []) (.lst []) = true := rfl
theorem der_int {S : Sto} {i : Int} : der S (.int i) = .int i := rfl
theorem der_str {S : Sto} {i : List Nat} : der S (.str i) = .str i := rfl
theorem der_bl {S : Sto} {i : Bool} : der S (.bl i) = .bl i := rfl
theorem der_non {S : Sto} : der S .non = .non := rfl
theorem der_tup {S : Sto} {i : List D} : der S (.tup i) = .tup i := rfl
theorem der_lst {S : Sto} {i : List D} : der S (.lst i) = .lst i := rfl
theorem eqOk_int {S : Sto} {a b : Int} : eqOk S (.int a) (.int b) = true := rfl
theorem eqOk_str {S : Sto} {a b : List Nat} : eqOk S (.str a) (.str b) = true := rfl
/-- pure data, at most n deep: no objects -/
theorem dok_mem {n : Nat} : ∀ {ds : List D}, dokL n ds = true → ∀ d ∈ ds, dok n d = true
  | [], _, d, h => by cases h
  | x :: r, h, d, hd => by
    have h : (dok n x && dokL n r) = true := by simpa [dokL] using h
    rw [Bool.and_eq_true] at h
    rcases List.mem_cons.mp hd with rfl | hd
    · exact h.1
    · exact dok_mem h.2 d hd
theorem dokL_of {n : Nat} : ∀ {ds : List D}, (∀ d ∈ ds, dok n d = true) → dokL n ds = true
  | [], _ => rfl
  | x :: r, h => by
    have : (dok n x && dokL n r) = true := by rw [h x List.mem_cons_self, dokL_of fun d hd => h d (List.mem_cons_of_mem _ hd)]; rfl
    simpa [dokL] using this
theorem ty_dok {S : Sto} {d : D} {n : Nat} (h : dok n d = true) : ∃ t, tyD S d = some t := by
  cases d with
  | obj _ => cases n <;> cases h
  | cst _ => cases n <;> cases h
  | scr _ => cases n <;> cases h
  | _ => exact ⟨_, rfl⟩
theorem dok_tup {n : Nat} {ds : List D} (h : dok (n + 1) (.tup ds) = true) : ∀ d ∈ ds, dok n d = true := dok_mem (by simpa [dok] using h)
theorem atI_nat {α : Type} {xs : List α} {i : Nat} (h : i < xs.length) : atI xs (i : Nat) = some xs[i] := by
  unfold atI ixN
  rw [if_pos (by omega), if_pos (by omega)]
  show xs[(i : Int).toNat]? = _
  rw [Int.toNat_natCast]
  exact List.getElem?_eq_getElem h
theorem lc_same {g : GT} {tt : BT} {te : ET} {env : DEnv} {S : Sto} (f : D → D) {K : List D → Sto → Prop} (l acc : List D)
    (h : ∀ x ∈ l, ∀ KN KY, KY (f x) S → lcStep g tt te env x S KN KY) (k : K (acc ++ l.map f) S) : lcGo g tt te env l acc S K := by
  have := lc_map (fun w : D => w) f l acc h k
  rwa [List.map_id'] at this
theorem lc2_mf {α β : Type} {g g1 : GT} {tt tt1 : BT} {l1 : LT} {te : ET} {own1 : List Nat} {env : DEnv} {S : Sto} (p : α → D) (m : α → List β) (q : β → D) (c : α → β → Bool) (v : α → β → D) {K : List D → Sto → Prop} : ∀ (l : List α) (acc : List D),
    (∀ a ∈ l, ∃ e1, (∀ K, K e1 S → g (p a) env S K) ∧ (∀ K, K true S → tt e1 S K noR) ∧ (∀ K, K ((m a).map q) S → l1 e1 S K noR) ∧ (m a).length ≤ 8192 ∧ ∀ b ∈ m a, ∀ KN KY, (if c a b = true then KY (v a b) S else KN S) → lcStep g1 tt1 te (wipeD e1 own1) (q b) S KN KY) →
    K (acc ++ l.flatMap fun a => ((m a).filter (c a)).map (v a)) S → lc2Go g tt l1 g1 tt1 te own1 env (l.map p) acc S K
  | [], acc, _, k => by rw [List.flatMap_nil, List.append_nil] at k; exact k
  | a :: r, acc, h, k => by
    rw [List.map_cons, lc2_cons]
    obtain ⟨e1, h1, h2, h3, h4, h5⟩ := h a List.mem_cons_self
    refine h1 _ (h2 _ (h3 _ ⟨by rw [List.length_map]; exact h4, ?_⟩))
    refine lc_mf q (c a) (v a) (m a) acc h5 ?_
    refine lc2_mf p m q c v r _ (fun x hx => h x (List.mem_cons_of_mem _ hx)) ?_
    rw [List.append_assoc]
    rw [List.flatMap_cons] at k
    exact k
end DL

namespace DL
open PySem PySem.Spec PyProof.Rows L2 HotX

/-! ### lists drawn from while an exception is handled -/
section
variable {prog : Program} {w : World} {A : Around}
/-- the object x1 stands as an exception whose context is None -/
def Stands (x1 : Addr) (h : Heap) : Prop := ∃ (o : Obj) (vs : Array Value), h.get? x1 = some o ∧ o.data = .fields vs ∧ vs[2]? = some .none
theorem endL_hot {E : Value → Shared → Prop} {s : Shared} {it l x1 : Addr} {i : Nat} {items : Array Value} {Q : Value → Shared → Prop} (hh : A.handled = some (.ref x1)) (hx1 : Stands x1 s.heap) (hne : x1 ≠ it)
    (hit : s.heap.IsListIter it l i) (hl : s.heap.IsList l items) (hx : items[i]? = none)
    (hE : ∀ h' e, Heap.ExtBut it s.heap h' → (∃ o, h'.get? e = some o ∧ o.cls = .type "StopIteration") → E (.ref e) { s with heap := h' }) :
    wpAny (model prog w) A (Builtin.SmallTypes.nextOf (.ref it)) Q E s := by
  obtain ⟨oi, hoi, hci, hdi⟩ := id hit
  obtain ⟨ol, hol, _, nl, hdl⟩ := hl
  obtain ⟨o1, vs1, h1, d1, c1⟩ := hx1
  unfold Builtin.SmallTypes.nextOf
  refine wpAny_bind (wpAny_callSpecial?_slot (name := Str.ofString "__next__") hit.typeIs slot_listiter_next (wpAny_call_entry slot_listiter_next hit.typeIs entry_listiter_next ?_ (args_listiter_next _)))
  show wpAny _ _ (field (.ref it) 0 >>= _) _ _ s
  refine wpAny_bind (wpAny_field hoi hdi (x := .ref l) rfl ?_)
  show wpAny _ _ (if (Value.ref l == Value.none) = true then _ else _) _ _ s
  rw [if_neg (show ¬ ((Value.ref l == Value.none) = true) from fun z => nomatch z)]
  show wpAny _ _ (field (.ref it) 1 >>= _) _ _ s
  refine wpAny_bind (wpAny_field hoi hdi (x := .int i 0) rfl ?_)
  show wpAny _ _ (seqItems? (.ref l) >>= _) _ _ s
  refine wpAny_bind (wpAny_seqItems hol hdl ?_)
  simp only [Int.toNat_natCast, hx]
  refine wpAny_bind (wpAny_rule (wpAny_bind (wpAny_setField hoi hdi (by simp) ?_)))
  show wpAny _ _ (newExc (.type "StopIteration") [] >>= _) _ _ _
  refine wpAny_bind ?_
  simp only [newExc, newTuple]
  refine wpAny_bind (wpAny_newObj_type ?_ (by size_fits))
  refine wpAny_bind (m := firstArgMember _ _) (wpAny_of_eq (a := Value.none) (by first | rfl | (simp only [firstArgMember]; rfl)) ?_)
  refine wpAny_newObj_type ?_ (by size_fits)
  have hu := (Heap.get?_update_other s.heap (Obj.mapFields (·.setIfInBounds 0 .none)) (Ne.symm hne)).trans h1
  refine raiseNew_hot (x1 := x1) ⟨hh, o1, vs1, Heap.get?_push_of_some _ (Heap.get?_push_of_some _ hu), d1, c1⟩ (Nat.ne_of_lt (Heap.lt_size (Heap.get?_push_of_some _ hu))) (Heap.get?_push_size _ rfl) rfl (by first | (simp; done) | (simp; omega) | (simp only [Array.size_append]; simp; omega)) ?_
  refine hE _ _ (fun b o c e => ?_) ⟨_, Heap.get?_update_self _ (Heap.get?_push_size _ rfl) rfl, rfl⟩
  have hb := (Heap.get?_update_other s.heap (Obj.mapFields (·.setIfInBounds 0 .none)) (Ne.symm c)).trans e
  rw [Heap.get?_update_other _ _ (Nat.ne_of_gt (Heap.lt_size (Heap.get?_push_of_some _ hb)))]
  exact Heap.get?_push_of_some _ (Heap.get?_push_of_some _ hb)
theorem Stands.fwd {x1 : Addr} {h h' : Heap} (x : Stands x1 h) (k : ∀ o, h.get? x1 = some o → h'.get? x1 = some o) : Stands x1 h' := by
  obtain ⟨o, vs, e, d, c⟩ := x
  exact ⟨o, vs, k o e, d, c⟩
theorem drawL_hot {x1 : Addr} (hh : A.handled = some (.ref x1)) (it l : Addr) (hl : l ≠ it) (hx : x1 ≠ it) (items : Array Value) :
    Draws prog w A it [it, l, x1] items.size (fun i v => items[i]? = some v) (fun i h => h.IsListIter it l i ∧ h.IsList l items ∧ Stands x1 h) where
  live := fun _ _ ⟨⟨o, ho, _⟩, _, _⟩ => ⟨o, ho⟩
  frame := fun _ _ _ ⟨s1, s2, s3⟩ hk => ⟨s1.at fun o e => hk it (by simp) o e, s2.at fun o e => hk l (by simp) o e, s3.fwd fun o e => hk x1 (by simp) o e⟩
  item := fun i s Q E hi ⟨s1, s2, s3⟩ hQ =>
    wpAny_nextOf_list_item s1 s2 (x := items[i]) (by simp [hi]) fun h' hit' hs' => hQ _ h' s.toks (by simp [hi]) ⟨hit', s2.extBut hs'.extBut hl, s3.fwd fun o e => (hs'.2 x1 hx).trans e⟩ hs'
  done := fun s Q E ⟨s1, s2, s3⟩ hE => endL_hot hh s3 hx s1 s2 (by simp) hE
end
/-! ### a turn that ends while an exception is handled -/
structure TurnX (P : Program) (w : World) (K : PySem.W.Frag) (tg : Expr) (J : It) (fp : List Addr) (it : Addr) (tn : Nat → Heap → Prop) (x1 : Addr) : Prop where
  mem : it ∈ fp
  obj : ∀ i h, tn i h → ∀ b ∈ fp, ∃ o, h.get? b = some o ∧ ∀ v, o.data ≠ .cell v
  keep : ∀ i h h', tn i h → (∀ b ∈ fp, ∀ o, h.get? b = some o → h'.get? b = some o) → tn i h'
  item : ∀ (X : Cx), X.prog = P → X.w = w → X.K = K → X.A.handled = some (.ref x1) → ∀ (i : Nat) (pins : List (Addr × Obj)) (s : Shared) (σ : L2.St) (H : Hp) (E : Value → Shared → Prop), Inv X pins σ H s → Stands x1 s.heap → (∀ b ∈ fp, FpOk X pins H b) → tn i s.heap → J.go i H →
    wpAny (model P w) X.A (pyNext (.ref it)) (fun r s1 => ∃ u, r = some u ∧ wpAny (model P w) X.A (letOwnedTupleGo tg (.ref it) u) (fun _ s2 => ∃ x H', Inv X pins σ H' s2 ∧ RelV x u ∧ J.yld i H x H' ∧ tn (i + 1) s2.heap ∧ ∀ b ∈ fp, H' b = none) E s1) E s
  done : ∀ (X : Cx), X.prog = P → X.w = w → X.K = K → X.A.handled = some (.ref x1) → ∀ (i : Nat) (pins : List (Addr × Obj)) (s : Shared) (σ : L2.St) (H : Hp) (E : Value → Shared → Prop), Inv X pins σ H s → Stands x1 s.heap → (∀ b ∈ fp, FpOk X pins H b) → tn i s.heap → J.stop i H →
    wpAny (model P w) X.A (pyNext (.ref it)) (fun r s1 => r = none ∧ Inv X pins σ H s1) E s
  self : ∀ (A : Around) (i : Nat) (s : Shared) (Q : Value → Shared → Prop) (E : Value → Shared → Prop), tn i s.heap → Q (.ref it) s → wpAny (model P w) A (pyIter (.ref it)) Q E s
def Izl (K : PySem.W.Frag) (a b : Addr) : It := Izz K (.l a) (.l b)
theorem turnX_zip {P : Program} {w : World} {K : PySem.W.Frag} {elts : List Expr} {kk : Nat} {tpos : Pos} (N a b x1 : Addr) (la : a < N) (lb : b < N) (lx : x1 < N) :
    TurnX P w K (.Tuple elts kk tpos) (Izl K a b) [N + 4, N + 2, N + 3, N, N + 1] (N + 4)
      (fun i h => IsZip h (N + 4) (N + 2) (N + 3) .none ∧ IsTupOf2 h (N + 2) (.ref N) (.ref (N + 1)) ∧ (∃ x y, IsTupOf2 h (N + 3) x y) ∧ h.IsListIter N a i ∧ h.IsListIter (N + 1) b i) x1 where
  mem := by simp
  obj := (turn_zz (P := P) (w := w) (K := K) (elts := elts) (kk := kk) (tpos := tpos) N (.l a) (.l b) la lb).obj
  keep := (turn_zz (P := P) (w := w) (K := K) (elts := elts) (kk := kk) (tpos := tpos) N (.l a) (.l b) la lb).keep
  item := by
    intro X hP hw hK hh i pins s σ H E I hx hf st hg
    subst hP hw hK
    obtain ⟨hz, hTI, ⟨x0, y0, hTO⟩, h1, h2⟩ := st
    obtain ⟨xs, ys, x, y, hqx, hqy, ex, ey⟩ := hg
    obtain ⟨its, rv, p, _⟩ := I.list hqx
    obtain ⟨jts, rw', q, _⟩ := I.list hqy
    have D1 := drawL_hot (prog := X.prog) (w := X.w) (A := X.A.in1) hh N a (Nat.ne_of_lt la) (Nat.ne_of_lt lx) its.toArray
    have D2 := drawL_hot (prog := X.prog) (w := X.w) (A := X.A.in1) hh (N + 1) b (Nat.ne_of_lt (Nat.lt_succ_of_lt lb)) (Nat.ne_of_lt (Nat.lt_succ_of_lt lx)) jts.toArray
    have S : ZipSep2 (N + 4) (N + 2) (N + 3) N (N + 1) [N, a, x1] [N + 1, b, x1] := zip_sep2 (fun c hc => by
      rcases List.mem_cons.mp hc with e | hc
      · rw [e]; exact la
      · rw [List.mem_singleton.mp hc]; exact lx) (fun c hc => by
      rcases List.mem_cons.mp hc with e | hc
      · rw [e]; exact lb
      · rw [List.mem_singleton.mp hc]; exact lx)
    have hzl : (N + 4 : Nat) < s.heap.objs.size := Heap.lt_size hz
    obtain ⟨u, hu, ru⟩ := rv.get ex
    obtain ⟨u', hu', ru'⟩ := rw'.get ey
    have hl1 : i < its.toArray.size := by rw [List.size_toArray]; exact (List.getElem?_eq_some_iff.mp hu).1
    have hl2 : i < jts.toArray.size := by rw [List.size_toArray]; exact (List.getElem?_eq_some_iff.mp hu').1
    refine wpAny_pyNext_zipD2_item S D1 D2 hz hTI hTO ⟨h1, p.isList, hx⟩ ⟨h2, q.isList, hx⟩ hl1 hl2 fun v1 v2 h' tk p1 p2 z' TO' s1' s2' hT hsz hk => ?_
    have e1 : v1 = u := by
      have z : its[i]? = some v1 := by simpa using p1
      rw [hu] at z; exact (Option.some.inj z).symm
    have e2 : v2 = u' := by
      have z : jts[i]? = some v2 := by simpa using p2
      rw [hu'] at z; exact (Option.some.inj z).symm
    subst e1 e2
    refine ⟨_, rfl, wpAny_letOwnedTupleGo_zip (s := { s with heap := h', toks := tk }) z' fun h'' z'' sb => ?_⟩
    have hT2 : h''.get? s.heap.objs.size = some { cls := .type "tuple", data := .seq #[v1, v2] } := (sb.2 _ (Nat.ne_of_gt hzl)).trans hT
    have new : ObjOk X.prog X.w (upd H s.heap.objs.size (.tup [x, y])) h'' s.heap.objs.size (.tup [x, y]) :=
      ⟨by show 2 ≤ sizeLine; decide, [v1, v2], .cons ru (.cons ru' .nil), ⟨_, hT2, rfl, _, rfl⟩⟩
    have I1 : Inv X pins σ (upd H s.heap.objs.size (.tup [x, y])) { s with heap := h'', toks := tk } :=
      I.turnedNew (t' := tk) (ch := [N + 4, N + 2, N + 3, N, N + 1]) (fun c o hb q => (sb.2 c (fun q' => hb (by simp [q']))).trans (hk c o (fun q' => hb (by simp [q'])) (fun q' => hb (by simp [q'])) (fun q' => hb (by simp [q'])) (fun q' => hb (by simp [q'])) q)) hf (Nat.le_refl _) new
    refine ⟨.ref s.heap.objs.size, _, I1, rfl, ⟨_, x, y, rfl, I.hok.fresh (Nat.le_refl _), rfl, fun l hl => by rw [SK.inj I hl hqx]; exact ex, fun l hl => by rw [SK.inj I hl hqy]; exact ey⟩, ⟨z'', ?_, ⟨v1, v2, ?_⟩, ?_, ?_⟩, fun c hcm => ?_⟩
    · exact (sb.2 _ S.TIz).trans (hk _ _ S.TIz S.TITO S.TIi1 S.TIi2 hTI)
    · exact (sb.2 _ S.TOz).trans TO'
    · exact s1'.1.at fun o q => (sb.2 _ (Ne.symm S.zi1)).trans q
    · exact s2'.1.at fun o q => (sb.2 _ (Ne.symm S.zi2)).trans q
    · have hlt : c < s.heap.objs.size := Heap.lt_size (Classical.choose_spec ((turn_zz (P := X.prog) (w := X.w) (K := X.K) (elts := elts) (kk := kk) (tpos := tpos) N (.l a) (.l b) la lb).obj i s.heap ⟨hz, hTI, ⟨x0, y0, hTO⟩, h1, h2⟩ c hcm)).1
      rw [upd_ne (Nat.ne_of_lt hlt)]
      exact (hf c hcm).1
  done := by
    intro X hP hw hK hh i pins s σ H E I hx hf st hg
    subst hP hw hK
    obtain ⟨hz, hTI, ⟨x0, y0, hTO⟩, h1, h2⟩ := st
    obtain ⟨xs, ys, hqx, hqy, hi1, hi2, hend⟩ := hg
    obtain ⟨its, rv, p, _⟩ := I.list hqx
    obtain ⟨jts, rw', q, _⟩ := I.list hqy
    have D1 := drawL_hot (prog := X.prog) (w := X.w) (A := X.A.in1) hh N a (Nat.ne_of_lt la) (Nat.ne_of_lt lx) its.toArray
    have D2 := drawL_hot (prog := X.prog) (w := X.w) (A := X.A.in1) hh (N + 1) b (Nat.ne_of_lt (Nat.lt_succ_of_lt lb)) (Nat.ne_of_lt (Nat.lt_succ_of_lt lx)) jts.toArray
    have S : ZipSep2 (N + 4) (N + 2) (N + 3) N (N + 1) [N, a, x1] [N + 1, b, x1] := zip_sep2 (fun c hc => by
      rcases List.mem_cons.mp hc with e | hc
      · rw [e]; exact la
      · rw [List.mem_singleton.mp hc]; exact lx) (fun c hc => by
      rcases List.mem_cons.mp hc with e | hc
      · rw [e]; exact lb
      · rw [List.mem_singleton.mp hc]; exact lx)
    rw [rv.length] at hi1 hend
    rw [rw'.length] at hi2 hend
    exact wpAny_pyNext_zipD2_end S D1 D2 hz hTI hTO ⟨h1, p.isList, hx⟩ ⟨h2, q.isList, hx⟩ (by rw [List.size_toArray]; exact hi1) (by rw [List.size_toArray]; exact hi2) (by rw [List.size_toArray, List.size_toArray]; exact hend) fun h' tk hk => ⟨rfl, I.turnedL (t' := tk) (ch := [N + 4, N + 2, N + 3, N, N + 1]) (fun c o hb q =>
      hk c o (fun q' => hb (by simp [q'])) (fun q' => hb (by simp [q'])) (fun q' => hb (by simp [q'])) (fun q' => hb (by simp [q'])) q) hf⟩
  self := fun A i s Q E st h => wpAny_pyIter_zip st.1 h
end DL

namespace DL
open PySem PySem.Spec PyProof.Rows L2 HotX

/-! ### a list comprehension while an exception is handled -/
def PIEX (X : Cx) (x1 : Addr) (pins : List (Addr × Obj)) (σ : L2.St) (tg : Expr) (R : It → Hp → Prop) (itv : Value) (s2 : Shared) : Prop :=
  ∃ (it : Addr) (fp : List Addr) (tn : Nat → Heap → Prop) (J : It) (H' : Hp), itv = .ref it ∧ Inv X pins σ H' s2 ∧ TurnX X.prog X.w X.K tg J fp it tn x1 ∧ tn 0 s2.heap ∧ (∀ b ∈ fp, FpOk X pins H' b) ∧ R J H'
/-- x1 stands as a handled exception in each state of Y -/
def StandsIn (Y : Cx) (x1 : Addr) : Prop := ∀ (ps : List (Addr × Obj)) (σ : L2.St) (H : Hp) (s : Shared), Inv Y ps σ H s → Stands x1 s.heap
structure PIX (X : Cx) (x1 : Addr) (tg iter : Expr) (wi : TI) : Prop where
  run : ∀ (pins : List (Addr × Obj)) (s : Shared) (σ : L2.St) (H : Hp) (R : It → Hp → Prop), Inv X pins σ H s → wi σ H R →
    wpAny (model X.prog X.w) X.A (eval iter X.env) (fun v s1 => wpAny (model X.prog X.w) X.A (pyIter v) (PIEX X x1 pins σ tg R) X.xe s1) X.xe s
theorem pe_lcX {X : Cx} {p : Addr × Obj} {elt tg iter : Expr} {ifs : List Expr} {scope : Scope} {own : List (Str × Nat)} {pos : Pos} {wi : TI} {g : TG} {tt : TT} {te : TE} (hp : p ∈ X.pn) (hot : L2H.Hot1 X.A p) (hN : X.N.Nodup) (hi : PIX X p.1 tg iter wi) (okb : BlkOk X.N X.env.scope scope own)
    (hg : ∀ (s : Shared) (H : Hp) (C : Addr) (cl : List (Str × Addr)) (fp : List Addr), StandsIn (X.blk s H scope (compEnvC scope cl C X.env) fp) p.1 → PG (X.blk s H scope (compEnvC scope cl C X.env) fp) tg g) (ht : ∀ (s : Shared) (H : Hp) (C : Addr) (cl : List (Str × Addr)) (fp : List Addr), PTs (X.blk s H scope (compEnvC scope cl C X.env) fp) ifs tt)
    (he : ∀ (s : Shared) (H : Hp) (C : Addr) (cl : List (Str × Addr)) (fp : List Addr), PE (X.blk s H scope (compEnvC scope cl C X.env) fp) elt te) (hfs : ∀ x, foldedSetIterable iter X.env x = pure x := by intro _; rfl) :
    PE X (.ListComp elt [⟨tg, iter, ifs, 0⟩] scope pos) (tLc wi g tt te (own.map (·.2))) := by
  obtain ⟨hh, vs1, hd1, hc1⟩ := hot
  refine ⟨fun pins s σ H Q I h => ?_⟩
  rw [eval_ListComp]
  have free : ∀ y ∈ scope.names, y.2 = .free → ∃ c, X.env.cells.lookup y.1 = some c := fun y hy e => (okb.free y hy e).elim (fun k => I.ok.has _ (.inl k)) (fun k => I.ok.has _ (.inr k))
  refine wpAny_comprehension_free (use := none) rfl hfs (closure_ok free) okb.kind (fun y hy e => by rw [okb.uniq y hy, e]) (thn (hi.run pins s σ H _ I h) fun xv s1 hx => thn hx fun itv s2 h2 => ?_)
  obtain ⟨it, fp, tn, J, H2, rfl, I2, Tn, at2, fp2, q⟩ := h2
  refine wpAny_newObj_type (newEnv_comp ?_) (by show 0 ≤ sizeLine; decide)
  generalize hD : s2.heap.objs.size = D
  have noD : H2 D = none := I2.hok.fresh (Nat.le_of_eq hD)
  obtain ⟨Wm, ⟨m0, w0⟩, turn⟩ := q D noD
  generalize hs3 : ({ s2 with heap := s2.heap.push { cls := .type "list", data := .seq ([] : List Value).toArray } } : Shared) = s3
  have heap3 : s3.heap = s2.heap.push { cls := .type "list", data := .seq ([] : List Value).toArray } := by rw [← hs3]
  have I3 : Inv X pins σ (upd H2 D (.lst [])) s3 := by
    rw [← hs3]
    exact I2.laid (t' := s2.toks) (fun b o e => Heap.get?_push_of_some _ e) (Nat.le_of_eq hD) ⟨Nat.zero_le _, [], 0, .nil, by rw [← hD]; exact Heap.get?_push_size _ rfl⟩
  have low : ∀ b ∈ fp, b < s2.heap.objs.size := fun b hb => let ⟨_, e, _⟩ := Tn.obj _ _ at2 b hb; Heap.lt_size e
  have fp3 : ∀ b ∈ fp, FpOk X pins (upd H2 D (.lst [])) b ∧ b < s3.heap.objs.size := fun b hb =>
    ⟨⟨by rw [upd_ne (by rw [← hD]; exact Nat.ne_of_lt (low b hb))]; exact (fp2 b hb).1, (fp2 b hb).2⟩, by rw [heap3, Heap.size_push]; exact Nat.lt_succ_of_lt (low b hb)⟩
  have at3 : tn 0 s3.heap := Tn.keep _ _ _ at2 fun b _ o e => by rw [heap3]; exact Heap.get?_push_of_some _ e
  have I4 := block_start I3 okb hN fp3
  have pt := ht s3 (upd H2 D (.lst [])) s3.heap.objs.size (cellsFrom (s3.heap.objs.size + 1) scope.names (cloFrom X.env.cells scope.names [])) fp
  have pe := he s3 (upd H2 D (.lst [])) s3.heap.objs.size (cellsFrom (s3.heap.objs.size + 1) scope.names (cloFrom X.env.cells scope.names [])) fp
  have pin3 := I3.pin p (List.mem_append_left _ hp)
  -- the handled exception stands through the block
  have stands0 : StandsIn (X.blk s3 (upd H2 D (.lst [])) scope (compEnvC scope (cellsFrom (s3.heap.objs.size + 1) scope.names (cloFrom X.env.cells scope.names [])) s3.heap.objs.size X.env) fp) p.1 := fun ps σ' H' s' I' =>
    ⟨p.2, vs1, I'.base.keep p.1 p.2 pin3.1 pin3.2.1 (fun z => (List.mem_cons.mp (I3.stkSub p.1 z)).elim pin3.2.2.1 pin3.2.2.2.1) (fun z => (fp3 p.1 z).1.2.2.2.2.2 p (List.mem_append_left _ hp) rfl), hd1, hc1⟩
  have pg := hg s3 (upd H2 D (.lst [])) s3.heap.objs.size (cellsFrom (s3.heap.objs.size + 1) scope.names (cloFrom X.env.cells scope.names [])) fp stands0
  show codeAny _ _ (.compStart (.ListComp elt [⟨tg, iter, ifs, 0⟩] scope pos) 0 (.ref it) (.ref D) (compEnvC scope (cellsFrom (s3.heap.objs.size + 1) scope.names (cloFrom X.env.cells scope.names [])) s3.heap.objs.size X.env)) (compPost (model X.prog X.w) X.A X.xe none (EP X pins σ Q) (.ref D) s3.heap.objs.size) { s3 with heap := pushCells (s3.heap.push { cls := .type "dict", data := .dict #[] }) scope.names }
  have none3 : ∀ b ∈ fp, (upd H2 D (.lst [])) b = none := fun b hb => (fp3 b hb).1.1
  generalize hce : compEnvC scope (cellsFrom (s3.heap.objs.size + 1) scope.names (cloFrom X.env.cells scope.names [])) s3.heap.objs.size X.env = ce at I4 pg pt pe stands0 ⊢
  have ceL : ce.locals = s3.heap.objs.size := by subst hce; rfl
  generalize hH3 : upd H2 D (.lst []) = H3 at I3 I4 pg pt pe w0 none3 fp3 stands0
  generalize hs4 : ({ s3 with heap := pushCells (s3.heap.push { cls := .type "dict", data := .dict #[] }) scope.names } : Shared) = s4 at I4 ⊢
  have at4 : tn 0 s4.heap := Tn.keep _ _ _ at3 fun b _ o e => by rw [← hs4]; exact pushCells_keeps _ _ _ _ (Heap.get?_push_of_some _ e)
  have stands : ∀ {σ' : L2.St} {H' : Hp} {s' : Shared} {ps : List (Addr × Obj)}, Inv (X.blk s3 H3 scope ce fp) ps σ' H' s' → Stands p.1 s'.heap := fun {σ' H' s' ps} I' => stands0 ps σ' H' s' I'
  have stat : ∀ {σ' : L2.St} {H' : Hp} {s' : Shared}, Inv (X.blk s3 H3 scope ce fp) [] σ' H' s' → (∀ b ∈ fp, H' b = none) → ∀ b ∈ fp, FpOk (X.blk s3 H3 scope ce fp) [] H' b := fun {σ' H' s'} I' hn b hb =>
    ⟨hn b hb, (I'.ok.exf b hb).1, I'.ok.exfs b hb, .inl hb, fun x c e => (I'.ok.exf b hb).2 x c e, fun z hz => nomatch (show z ∈ ([] : List (Addr × Obj)) from hz)⟩
  have loop : codeAny (model X.prog X.w) X.A (.compLoop (.ListComp elt [⟨tg, iter, ifs, 0⟩] scope pos) 0 (.ref it) (.ref D) ce) (compPost (model X.prog X.w) X.A X.xe none (EP X pins σ Q) (.ref D) s3.heap.objs.size) s4 := by
    refine compLoop_any (fun n s' => ∃ i H', Inv (X.blk s3 H3 scope ce fp) [] (wipe σ (own.map (·.2))) H' s' ∧ tn i s'.heap ∧ (∀ b ∈ fp, H' b = none) ∧ Wm i n H') ?_ m0 ⟨0, H3, I4, at4, none3, w0⟩
    rintro n s5 ⟨i, H5, I5, at5, none5, w5⟩
    rcases turn i n H5 w5 with ⟨stop, done⟩ | ⟨go, Nx, less, step⟩
    · refine thnF (Tn.done (X.blk s3 H3 scope ce fp) rfl rfl rfl hh i [] s5 _ H5 (fun _ _ => False) I5 (stands I5) (stat I5 none5) at5 stop) fun r s6 ⟨er, I6⟩ => ?_
      subst er
      have I7 : Inv X pins σ H5 s6 := I3.call' (ch := fp) I6.os I6.base I6.hok I6.bare fun b hb => let z := (fp3 b hb).1.2; ⟨z.2.2.1, z.1, z.2.2.2.1, z.2.2.2.2⟩
      have noC : H5 s3.heap.objs.size = none := ceL ▸ (show H5 ce.locals = none from I6.free)
      obtain ⟨m, hn, _⟩ := I6.loc
      refine ⟨m, ceL ▸ (show s6.heap.Ns ce.locals m from hn), fun h'' sb => ?_⟩
      obtain ⟨f0, f1, f2, f3, f4, f5⟩ := I3.fpOk (Nat.le_refl _) noC
      exact ⟨.ref D, H5, I7.turned (t' := s6.toks) (fun b o hb e => (sb.2 b hb).trans e) f0 f1 f3 f4 f5, rfl, done⟩
    · refine thnF (Tn.item (X.blk s3 H3 scope ce fp) rfl rfl rfl hh i [] s5 _ H5 (fun _ _ => False) I5 (stands I5) (stat I5 none5) at5 go) fun r s6 ⟨u, er, h6⟩ => ?_
      subst er
      refine thnF h6 fun _ s7 ⟨x, H7, I7, r7, y7, at7, none7⟩ => ?_
      refine thnF (pg.run _ s7 _ H7 x u _ (I7.pinned (stat I7 none7) (Tn.obj _ _ at7)) r7 (step x H7 y7)) fun _ s8 ⟨σ8, H8, I8, hw8, q8⟩ => ?_
      refine thnF (pt.run _ s8 σ8 H8 _ I8 q8) fun b s9 ⟨H9, I9, q9⟩ => ?_
      have fin : ∀ {s' : Shared} {H' : Hp}, Inv (X.blk s3 H3 scope ce fp) ([] ++ pinsAt fp s7.heap) σ8 H' s' → Nx H' → ∃ m, m < n ∧ ∃ i H', Inv (X.blk s3 H3 scope ce fp) [] (wipe σ (own.map (·.2))) H' s' ∧ tn i s'.heap ∧ (∀ b ∈ fp, H' b = none) ∧ Wm i m H' := fun {s' H'} I' nx => by
        obtain ⟨m', hm, w'⟩ := less H' nx
        have there : ∀ b ∈ fp, ∀ o, s7.heap.get? b = some o → s'.heap.get? b = some o ∧ H' b = none := fun b hb o e =>
          let z := I'.pin (b, o) (List.mem_append_right _ (List.mem_append_right _ (mem_pinsAt hb e))); ⟨z.1, z.2.1⟩
        refine ⟨m', hm, i + 1, H', (I'.unpinned (pins := [])).weak (by rw [← hw8, wipe_length]) (fun j v e => (wipe_some (by rw [← hw8] at e; exact e)).1), Tn.keep _ _ _ at7 fun b hb o e => (there b hb o e).1, fun b hb => ?_, w'⟩
        obtain ⟨o, e, _⟩ := Tn.obj _ _ at7 b hb
        exact (there b hb o e).2
      cases b with
      | false => exact fin I9 (by simpa using q9)
      | true =>
        rw [if_pos rfl] at q9
        refine thnF (pe.run _ s9 σ8 H9 _ I9 q9) fun z s10 ⟨yv, H10, I10, r10, acc, hD10, hz10, nx⟩ => ?_
        exact app_ok (X := X.blk s3 H3 scope ce fp) I10 hD10 hz10 r10 fun s11 I11 => fin I11 nx
  exact codeAny_compStart_list loop (Tn.self X.A 0 _ _ _ at4 loop)
/-! ### a tuple taken apart while an exception is handled -/
section
variable {prog : Program} {w : World} {A : Around} {E : Value → Shared → Prop} {s : Shared} {x1 : Addr}
theorem endT_hot {it t : Addr} {i : Nat} {items : Array Value} {Q : Option Value → Shared → Prop} (hh : A.handled = some (.ref x1)) (hx1 : Stands x1 s.heap) (hne : x1 ≠ it) (hit : IsTupIter s.heap it t i) (ht : IsTup s.heap t items) (hx : items[i]? = none)
    (hQ : ∀ h', Heap.ExtBut it s.heap h' → Q none { s with heap := h' }) : wpAny (model prog w) A (pyNext (.ref it)) Q E s := by
  obtain ⟨oi, hoi, hci, hdi⟩ := id hit
  obtain ⟨ol, hol, _, nl, hdl⟩ := ht
  obtain ⟨o1, vs1, h1, d1, c1⟩ := hx1
  unfold pyNext
  refine wpAny_bind (wpAny_attempt (wpAny_callSpecial?_slot (name := Str.ofString "__next__") hit.typeIs slot_tupleiter_next (wpAny_call_entry slot_tupleiter_next hit.typeIs entry_tupleiter_next ?_ (args_tupleiter_next _))))
  show wpAny _ _ (field (.ref it) 0 >>= _) _ _ s
  refine wpAny_bind (wpAny_field hoi hdi (x := .ref t) rfl ?_)
  show wpAny _ _ (if (Value.ref t == Value.none) = true then _ else _) _ _ s
  rw [if_neg (show ¬ ((Value.ref t == Value.none) = true) from fun z => nomatch z)]
  show wpAny _ _ (field (.ref it) 1 >>= _) _ _ s
  refine wpAny_bind (wpAny_field hoi hdi (x := .int i 0) rfl ?_)
  show wpAny _ _ (seqItems? (.ref t) >>= _) _ _ s
  refine wpAny_bind (wpAny_seqItems hol hdl ?_)
  simp only [Int.toNat_natCast, hx]
  refine wpAny_bind (wpAny_rule (wpAny_bind (wpAny_setField hoi hdi (by simp) ?_)))
  show wpAny _ _ (newExc (.type "StopIteration") [] >>= _) _ _ _
  refine wpAny_bind ?_
  simp only [newExc, newTuple]
  refine wpAny_bind (wpAny_newObj_type ?_ (by size_fits))
  refine wpAny_bind (m := firstArgMember _ _) (wpAny_of_eq (a := Value.none) (by first | rfl | (simp only [firstArgMember]; rfl)) ?_)
  refine wpAny_newObj_type ?_ (by size_fits)
  have hu := (Heap.get?_update_other s.heap (Obj.mapFields (·.setIfInBounds 0 .none)) (Ne.symm hne)).trans h1
  refine raiseNew_hot (x1 := x1) ⟨hh, o1, vs1, Heap.get?_push_of_some _ (Heap.get?_push_of_some _ hu), d1, c1⟩ (Nat.ne_of_lt (Heap.lt_size (Heap.get?_push_of_some _ hu))) (Heap.get?_push_size _ rfl) rfl (by first | (simp; done) | (simp; omega) | (simp only [Array.size_append]; simp; omega)) ?_
  refine wpAny_bind (wpAny_isInstance (T := "StopIteration") (b := true) ⟨_, Heap.get?_update_self _ (Heap.get?_push_size _ rfl) rfl, rfl⟩ isSubtype_stop ?_)
  refine wpAny_pure (hQ _ fun b o c e => ?_)
  have hb := (Heap.get?_update_other s.heap (Obj.mapFields (·.setIfInBounds 0 .none)) (Ne.symm c)).trans e
  rw [Heap.get?_update_other _ _ (Nat.ne_of_gt (Heap.lt_size (Heap.get?_push_of_some _ hb)))]
  exact Heap.get?_push_of_some _ (Heap.get?_push_of_some _ hb)
theorem apart_hot {env : Env} {elts : List Expr} {k : Nat} {pos : Pos} {t : Addr} {items : Array Value} {Q : Unit → Shared → Prop} (hh : A.handled = some (.ref x1)) (hx1 : Stands x1 s.heap) (ht : IsTup s.heap t items) (hn : (assignEach elts env).length = items.size) (hst : (assignEach elts env).findIdx? (·.1) = none)
    (h : ∀ h', Heap.ExtBut s.heap.objs.size s.heap h' → wpAny (model prog w) A (assignInOrder ((assignEach elts env).map (·.2)) items.toList) Q E { s with heap := h' }) : wpAny (model prog w) A (assign (.Tuple elts k pos) env (.ref t)) Q E s := by
  have tn : t ≠ s.heap.objs.size := by obtain ⟨o, ho, _⟩ := ht; exact Nat.ne_of_lt (Heap.lt_size ho)
  have xn : x1 ≠ s.heap.objs.size := by obtain ⟨o, _, ho, _⟩ := hx1; exact Nat.ne_of_lt (Heap.lt_size ho)
  rw [PyProof.Rows.assign_Tuple]
  refine wpAny_bind (wpAny_standAt ?_)
  unfold unpack
  rw [hn, hst]
  refine wpAny_bind (wpAny_holding ?_)
  unfold unpackItems
  refine wpAny_bind ?_
  unfold notIterableAtAll
  refine wpAny_bind (wpAny_specialOf ht.typeIs slot_tuple_iter.lookup (wpAny_pure ?_))
  simp only [Bool.false_eq_true, if_false]
  refine wpAny_bind (wpAny_holding (iter_tuple ht (wpAny_bind (wpAny_holding (draw_tuple tn items.size 0 _ _ ⟨_, Heap.get?_push_size _ rfl, rfl, rfl⟩ (ht.push _) (by omega) fun h₁ at₁ sb => ?_)))))
  have whole : List.take items.size (List.drop 0 items.toList) = items.toList := by rw [List.drop_zero]; exact List.take_of_length_le (by simp)
  rw [whole, if_neg (by simp)]
  refine wpAny_bind (wpAny_holding (endT_hot hh (hx1.fwd fun o e => sb.extBut _ _ xn (Heap.get?_push_of_some _ e)) xn at₁ ((ht.push _).extBut sb.extBut tn) (by simp) fun h₂ eb => ?_))
  simp only [Option.isSome_none, Bool.false_eq_true, if_false]
  exact wpAny_pure (h h₂ fun b o hb e => eb b o hb (sb.extBut b o hb (Heap.get?_push_of_some _ e)))
end
theorem pg_tupX {X : Cx} {x1 : Addr} {es : List Expr} {k : Nat} {pos : Pos} {t : TGs} {n : Nat} (hh : X.A.handled = some (.ref x1)) (hX : StandsIn X x1) (h : PGs X es t) (hn : (assignEach es X.env).length = n) (hst : (assignEach es X.env).findIdx? (·.1) = none) : PG X (.Tuple es k pos) (gTup X.K n t) := by
  refine ⟨fun pins s σ H v u Q I r hw => ?_⟩
  obtain ⟨a, xs, rfl, hq, hl, hw⟩ := hw
  cases r
  obtain ⟨its, rv, ht, hz⟩ := I.tuple hq
  refine apart_hot hh (hX _ _ _ _ I) ht (by simp [hn, ← hl, rv.length]) hst fun h' hx => ?_
  exact h.run pins _ σ H xs _ Q (I.kept (t' := s.toks) fun b o e => hx b o (Nat.ne_of_lt (Heap.lt_size e)) e) (by simpa using rv) hw
end DL

namespace DL
open PySem PySem.Spec PyProof.Rows L2 HotX

section
variable {X : Cx} {p : Addr × Obj}
theorem pi_zl {e e2 : Expr} {ta : TA} {q pos tpos : Pos} {elts : List Expr} {kk : Nat} (hp : p ∈ X.pn) (hg : Gl X "zip") (hm : X.mg "zip" = none) (ha : PA X [e, e2] ta)
    (hs : starEach [e, e2] X.env = (false, eval e X.env) :: starEach [e2] X.env := by rfl) (hpl : (backTo pos (starEach [e2] X.env)).any (·.1) = false := by rfl) :
    PIX X p.1 (.Tuple elts kk tpos) (.Call (.Name "zip" q) [e, e2] [] pos) (fun σ H R => ta σ H fun vs H1 => ∃ a b xs ys, vs = [.ref a, .ref b] ∧ SqL X.K H1 a xs ∧ SqL X.K H1 b ys ∧ R (Izl X.K a b) H1) := by
  refine ⟨fun pins s σ H R I h => ?_⟩
  refine Call_ (ld_blt I hg hm PyProof.Rows.boot_zip (PyProof.Rows.callWith_type1 (thn (ha.run pos pins s σ H _ I h) fun us s1 ⟨vs, H1, I1, r1, a, b, xs, ys, ex, hx, hy, qq⟩ => ?_) hs hpl))
  subst ex
  obtain ⟨u1, u2, rfl, ru1, ru2⟩ := vals2 r1
  cases ru1
  cases ru2
  obtain ⟨la, o1, Hb1, B1, hb1, i1⟩ := begins_of I1 (k := .l a) hx
  obtain ⟨lb, o2, Hb2, B2, hb2, i2⟩ := begins_of I1 (k := .l b) hy
  have lx : p.1 < s1.heap.objs.size := Heap.lt_size (I1.pin p (List.mem_append_left _ hp)).1
  refine zip_begins2 B1 B2 hb1 hb2 fun h' hz hTI hTO h1 h2 hsz hk => wpAny_pyIter_zip hz ?_
  refine ⟨s1.heap.objs.size + 4, [s1.heap.objs.size + 4, s1.heap.objs.size + 2, s1.heap.objs.size + 3, s1.heap.objs.size, s1.heap.objs.size + 1], _, _, H1, rfl, I1.kept (t' := s1.toks) hk, turnX_zip s1.heap.objs.size a b p.1 la lb lx, ⟨hz, hTI, ⟨_, _, hTO⟩, i1 _ _ h1, i2 _ _ h2⟩, fun c hcm => ?_, qq⟩
  have hle : s1.heap.objs.size ≤ c := by
    have e' : c = s1.heap.objs.size + 4 ∨ c = s1.heap.objs.size + 2 ∨ c = s1.heap.objs.size + 3 ∨ c = s1.heap.objs.size ∨ c = s1.heap.objs.size + 1 := by simpa using hcm
    rcases e' with z | z | z | z | z <;> rw [z] <;> first | exact Nat.le_refl _ | exact Nat.le_add_right _ _
  exact I1.fpOk hle (I1.hok.fresh hle)
end

section
variable {T : Tp} {X : Cx} {F F' F'' : Fz} {S S' S'' : Sto} {H H' H'' : Hp} {σ : L2.St} {W : WX} {p : Addr × Obj}
structure JIX (T : Tp) (X : Cx) (x1 : Addr) (tg iter : Expr) (u : LT) : Prop where
  mon : MonA u
  run : ∀ W, L2N.Takes X W → PIX X x1 tg iter (upI T W u)
def lZipL (t : AT) : LT := fun env S Q R => t env S (fun ds S1 => match ds with
  | [.lst l, .lst m] => Q (zipD l m) S1
  | _ => False) R
theorem lZipL_inv {ds : List D} {P : List D → Prop} (h : match ds with | [.lst l, .lst m] => P (zipD l m) | _ => False) : ∃ l m, ds = [.lst l, .lst m] ∧ P (zipD l m) := by
  split at h
  · exact ⟨_, _, rfl, h⟩
  · exact h.elim
theorem mon_lZipL {t : AT} (h : MonA t) : MonA (lZipL t) := fun env S Q Q' R R' hq hR w => h _ _ _ _ _ _ (fun ds S1 w1 => by
  obtain ⟨l, m, rfl, w2⟩ := lZipL_inv (P := fun z => Q z S1) w1
  exact hq _ _ w2) hR w
theorem ji_zipX {elts : List Expr} {kk : Nat} {a b : Expr} {t : AT} {q pos tpos : Pos} (hp : p ∈ X.pn) (hm : X.mg "zip" = none) (ha : JA T X [a, b] t) (hg : Gl X "zip" := by rfl) (hs : starEach [a, b] X.env = (false, eval a X.env) :: starEach [b] X.env := by rfl) (hpl : (backTo pos (starEach [b] X.env)).any (·.1) = false := by rfl) :
    JIX T X p.1 (.Tuple elts kk tpos) (.Call (.Name "zip" q) [a, b] [] pos) (lZipL t) := by
  refine ⟨mon_lZipL ha.mon, fun W tk => ⟨fun pins s σ H R I ⟨env, S, F, er, ok, w⟩ => ?_⟩⟩
  refine (pi_zl hp hg hm (ha.run W tk) hs hpl).run pins s σ H R I ⟨env, S, F, er, ok, ha.mon _ _ _ _ _ _ (fun ds S1 w1 vs H1 F1 ok1 ex1 r1 => ?_) (fun _ _ z => z) w⟩
  obtain ⟨l, m, rfl, w1⟩ := lZipL_inv (P := fun z => ∀ J H' F', Ok T F' S1 H' → Ext F S H F' S1 H' → WalkD F' H' J z → R J H') w1
  obtain ⟨v1, v2, rfl, q1, q2⟩ := rep2 r1
  obtain ⟨k1, xs, c1, _, z1, f1⟩ := kind_of X.K q1 (l := l) rfl
  obtain ⟨k2, ys, c2, _, z2, f2⟩ := kind_of X.K q2 (l := m) rfl
  cases q1 with
  | lst g1 h1 y1 n1 =>
    cases q2 with
    | lst g2 h2 y2 n2 =>
      exact ⟨_, _, _, _, rfl, .inl (.inl h1), .inl (.inl h2), w1 _ H1 F1 ok1 ex1 (walkD_zz (k1 := .l _) (k2 := .l _) (fun H' x => ⟨.inl (.inl ((x _ g1).trans h1)), RepL.fr x _ _ y1⟩) (fun H' x => ⟨.inl (.inl ((x _ g2).trans h2)), RepL.fr x _ _ y2⟩) n1)⟩
theorem je_lcX {elt tg iter : Expr} {ifs : List Expr} {scope : Scope} {pos : Pos} {l : LT} {g : GT} {tt : BT} {te : ET} (own : List (Str × Nat)) (hp : p ∈ X.pn) (hot : L2H.Hot1 X.A p) (hN : X.N.Nodup) (ok : BlkOk X.N X.env.scope scope own) (hi : JIX T X p.1 tg iter l)
    (hg : ∀ (s : Shared) (H : Hp) (C : Addr) (cl : List (Str × Addr)) (fp : List Addr), (StandsIn (X.blk s H scope (compEnvC scope cl C X.env) fp) p.1 → JGo T (X.blk s H scope (compEnvC scope cl C X.env) fp) tg g (own.map (·.2))))
    (mg : ∀ d env S Q Q', (∀ e S, Q e S → Q' e S) → g d env S Q → g d env S Q')
    (ht : ∀ (s : Shared) (H : Hp) (C : Addr) (cl : List (Str × Addr)) (fp : List Addr), JTs T (X.blk s H scope (compEnvC scope cl C X.env) fp) ifs tt)
    (he : ∀ (s : Shared) (H : Hp) (C : Addr) (cl : List (Str × Addr)) (fp : List Addr), JE T (X.blk s H scope (compEnvC scope cl C X.env) fp) elt te) (hs : ∀ x, foldedSetIterable iter X.env x = pure x := by intro _; rfl) :
    JE T X (.ListComp elt [⟨tg, iter, ifs, 0⟩] scope pos) (dLc l g tt te (own.map (·.2))) := by
  have mt := (ht {} (fun _ => none) 0 [] []).mon
  have me := (he {} (fun _ => none) 0 [] []).mon
  refine ⟨mon_Lc hi.mon mg mt me, fun W tk => (pe_lcX hp hot hN (hi.run W tk) ok (fun s H C cl fp st => (hg s H C cl fp st).run) (fun s H C cl fp => ⟨(ht s H C cl fp).run _ takesN⟩) (fun s H C cl fp => (he s H C cl fp).run _ takesN) hs).weak ?_⟩
  exact fun σ H Q h => lc_go hi.mon mg mt me rfl h
theorem jgo_tupX {x1 : Addr} {es : List Expr} {k n : Nat} {pos : Pos} {u : GTs} {own : List Nat} (hh : X.A.handled = some (.ref x1)) (hX : StandsIn X x1) (h : JGos T X es u own) (hn : (assignEach es X.env).length = n := by rfl) (hst : (assignEach es X.env).findIdx? (·.1) = none := by rfl) : JGo T X (.Tuple es k pos) (gT n u) own := by
  refine ⟨fun d env S Q Q' hq w => ?_, PG.weak' (pg_tupX hh hX h.run hn hst) ?_⟩
  · cases d with
    | tup ds => exact ⟨w.1, h.mon _ _ _ _ _ hq w.2⟩
    | _ => exact w
  · rintro v σ H Q ⟨env, S, F, d, er, ok, r, w⟩
    cases r with
    | @tup a xs ds f e k l => exact ⟨a, xs, rfl, .inl (.inl e), by rw [← k.length]; exact w.1, env, S, F, ds, er, ok, k, w.2⟩
    | _ => exact w.elim
end
end DL

namespace DL
open PySem PySem.Spec PyProof.Rows L2 L2H

/-! ### a def that is told which exception is handled -/
structure FnZ (P : Program) (w : World) (K : PySem.W.Frag) (mg : Str → Option Value) (base : Heap) (CX : CXT) (k : Nat) (f : Addr) (fd : FuncData) (ps : List Str) (sp : Addr × Obj → Sp) : Prop where
  len : ∀ p vs H Q E, sp p vs H Q E → vs.length = ps.length
  run : ∀ (A : Around) (outer : List Env) (s : Shared) (H : Hp) (args : Args) (us : List Value) (vs : List V) (Q : VK) (E : XK) (p : Addr × Obj), RoomH k A → Hot1 A p → PinOk outer H s p → Env0 P w K mg base A outer s H → BindsTo s fd args (ps.zip us) → Vals vs us → sp p vs H Q E →
    codeAny (model P w) A (.call (.ref f) args) (CR CX outer P w H s Q E) s
theorem fn_ofZ {CX : CXT} {P : Program} {w : World} {K : PySem.W.Frag} {mg : Str → Option Value} {base : Heap} {x qual : Str} {st : Stmt} {f : Addr} {fd : FuncData} {N ps : List Str} {k : Nat} {sp : Addr × Obj → Sp} (G : Fun K x qual st f fd) (Sc : FnScope N ps (defScope st)) (len : ∀ p vs H Q E, sp p vs H Q E → vs.length = ps.length)
    (hbody : ∀ (cdv : Value) (A : Around) (outer : List Env) (s : Shared) (H : Hp) (vs : List V) (Q : VK) (E : XK) (p : Addr × Obj), Hot1 A p → RoomH k (A.deeper (envOfC qual (defScope st) s.heap.objs.size f cdv)) → sp p vs H Q E →
      ∃ t, PSs (cxH CX P w K mg base N qual (defScope st) f cdv A outer s H E p) (defBody st) t ∧ t { nx := fun _ H' => Q .non H', rt := Q } (L2.start N vs) H) : FnZ P w K mg base CX (k + 1) f fd ps sp := by
  obtain ⟨oc, od, kV, doc, pm, an, cdv, ct, osl, rfl, lk, hcd⟩ := G.ex
  refine ⟨len, fun A outer s H args us vs Q E p hr hot hpin e0 hb r hsp => ?_⟩
  have inK : K.In s.heap := e0.mod.kin.keeps fun b o e => (e0.bs b o e).1
  refine codeAny_call_function hr.depth (inK _ _ lk) rfl Sc.co Sc.gen rfl (PySem.W.codeRec_of inK hcd) (hb _ _ _ _ ?_)
  refine wpAny_newFunctionEnv_cells Sc.kind (fun ⟨n, v⟩ hy => (Sc.par n (List.of_mem_zip hy).1).imp id fun q => ⟨q, PySem.W.cellsFrom_some _ _ _ (.inl q)⟩) fun env he s1 x => ?_
  subst he
  refine ⟨(e0.mod.nolimit.keeps fun b o e => (e0.bs b o e).1).keeps x.toInCall.keep, codeAny_func ?_⟩
  obtain ⟨t, ht, hq⟩ := hbody cdv A outer s H vs Q E p hot (hr.deeper _) hsp
  refine wpAny_mono (ht.run [] s1 (L2.start N vs) H _ (inv_startH Sc hpin e0 (len _ _ _ _ _ hsp) r x) hq) (fun fl s' hs => ?_) fun _ _ hs => hs
  cases fl with
  | ret u =>
    obtain ⟨v, σ', H', J, rv, q⟩ := hs
    exact ⟨v, H', J.os, J.bare, J.base, J.hok, rv, q⟩
  | next =>
    obtain ⟨σ', H', J, q⟩ := hs
    exact ⟨V.non, H', J.os, J.bare, J.base, J.hok, rfl, q⟩
  | brk => exact hs.elim fun _ z => z.elim fun _ z => z.2.elim
  | cont => exact hs.elim fun _ z => z.elim fun _ z => z.2.elim
section
variable {X : Cx} {CX : CXT} {k : Nat} {f : Addr} {fd : FuncData} {ps : List Str} {sp : Addr × Obj → Sp} {E : L2.St → XK} {x : Str} {q pos : Pos} {e : Expr} {es : List Expr} {t : TA} {p : Addr × Obj}
theorem pe_callZ (G : FnZ X.prog X.w X.K X.mg X.base CX k f fd ps sp) (hr : RoomH k X.A) (hp : p ∈ X.pn) (hot : Hot1 X.A p) (hg : Gl X x) (hm : X.mg x = some (.ref f)) (hk : PySem.W.keepIn X.K (.ref f) = true) (hb : L2.Binds X.K fd ps []) (hx : ∀ σ, PassesAt CX X σ (E σ))
    (ha : PA X (e :: es) t) (hdb : (x == ("__debug__" : Str)) = false := by decide) (he : starEach (e :: es) X.env = (false, eval e X.env) :: starEach es X.env := by rfl) (hpl : (backTo pos (starEach es X.env)).any (·.1) = false := by rfl) :
    PE X (.Call (.Name x q) (e :: es) [] pos) (tCallS (sp p) E t) := by
  refine ⟨fun pins s σ H Q I h => ?_⟩
  refine wpAny_Call_Name_kw (ld_glob I hg hm ?_ hdb)
  refine PySem.W.callWith_K (h₀ := X.base) I.ok.mod.kin hk (thn (ha.run pos pins s σ H _ I h) fun us s1 ⟨vs, H1, I1, r, w⟩ => ⟨I1.kIn, ?_⟩) he hpl
  have b := hb s1 us I1.kIn (by rw [List.append_nil, ← r.length]; exact G.len _ _ _ _ _ w)
  rw [List.append_nil] at b
  obtain ⟨g1, g2, g3, g4, g5⟩ := I1.pin p (List.mem_append_left _ hp)
  refine wpAny_call (codeAny_mono (G.run X.A X.stack s1 H1 ⟨us, []⟩ us vs Q (E σ) p hr hot ⟨g1, g2, fun hm => (List.mem_cons.mp (I1.stkSub p.1 hm)).elim g3 g4, g5⟩ I1.env0 b r w) fun r s' hq => ?_)
  cases r with
  | error e => exact hx σ pins H1 s1 e s' I1 hq
  | ok fl =>
    cases fl with
    | ret u => exact I1.after hq
    | next => exact False.elim hq
    | brk => exact False.elim hq
    | cont => exact False.elim hq
/-- isinstance of the exception that is handled -/
theorem call_isP {D : Addr} (hp : p ∈ X.pn) (C : ExcC X.K D) (hz : Zc (.ref D) none p.2) (hf : ∃ vs, p.2.data = .fields vs) : CallR X (.builtin "isinstance") (rIsE X.K D p.1) := by
  intro pins s σ H xs us Q I r h
  obtain ⟨c, cv, b, rfl, hcv, e, w⟩ := h
  obtain ⟨u1, u2, rfl, r1, r2⟩ := vals2 r
  cases r1
  obtain rfl := hcv _ r2
  obtain ⟨hget, _⟩ := I.pin p (List.mem_append_left _ hp)
  have J : PySem.W.InstAt s.heap p.1 p.2 D none := by
    obtain ⟨a, oc, od, oda, osl⟩ := p
    obtain ⟨vs, hv⟩ := hf
    obtain ⟨h1, h2⟩ := hz
    dsimp only at h1 h2 hv hget
    subst h1 h2 hv
    exact ⟨hget, rfl, rfl, trivial⟩
  exact PySem.W.kia_one (PySem.W.handS_kitx_exc C.hg C.hk C.hs C.hd C.ha C.hn C.ht C.hm) I.kIn J e (fun z => nomatch z) fun tk => ⟨.bl b, H, I.kept (t' := tk) fun _ _ z => z, rfl, w⟩
end
end DL
namespace DL
open PySem PySem.Spec PyProof.Rows L2 L2H
section
variable {T : Tp} {X : Cx} {F : Fz} {S : Sto} {H : Hp} {σ : L2.St} {W : WX} {p : Addr × Obj}
/-- isinstance(e, C), e the exception at a -/
def dIsE (a : Addr) (b : Bool) (u : ET) : ET := fun env S Q R => u env S (fun d S1 => d = .obj a ∧ Q (.bl b) S1) R
theorem je_isE {D : Addr} {a : Expr} {ua : ET} {x : Str} {c : V} {cv : Value} {b : Bool} {q q2 pos : Pos} (hp : p ∈ X.pn) (C : ExcC X.K D) (hz : Zc (.ref D) none p.2) (hf : ∃ vs, p.2.data = .fields vs) (hk : PySem.W.kitOne X.K (.ref D) cv = some b) (hc : PE X (.Name x q2) (tC c)) (hcv : ∀ u, RelV c u → u = cv)
    (hm : X.mg "isinstance" = none) (ha : JE T X a ua) (hg : Gl X "isinstance" := by rfl) (hv : bootBuiltins "isinstance" = some (.builtin "isinstance") := by decide +kernel)
    (he : starEach [a, .Name x q2] X.env = (false, eval a X.env) :: starEach [.Name x q2] X.env := by rfl) (hpl : (backTo pos (starEach [.Name x q2] X.env)).any (·.1) = false := by rfl) (hs2 : starEach [.Name x q2] X.env = (false, eval (.Name x q2) X.env) :: starEach [] X.env := by rfl) :
    JE T X (.Call (.Name "isinstance" q) [a, .Name x q2] [] pos) (dIsE p.1 b ua) := by
  refine ⟨fun env S Q Q' R R' hq hR w => ha.mon _ _ _ _ _ _ (fun d S1 ⟨e, w1⟩ => ⟨e, hq _ _ w1⟩) hR w, fun W tk => (pe_callB (call_isP hp C hz hf) hg hm hv (pa_cons (ha.run W tk) (pa_cons hc pa_nil hs2) he) (by decide) (by decide) he hpl).weak ?_⟩
  rintro σ H Q ⟨env, S, F, er, ok, w⟩
  refine ⟨env, S, F, er, ok, ha.mon _ _ _ _ _ _ (fun d S1 w1 v1 H1 F1 ok1 ex1 r1 => ?_) (fun _ _ z => z) w⟩
  obtain ⟨rfl, w1⟩ := w1
  cases r1
  exact ⟨c, cv, b, rfl, hcv, hk, w1 _ H1 F1 ok1 ex1 (.bl _)⟩
end
end DL
namespace DL
open PySem PySem.Spec PyProof.Rows L2 L2H
/-- a def called while the exception p is handled keeps its promise; Z: what is known of p's object -/
def upSpZ (T : Tp) (Z : Obj → Prop) (sp : Addr → DSp) : Addr × Obj → Sp := fun p vs H Q E => Z p.2 ∧ upSp T (sp p.1) vs H Q E
theorem okZ {P : Program} {w : World} {K : PySem.W.Frag} {mg : Str → Option Value} {base : Heap} {x qual : Str} {st : Stmt} {f : Addr} {fd : FuncData} {N ps : List Str} {k : Nat} (T : Tp) (Z : Obj → Prop) (sp : Addr → DSp) (G : Fun K x qual st f fd) (Sc : FnScope N ps (defScope st)) (hn : ∀ a, (sp a).n = ps.length)
    (hbody : ∀ (cdv : Value) (A : Around) (outer : List Env) (s : Shared) (H : Hp) (E : XK) (p : Addr × Obj), Z p.2 → Hot1 A p → RoomH k (A.deeper (envOfC qual (defScope st) s.heap.objs.size f cdv)) →
      ∃ u, JSs T (cxH (L2N.CX P w) P w K mg base N qual (defScope st) f cdv A outer s H E p) (defBody st) u ∧ ∀ ds S Q R, QMono Q → RMono R → ((sp p.1).g S ds).wp S Q R → u (dStart N.length ds) S (endF Q R)) :
    FnZ P w K mg base (L2N.CX P w) (k + 1) f fd ps (upSpZ T Z sp) := by
  refine fn_ofZ G Sc (fun p vs H Q E h => ?_) (fun cdv A outer s H vs Q E p hot hr h => ?_)
  · obtain ⟨_, ds, S, F, r, _, w⟩ := h
    rw [← r.length, (sp p.1).len _ _ _ _ w, hn]
  · obtain ⟨hz, ds, S, F, r, ok, w⟩ := h
    obtain ⟨u, hu, hq⟩ := hbody cdv A outer s H E p hz hot hr
    refine ⟨_, hu.run _ (L2N.takes_of rfl rfl rfl rfl) PassesOwn.leaving, dStart N.length ds, S, F, start_rel r, ok, hu.mon _ _ _ _ ?_ (hq ds S _ _ okK.mono erE.mono w)⟩
    exact ⟨fun env S' h σ' H' F' er ok' ex => h .non H' F' ok' ex .non, fun d S' h => h, fun e env S' h cls da σ' H' F' er ok' ex z => h cls da H' F' ok' ex z, fun _ _ h => h.elim, fun _ _ h => h.elim⟩
end DL

namespace DL
open PySem PySem.Spec PyProof.Rows L2 LamX

/-! ### a lambda without parameters; what it lets out has the context None -/
def lamN (X : Cx) (A : Around) (outer : List Env) (s : Shared) (H : Hp) (E : XK) (scope : Scope) (f c' : Addr) : Cx :=
  (lamCx X A outer s H E scope f c').tr [] fun e s' => wpAny (model X.prog X.w) (A.deeper (lamEnv X scope s.heap.objs.size f c')) (leaving (lamEnv X scope s.heap.objs.size f c') e) (fun _ s'' => L2N.CX X.prog X.w outer H s E e s'') (fun e' s'' => L2N.CX X.prog X.w outer H s E e' s'') s'
theorem takes_lamN {X : Cx} {A : Around} {outer : List Env} {s : Shared} {H : Hp} {E : XK} {scope : Scope} {f c' : Addr} : L2N.Takes (lamN X A outer s H E scope f c') (fun cls d _ H => E cls d H) := L2N.takes_of rfl rfl rfl rfl
section
variable {X : Cx} {pins : List (Addr × Obj)} {σ : L2.St} {H : Hp} {s : Shared}
theorem pe_actN {CXg : CXT} {Eg : XK} {Ng : List Str} {qg : Str} {sg : Scope} {g f c' : Addr} {cdg pm ctv : Value} {params : Arguments} {body : Expr} {scope : Scope} {k i : Nat} {a : Str} {pn : List (Addr × Obj)} {xe : Value → Shared → Prop} {W : WX} {E : XK} {tb : TE} {p1 p2 : Pos}
    (I : Inv X pins σ H s) (L : LamS X.env.scope scope) (hf : s.heap.get? f = some (PySem.W.kla_obj "<lambda>" (X.env.qual ++ "<lambda>") params body scope (cloFrom X.env.cells scope.names []) pm c' ctv)) (hfn : H f = none) (hfr : f ∉ frs X.stack)
    (hbind : bindArgs (PySem.W.kla_fn "<lambda>" (X.env.qual ++ "<lambda>") params body scope (cloFrom X.env.cells scope.names []) pm (.ref c') ctv) ⟨[], []⟩ = pure [])
    (tk : L2N.Takes ((cxOf CXg X.prog X.w X.K X.mg X.base Ng qg sg g cdg X.A X.stack s H Eg).tr pn xe) W) (hW : ∀ cls d σ' H', E cls d H' → W cls d σ' H') (hr : Room (k + 1) (X.A.deeper (envOfC qg sg s.heap.objs.size g cdg)))
    (hbody : ∀ (A : Around) (outer : List Env) (s : Shared) (H : Hp), Room k (A.deeper (lamEnv X scope s.heap.objs.size f c')) → PE (lamN X A outer s H E scope f c') body tb)
    (hN : Ng[i]? = some a) (hv : Vis sg a) (hd : (a == ("__debug__" : Str)) = false := by decide) (hcd : (a == ("__classdict__" : Str)) = false := by decide) :
    PE ((cxOf CXg X.prog X.w X.K X.mg X.base Ng qg sg g cdg X.A X.stack s H Eg).tr pn xe) (.Call (.Name a p1) [] [] p2) (fun σZ HZ Q => σZ[i]? = some (some (.ref f)) ∧ HZ c' = some (CodeO c' (X.env.qual ++ "<lambda>")) ∧ tb σ HZ Q) := by
  refine ⟨fun pinsZ sZ σZ HZ Q IZ ⟨slot, code, ht⟩ => ?_⟩
  refine wpAny_Call_Name_kw (thn ((pe_var (pos := p1) (i := i) hN hv hd hcd).run pinsZ sZ σZ HZ (fun v H1 => v = .ref f ∧ H1 = HZ) IZ ⟨.ref f, slot, rfl, rfl⟩) fun u s1 ⟨v, H1, I1, r1, ev, eH⟩ => ?_)
  subst ev
  rw [eH] at I1
  cases r1
  have at1 := I1.base.keep f _ hf hfn hfr (fun z => nomatch (show f ∈ ([] : List Addr) from z))
  refine PySem.W.callWith_F0 ⟨_, _, _, _, at1⟩ ?_
  obtain ⟨⟨oc, vs, t, hoc, hdc, hvc⟩, _, _⟩ := I1.hok c' _ code
  refine wpAny_call (codeAny_mono (show codeAny (model X.prog X.w) (X.A.deeper (envOfC qg sg s.heap.objs.size g cdg)) (.call (.ref f) ⟨[], []⟩) (CR (L2N.CX X.prog X.w) (envOfC qg sg s.heap.objs.size g cdg :: X.stack) X.prog X.w HZ s1 Q E) s1 from ?_) fun r s' hq => ?_)
  · refine PySem.W.kla_callFunE hr.depth at1 rfl L.co L.gen rfl ⟨c', oc, vs, t, rfl, hoc, hdc, hvc⟩ ?_
    rw [hbind]
    refine wpAny_pure (wpAny_newFunctionEnv (fun y hy => (L.own y hy).2) (fun y hy => absurd hy (by simp)) (fun h₁ hns hsb => ⟨I1.nolimit.fresh _ hsb, ?_⟩) L.kind)
    show codeAny _ _ (.expr body (lamEnv X scope s1.heap.objs.size f c')) _ _
    have J := lam_start2 (A := X.A.deeper (envOfC qg sg s.heap.objs.size g cdg)) (outer := envOfC qg sg s.heap.objs.size g cdg :: X.stack) (E := E) (f := f) (c' := c') (tk := s1.toks + ([] : List (Str × Value)).length) I L I1.env0 hr.hd I1.base hns
      fun b o e => hsb.extBut b o (Nat.ne_of_lt (Heap.lt_size e)) (Heap.get?_push_of_some _ e)
    refine PySem.W.kla_codeExpr (wpAny_mono ((hbody _ _ s1 HZ (hr.deeper _)).run [] _ _ HZ Q (J.toTry _) ht) (fun v s' ⟨w', H', J', rv, q⟩ => ?_) fun e s' hq => hq)
    exact ⟨w', H', J'.os, J'.bare, J'.base, J'.hok, rv, q⟩
  · cases r with
    | error e => exact L2N.passes_call tk hW pinsZ σZ HZ s1 e s' I1 hq
    | ok fl =>
      cases fl with
      | ret u => exact I1.after hq
      | next => exact False.elim hq
      | brk => exact False.elim hq
      | cont => exact False.elim hq
end
end DL

namespace DL
open PySem PySem.Spec PyProof.Rows L2 LamX

/-- the def that is handed the lambda: TT says what it makes of the lambda's reading -/
def GivesN (X : Cx) (Ng : List Str) (x : Str) (sg : Scope) (g : Addr) (cdg : Value) (bg : List Stmt) (a : Str) (q : Str) (k : Nat) (TT : (XK → Hp → VK → Prop) → Hp → VK → Prop) : Prop :=
  ∀ (f c' : Addr) (s : Shared) (H : Hp) (Q : VK) (tl : XK → Hp → VK → Prop), Room k (X.A.deeper (envOfC x sg s.heap.objs.size g cdg)) →
    (∀ (W : WX) (pn : List (Addr × Obj)) (xe : Value → Shared → Prop) (E : XK) (p1 p2 : Pos), L2N.Takes ((cxOf C8.CX0 X.prog X.w X.K X.mg X.base Ng x sg g cdg X.A X.stack s H C8.E0).tr pn xe) W → (∀ cls d σ' H', E cls d H' → W cls d σ' H') →
      PE ((cxOf C8.CX0 X.prog X.w X.K X.mg X.base Ng x sg g cdg X.A X.stack s H C8.E0).tr pn xe) (.Call (.Name a p1) [] [] p2) (fun σZ HZ Q => σZ[0]? = some (some (.ref f)) ∧ HZ c' = some (CodeO c' q) ∧ tl E HZ Q)) →
    H c' = some (CodeO c' q) → TT tl H Q →
    ∃ t, PSs (cxOf C8.CX0 X.prog X.w X.K X.mg X.base Ng x sg g cdg X.A X.stack s H C8.E0).nox bg t ∧ t { nx := fun _ H' => Q .non H', rt := Q } (L2.start Ng [.ref f]) H
section
variable {X : Cx}
/-- x(lambda: body) -/
theorem pe_lamcallN {T : List (Addr × Str)} {TT : (XK → Hp → VK → Prop) → Hp → VK → Prop} {x a : Str} {g c P : Addr} {k : Nat} {pg : Arguments} {bg : List Stmt} {sg : Scope} {dV kV doc pm cdv ct oc : Value} {an od : Option Addr} {osl : Array (Option Value)} {Ng : List Str}
    {params : Arguments} {body : Expr} {scope : Scope} {t : XK → TE} {p lpos pos : Pos} (hg : Gl X x) (hm : X.mg x = some (.ref g)) (hk : PySem.W.keepIn X.K (.ref g) = true)
    (lk : X.K.lookup g = some ⟨oc, od, .func (PySem.W.fnOf x x pg bg sg dV kV doc pm an cdv ct), osl⟩) (hcg : PySem.W.codeIn X.K cdv x = true) (hb : L2.Binds X.K (PySem.W.fnOf x x pg bg sg dV kV doc pm an cdv ct) [a] []) (Sg : FnScope Ng [a] sg) (hNg : Ng[0]? = some a) (hva : Vis sg a)
    (hG : GivesN X Ng x sg g cdv bg a (X.env.qual ++ "<lambda>") (k + 1) TT) (TB : TabB X.base X.mg c P) (hcode : X.env.code = .ref c) (hmT : (P, X.env.qual ++ "<lambda>") ∈ T) (hu : ∀ p ∈ T, p.1 = P → p.2 = X.env.qual ++ "<lambda>")
    (hr : Room (k + 2) X.A) (L : LamS X.env.scope scope) (hdef : defaultsOf params X.env = ([], []))
    (hbind : ∀ (q : Str) (cl : List (Str × Addr)) (pm cv ctv : Value), bindArgs (PySem.W.kla_fn "<lambda>" q params body scope cl pm cv ctv) ⟨[], []⟩ = pure [])
    (hbody : ∀ (A : Around) (outer : List Env) (s : Shared) (H : Hp) (E : XK) (f c' : Addr), Room k (A.deeper (lamEnv X scope s.heap.objs.size f c')) → PE (lamN X A outer s H E scope f c') body (t E))
    (hdb : (x == ("__debug__" : Str)) = false := by decide) (hd : (a == ("__debug__" : Str)) = false := by decide) (hcd : (a == ("__classdict__" : Str)) = false := by decide) :
    PE X (.Call (.Name x p) [.Lambda params body scope lpos] [] pos) (tLam T TT t) := by
  refine ⟨fun pins s σ H Q I ⟨hT, h⟩ => ?_⟩
  refine wpAny_Call_Name_kw (ld_glob I hg hm (PySem.W.callWith_K (h₀ := X.base) I.ok.mod.kin hk ?_ (by rfl) (by rfl)) hdb)
  show wpAny _ _ (spliced ((false, eval (.Lambda params body scope lpos) X.env) :: backTo pos (starEach [] X.env))) _ _ s
  refine Calls.spliced_cons (lam_make2 I TB hcode hmT hu hT hdef (L.has I.ok) fun f c' pm' ctv H1 s' I1 eN T1 hf hfn hfr hco => Calls.spliced_nil ⟨I1.kIn, ?_⟩)
  refine wpAny_call (codeAny_mono (show codeAny (model X.prog X.w) X.A (.call (.ref g) ⟨[.ref f], []⟩) (CR C8.CX0 X.stack X.prog X.w H1 s' Q C8.E0) s' from ?_) fun r s2 hq => ?_)
  · refine run_ofS (N := Ng) (ps := [a]) (us := [.ref f]) (vs := [.ref f]) lk hcg Sg hr I1.env0 (hb s' [.ref f] I1.kIn rfl) (.cons rfl .nil) rfl fun hr' => ?_
    obtain ⟨t', ht', hq'⟩ := hG f c' s' H1 Q (fun E H' Q' => t E σ H' Q') hr' (fun W pn xe E p1 p2 tk hW => pe_actN (i := 0) I1 L hf hfn hfr (hbind _ _ _ _ _) tk hW hr' (fun A outer s H hr2 => hbody A outer s H E f c' hr2) hNg hva hd hcd) hco (h H1 eN T1)
    exact ⟨t', ht'.nox, hq'⟩
  · cases r with
    | error e => exact (show False from hq).elim
    | ok fl =>
      cases fl with
      | ret u => exact I1.after hq
      | next => exact False.elim hq
      | brk => exact False.elim hq
      | cont => exact False.elim hq
end
end DL

namespace DL
open PySem PySem.Spec PyProof.Rows L2 LamX

/-- try: call() / except E as n: return names(n) / return '' -/
def TErr (K : PySem.W.Frag) (CS : Addr) (spl : Addr × Obj → Sp) : (XK → Hp → VK → Prop) → Hp → VK → Prop := fun tl H Q =>
  tl (fun cls d H' => ∃ b, PySem.W.exmOne K cls (.ref CS) = some b ∧ (b = true → ∀ p : Addr × Obj, Zc cls d p.2 → (∃ vs, p.2.data = .fields vs) → H' p.1 = none → spl p [.ref p.1] H' Q (fun _ _ _ => False)) ∧ (b = false → False)) H (fun _ H' => Q (.str "") H')
theorem error_gives {X : Cx} {Ng : List Str} {x a e n ln q : Str} {sg : Scope} {g CS fl : Addr} {fdl : FuncData} {psl : List Str} {spl : Addr × Obj → Sp} {cdg : Value} {j k i : Nat} {p1 p2 p3 p4 p5 p6 p7 p8 p9 p10 p11 p12 : Pos}
    (G : FnZ X.prog X.w X.K X.mg X.base (L2N.CX X.prog X.w) k fl fdl psl spl) (hml : X.mg ln = some (.ref fl)) (hkl : PySem.W.keepIn X.K (.ref fl) = true) (hbl : L2.Binds X.K fdl psl []) (hgl : sg.names.lookup ln = some .globalImplicit) (hdl : (ln == ("__debug__" : Str)) = false)
    (hge : sg.names.lookup e = some .globalImplicit) (hme : X.mg e = some (.ref CS)) (hde : (e == ("__debug__" : Str)) = false) (hNn : Ng.Nodup) (hn : Ng[i]? = some n) (hnl : sg.names.lookup n = some .local) (hdn : (n == ("__debug__" : Str)) = false) (hcn : (n == ("__classdict__" : Str)) = false)
    (h0 : ∀ f : Addr, (L2.start Ng [V.ref f])[0]? = some (some (V.ref f))) (hi : i < Ng.length) :
    GivesN X Ng x sg g cdg [.Try [.Expr (.Call (.Name a p1) [] [] p2) p3] [.ExceptHandler (some (.Name e p4)) (some n) [.Return (some (.Call (.Name ln p5) [.Name n p6] [] p7)) p8] p9] [] [] p10, .Return (some (.Constant (.str "") j p11)) p12] a q k (TErr X.K CS spl) := by
  intro f c' s H Q tl hr act hc h
  refine ⟨_, pss_cons (L2N.ps_try_as (X := (cxOf C8.CX0 X.prog X.w X.K X.mg X.base Ng x sg g cdg X.A X.stack s H C8.E0).nox) (c := .ref CS) (i := i)
      (tb := fun W D σ H => ∃ Ech : XK, (∀ cls d σ' H', Ech cls d H' → W cls d σ' H') ∧ σ[0]? = some (some (.ref f)) ∧ H c' = some (CodeO c' q) ∧ tl Ech H fun _ H' => D.nx σ H')
      (ts := fun a cls d D σ H => ∀ p : Addr × Obj, p.1 = a → Zc cls d p.2 → (∃ vs, p.2.data = .fields vs) → σ.length = Ng.length → tRet (tCallS (spl p) (fun _ _ _ _ => False) (tCons (tVar i) tNil)) D σ H)
      rfl rfl hNn hn hnl ⟨hge, hde, .inl hme⟩ takesN (fun W pn xe tk _ => ⟨fun pins s' σ H' D I ⟨Ech, hW, h1, h2, h3⟩ => ?_⟩)
      (fun a oe cls d pn hz hf => pss_one ⟨fun pinsS sS σS HS DS IS hS => (ps_ret (pe_callZ (X := Cx.suite (cxOf C8.CX0 X.prog X.w X.K X.mg X.base Ng x sg g cdg X.A X.stack s H C8.E0).nox a ((a, oe) :: pn)) (E := fun _ _ _ _ => False) (p := (a, oe)) G ⟨hr.dp, hr.un⟩ List.mem_cons_self ⟨rfl, hf.elim fun vs e => ⟨vs, e, hz.2.2 vs e⟩⟩ hgl hml hkl hbl (fun σ pins H s e s' I z => ?_) (pa_cons (pe_var hn (.inl hnl) hdn hcn) pa_nil) hdl)).run pinsS sS σS HS DS IS (hS (a, oe) rfl hz.zc hf IS.len)⟩)) (pss_one (ps_ret pe_str)), ?_⟩
  · exact (pss_one (ps_expr (pos := p3) (act W pn xe Ech p1 p2 tk hW))).run pins s' σ H' D I ⟨h1, h2, h3⟩
  · exact z.elim fun _ z => z.elim fun _ z => z.elim fun _ z => z.elim fun _ z => z.elim fun _ z => z.2.2.2.2.2.2.2.elim
  · refine ⟨fun cls d H' => _, fun cls d σ' H' ⟨b, e1, e2, e3⟩ => ⟨b, e1, fun hb a na p ep hz hf hl => ?_, fun hb => e3 hb⟩, h0 f, hc, h⟩
    subst ep
    refine ⟨.ref p.1, ?_, e2 hb p hz hf na⟩
    rw [List.getElem?_set_self (by rw [List.length_set] at hl; exact hl.symm ▸ hi)]
end DL

namespace DL
open PySem PySem.Spec PyProof.Rows L2 L2H LamX

/-! ### x(lambda: body), x the law's own catcher: the names of the error, or "" -/
def labelOf : Nat → List Nat
  | 1 => [115, 116, 97, 110, 100, 115]
  | 2 => [119, 111, 114, 100]
  | 3 => [110, 117, 109, 98, 101, 114]
  | 4 => [98, 111, 111, 107]
  | 5 => [119, 101, 105, 103, 104, 116, 115]
  | 6 => [105, 110, 100, 101, 120]
  | 7 => [112, 114, 105, 99, 101, 115]
  | 8 => [99, 101, 108, 108]
  | 9 => [116, 101, 120, 116]
  | 10 => [117, 110, 108, 105, 107, 101]
  | 11 => [101, 109, 112, 116, 121]
  | 12 => [117, 110, 100, 111]
  | 13 => [109, 97, 110, 121]
  | _ => []
/-- "stands value" and so on -/
def nmOf (i : Nat) : List Nat := labelOf i ++ [32, 118, 97, 108, 117, 101]
def spN (i : Nat) (a : Addr) : DSp := sp1 fun _ d => match d with
  | .obj b => .pre (b = a) (.ret (.str (nmOf i)))
  | _ => .no
/-- what is known of an exception of class i that is handled -/
def Zi (T : Tp) (i : Nat) : Obj → Prop := fun o => Zc (T.cl i) none o ∧ ∃ vs, o.data = .fields vs
/-- the catcher's helper, for the classes ids -/
def splN (T : Tp) (ids : List Nat) : Addr × Obj → Sp := fun p vs H Q E => ∃ i, i ∈ ids ∧ upSpZ T (Zi T i) (spN i) p vs H Q E
theorem fnz_any {P : Program} {w : World} {K : PySem.W.Frag} {mg : Str → Option Value} {base : Heap} {CX : CXT} {k : Nat} {f : Addr} {fd : FuncData} {ps : List Str} {ι : Type} {ok : ι → Prop} {sp : ι → Addr × Obj → Sp} (h : ∀ i, ok i → FnZ P w K mg base CX k f fd ps (sp i)) :
    FnZ P w K mg base CX k f fd ps (fun p vs H Q E => ∃ i, ok i ∧ sp i p vs H Q E) :=
  ⟨fun p vs H Q E ⟨i, o, z⟩ => (h i o).len p vs H Q E z, fun A outer s H args us vs Q E p hr hot pin e0 hb r ⟨i, o, z⟩ => (h i o).run A outer s H args us vs Q E p hr hot pin e0 hb r z⟩
def dErr (ids : List Nat) (te : ET) : ET := fun env S Q R => te env S (fun _ S1 => Q (.str []) S1) (fun e S1 => (e.id ∈ ids ∧ e.arg = none) ∧ Q (.str (nmOf e.id)) S1)
theorem mon_Err {ids : List Nat} {te : ET} (h : Mon te) : Mon (dErr ids te) := fun env S Q Q' R R' hq hR w => h _ _ _ _ _ _ (fun d S1 w1 => hq _ _ w1) (fun e S1 w1 => ⟨w1.1, hq _ _ w1.2⟩) w
theorem sOk_nm : ∀ i : Nat, sOk (nmOf i) := fun i => by
  unfold nmOf labelOf
  split <;> exact ⟨by decide, by decide⟩
section
variable {T : Tp} {X : Cx} {F : Fz} {S : Sto} {H H1 : Hp} {σ : L2.St} {W : WX}
/-- a lambda was made -/
theorem Ok.extN (ok : Ok T F S H) (e : ExtN H H1) (t : Tabs T.tabs H1) : Ok T F S H1 ∧ Ext F S H F S H1 := by
  have x : Ext F S H F S H1 := ⟨fun a o h n _ => e a o h n, fun _ _ _ _ z => z, fun _ _ _ _ _ f => f, fun _ h => h, rfl⟩
  refine ⟨⟨ok.cv, fun a f => ?_, fun a m q => ?_, t⟩, x⟩
  · obtain ⟨z, o, h, n⟩ := ok.fz a f
    exact ⟨z, o, e a o h n, n⟩
  · have k := ok.st a m q
    cases m with
    | drum => obtain ⟨g, n, h1, h2⟩ := k; exact ⟨g, n, e _ _ h1 (fun _ z => by cases z), h2⟩
    | lst ds => obtain ⟨xs, h1, h2, h3⟩ := k; exact ⟨xs, e _ _ h1 (fun _ z => by cases z), RepL.ext ok x ds xs h2, h3⟩
theorem je_lam {CS : Addr} {ids : List Nat} {te : ET} {x a : Str} {g c P : Addr} {k : Nat} {pg : Arguments} {bg : List Stmt} {sg : Scope} {dV kV doc pm cdv ct oc : Value} {an od : Option Addr} {osl : Array (Option Value)} {Ng : List Str}
    {params : Arguments} {body : Expr} {scope : Scope} {p lpos pos : Pos} (hcl : ∀ i, i ∈ ids → PySem.W.exmOne X.K (T.cl i) (.ref CS) = some true) (hm : X.mg x = some (.ref g)) (hk : PySem.W.keepIn X.K (.ref g) = true)
    (lk : X.K.lookup g = some ⟨oc, od, .func (PySem.W.fnOf x x pg bg sg dV kV doc pm an cdv ct), osl⟩) (hcg : PySem.W.codeIn X.K cdv x = true) (hb : L2.Binds X.K (PySem.W.fnOf x x pg bg sg dV kV doc pm an cdv ct) [a] []) (Sg : FnScope Ng [a] sg) (hNg : Ng[0]? = some a) (hva : Vis sg a)
    (hG : GivesN X Ng x sg g cdv bg a (X.env.qual ++ "<lambda>") (k + 1) (TErr X.K CS (splN T ids))) (TB : TabB X.base X.mg c P) (hcode : X.env.code = .ref c) (hmT : (P, X.env.qual ++ "<lambda>") ∈ T.tabs) (hu : ∀ p ∈ T.tabs, p.1 = P → p.2 = X.env.qual ++ "<lambda>")
    (hr : Room (k + 2) X.A) (L : LamS X.env.scope scope) (hdef : defaultsOf params X.env = ([], []))
    (hbind : ∀ (q : Str) (cl : List (Str × Addr)) (pm cv ctv : Value), bindArgs (PySem.W.kla_fn "<lambda>" q params body scope cl pm cv ctv) ⟨[], []⟩ = pure [])
    (hbody : ∀ (A : Around) (outer : List Env) (s : Shared) (H : Hp) (E : XK) (f c' : Addr), Room k (A.deeper (lamEnv X scope s.heap.objs.size f c')) → JE T (lamN X A outer s H E scope f c') body te)
    (hg : Gl X x := by rfl) (hdb : (x == ("__debug__" : Str)) = false := by decide) (hd : (a == ("__debug__" : Str)) = false := by decide) (hcd : (a == ("__classdict__" : Str)) = false := by decide) :
    JE T X (.Call (.Name x p) [.Lambda params body scope lpos] [] pos) (dErr ids te) := by
  have hmon : Mon te := (hbody X.A [] {} (fun _ => none) (fun _ _ _ => False) 0 0 ((hr.mono (Nat.succ_le_succ (Nat.le_succ k))).deeper _)).mon
  refine ⟨mon_Err hmon, fun W tk => (pe_lamcallN (T := T.tabs) (TT := TErr X.K CS (splN T ids)) (t := fun E => up T (fun cls d _ H => E cls d H) te) hg hm hk lk hcg hb Sg hNg hva hG TB hcode hmT hu hr L hdef hbind (fun A outer s H E f c' hr' => (hbody A outer s H E f c' hr').run _ takes_lamN) hdb hd hcd).weak ?_⟩
  rintro σ H Q ⟨env, S, F, er, ok, w⟩
  refine ⟨ok.tb, fun H1 eN T1 => ?_⟩
  obtain ⟨ok1, x1⟩ := ok.extN eN T1
  refine ⟨env, S, F, er.ext ok x1, ok1, hmon _ _ _ _ _ _ (fun d S2 w2 v H2 F2 ok2 x2 r2 => ?_) (fun e S2 w2 cls da H2 F2 ok2 x2 z => ?_) w⟩
  · exact w2 _ H2 F2 ok2 (x1.trans x2) (.str ⟨(fun _ z => by cases z), Nat.zero_le _⟩)
  · obtain ⟨⟨hi, ha⟩, w2⟩ := w2
    obtain ⟨hcls, hda⟩ := z
    rw [ha] at hda
    have hda : da = none := hda
    subst hda
    refine ⟨true, by rw [hcls]; exact hcl _ hi, fun _ p hz hf hn => ⟨e.id, hi, ⟨by rw [← hcls]; exact hz, hf⟩, [.obj p.1], S2, F2, .cons (.obj _) .nil, ok2, rfl, fun v H3 F3 ok3 x3 r3 => w2 v H3 F3 ok3 ((x1.trans x2).trans x3) r3⟩, fun z => by cases z⟩
end
end DL

namespace DL
open PySem PySem.Spec PyProof.Rows L2 LamX
/-- a def whose code object is known -/
def FunL (K : PySem.W.Frag) (x : Str) (st : Stmt) (f : Addr) (fd : FuncData) (c : Addr) : Prop :=
  Fun K x x st f fd ∧ fd.code = .ref c
def lamq (x : Str) : Str := (x ++ ".<locals>.") ++ "<lambda>"
/-- okD, with the code object at hand -/
theorem okDL {P : Program} {w : World} {K : PySem.W.Frag} {mg : Str → Option Value} {base : Heap} {x : Str} {st : Stmt} {f c : Addr} {fd : FuncData} {N ps : List Str} {k : Nat} (T : Tp) (sp : DSp) (G : FunL K x st f fd c) (Sc : FnScope N ps (defScope st)) (hn : sp.n = ps.length)
    (hbody : ∀ (A : Around) (outer : List Env) (s : Shared) (H : Hp) (E : XK), Room k (A.deeper (envOfC x (defScope st) s.heap.objs.size f (.ref c))) →
      ∃ u, JSs T (cxOf (L2N.CX P w) P w K mg base N x (defScope st) f (.ref c) A outer s H E) (defBody st) u ∧ ∀ ds S Q R, QMono Q → RMono R → (sp.g S ds).wp S Q R → u (dStart N.length ds) S (endF Q R)) :
    FnOk P w K mg base (L2N.CX P w) (k + 1) f fd ps (upSp T sp) := by
  obtain ⟨G, hc⟩ := G
  obtain ⟨oc, od, kV, doc, pm, an, cdv0, ct, osl, rfl, lk, hcd⟩ := G.ex
  have hc : cdv0 = .ref c := hc
  subst hc
  refine fn_of lk hcd Sc (fun vs H Q E ⟨ds, S, F, r, _, w⟩ => by rw [← r.length, sp.len _ _ _ _ w, hn]) (fun A outer s H vs Q E hr ⟨ds, S, F, r, ok, w⟩ => ?_)
  obtain ⟨u, hu, hq⟩ := hbody A outer s H E hr
  refine ⟨_, hu.run _ (L2N.takes_of rfl rfl rfl rfl) PassesOwn.leaving, dStart N.length ds, S, F, start_rel r, ok, hu.mon _ _ _ _ ?_ (hq ds S _ _ okK.mono erE.mono w)⟩
  exact ⟨fun env S' h σ' H' F' er ok' ex => h .non H' F' ok' ex .non, fun d S' h => h, fun e env S' h cls da σ' H' F' er ok' ex z => h cls da H' F' ok' ex z, fun _ _ h => h.elim, fun _ _ h => h.elim⟩
/-- the end, with tables of code objects -/
theorem walk_LT {l : PySem.W.OpenLaw} {n k : Nat} {q : Program} {loose : List Str} {XP : (Str → Option Value) → Heap → Prop} {YP : World → Heap → Prop} {d : DefRec} {K : Params → PySem.W.Frag} {α : Type} {sp : DSp} {x : Str} (tpf : PySem.W.Frag → α → Tp)
    (hn : l.most = some n) (hn2 : n ≤ sizeLine) (hdf : d.params.defaults = []) (hr : Room k callerA) (hY : ∀ (w : World) (h : Heap), YP w h → (K w.params).In h)
    (F : ∀ (w : World) (mg mb : Str → Option Value) (lw : List Str) (mean : ExcName → Option Value) (fa : Addr) (h : Heap), PyProof.Rows.Top q lw mean mg mb h → (K w.params).In h → h.Ns mainGlobals mg → mg d.name = some (.ref fa) → XP mg h →
      ∃ (a : α) (fd : FuncData) (cs : List (Addr × Addr)), (∀ p ∈ cs, PySem.W.CodeHd h p.1 p.2 ∧ h.get? p.2 = some { cls := .none, data := .fields #[] }) ∧ (∀ p ∈ cs, (K w.params).lookup p.2 = none) ∧ (∀ p ∈ (tpf (K w.params) a).tabs, p.1 ∈ cs.map (·.2)) ∧
        (∀ (s : Shared) (u : Value), BindsTo s fd ⟨[u], []⟩ [(x, u)]) ∧ ∀ base : Heap, (K w.params).In base → base.Ns mainGlobals mg → (∀ p ∈ cs, TabB base mg p.1 p.2) → FnOk l.prog w (K w.params) mg base (L2N.CX l.prog w) k fa fd [x] (upSp (tpf (K w.params) a) sp))
    (hT : ∀ K a, (tpf K a).cv.sc = inK K) (hsp : ∀ (ns : List Int) (Q : DK) (R : RK), ns.length ≤ n → (∀ S, Q (.bl true) S) → (sp.g (fun _ => none) [.scr ns]).wp (fun _ => none) Q R) :
    PySem.W.WalkO q loose XP YP l.row.toRowW d [] (fun f vs => PySem.call f vs) := by
  refine Att.attach_callB hn hdf fun w s₀ s₁ mg mb fa o pm cd doc a vs ns G Y ho hd hcd hmg hobj hints hlen hbits hg => ?_
  have KX := hY w _ Y
  obtain ⟨al, fd, cs, hC, nT, hm, hb, hF⟩ := F w mg mb _ _ fa _ G.T KX G.T.g hmg G.X
  have hlen2 : ns.length ≤ 16777216 := by have := hn2; rw [sizeLine_eq] at this; omega
  refine law_callTs KX G.T.g G.T.b G.T.builtins G.T.nolimit hg (fun p hp => (hC p hp).2) nT (fun p hp => (hC p hp).1) G.T.bmain hobj hints (Nat.le_trans hlen hn2) hr hF hb (fun H hH hS => ?_) fun H e s' => ?_
  · have tb : Tabs (tpf (K w.params) al).tabs H := fun p hp => by
      obtain ⟨c, hc, e⟩ := List.mem_map.mp (hm p hp)
      exact TabS.nil (by rw [← e]; exact hH c hc)
    have fin : ∀ (P : Addr → Prop), (∀ a, P a → ∃ o, H a = some o ∧ ∀ ps, o ≠ .tbl ps) → Rep ⟨P, (tpf (K w.params) al).cv⟩ H (.scr ns) (.ref a) → upSp (tpf (K w.params) al) sp [.ref a] H (fun v _ => v = .bl true) fun _ _ _ => False := fun P hP r =>
      ⟨[.scr ns], fun _ => none, ⟨P, (tpf (K w.params) al).cv⟩, .cons r .nil, ⟨rfl, fun b hb => ⟨rfl, hP b hb⟩, (fun b m e => by cases e), tb⟩, hsp ns _ _ hlen fun S v H' F' _ _ r' => by cases r'; rfl⟩
    rcases hS with hS | ⟨o', its, m, hk, hc, hdd, hs, hz, rv⟩
    · refine fin (fun b => b = a) (fun b hb => ?_) (.scr rfl hS hlen2)
      subst hb
      rcases hS with hS | ⟨ob, hS⟩
      · exact ⟨_, hS, fun ps q => by cases q⟩
      · exact ⟨_, hS, fun ps q => by cases q⟩
    · have e := KX a o' hk
      rw [hobj] at e
      cases e
      refine fin (fun _ => False) (fun b hb => hb.elim) (.scK ?_ hlen2)
      show (tpf (K w.params) al).cv.sc a ns
      rw [hT]
      exact ⟨vs, hk, vals_ints hints⟩
  · rintro ⟨_, _, _, _, _, _, _, _, _, _, _, _, hE⟩
    exact hE.elim
/-- a def of the top that makes lambdas -/
def FnEL (K : PySem.W.Frag) (mg : Str → Option Value) (x : Str) (st : Stmt) (ps : List Str) (a c : Addr) : Prop := ∃ fd : FuncData, mg x = some (.ref a) ∧ FunL K x st a fd c ∧ L2.Binds K fd ps []
theorem bb_VE : bootBuiltins "ValueError" = some (.type "ValueError") := by decide +kernel
theorem mon_gT2 {i j : Nat} : ∀ d env S (Q Q' : DEnv → Sto → Prop), (∀ e S, Q e S → Q' e S) → gT 2 (gsC (gN i) (gsC (gN j) gsN)) d env S Q → gT 2 (gsC (gN i) (gsC (gN j) gsN)) d env S Q' := fun d env S Q Q' h w => by
  cases d with
  | tup ds =>
    obtain ⟨hl, w⟩ := w
    refine ⟨hl, ?_⟩
    match ds, w with
    | [], w => exact w
    | [_], w => exact w
    | [_, _], w => exact h _ _ w
    | _ :: _ :: _ :: _, w => exact w
  | _ => exact w
/-- a for loop over the values of a list of plain things, by what holds ahead of each turn -/
theorem for_scan {α : Type} {g : GT} {b : DS} {D0 : DEnds} (p : α → D) (J : List α → DEnv → Sto → Prop) {l : List α}
    (turn : ∀ a r env S, a ∈ l → J (a :: r) env S → ∀ K : DEnv → Sto → Prop, (∀ e2 S2, J r e2 S2 → K e2 S2) → g (p a) env S fun e1 S1 => b e1 S1 (D0.loop K))
    (done : ∀ env S, J [] env S → D0.nx env S) {env : DEnv} {S : Sto} (j : J l env S) : forGo g b (l.map p) env S D0 := by
  have go : ∀ (r : List α) (env : DEnv) (S : Sto), (∀ x ∈ r, x ∈ l) → J r env S → forGo g b (r.map p) env S D0 := by
    intro r
    induction r with
    | nil => exact fun env S _ j => done env S j
    | cons a r ih => exact fun env S h j => turn a r env S (h a List.mem_cons_self) j _ fun e2 S2 j2 => ih e2 S2 (fun x hx => h x (List.mem_cons_of_mem _ hx)) j2
  exact go l env S (fun _ h => h) j
/-- a def's code object and its table, by what the top has written -/
theorem tab_in {K : PySem.W.Frag} {x : Str} {f c P : Addr} {oc oc2 : Value} {od od2 : Option Addr} {sl sl2 : Array (Option Value)} {fd : FuncData} {q : Str} {pa : Arguments} {bo : List Stmt} {sc : Scope} {dV kV doc pm ct : Value} {an : Option Addr} {vs : Array Value}
    (h1 : PySem.W.nsIn K mainGlobals x = some (some (.ref f))) (h2 : K.lookup f = some ⟨oc, od, .func (PySem.W.fnOf x q pa bo sc dV kV doc pm an (.ref c) ct), sl⟩) (h3 : K.lookup c = some ⟨oc2, od2, .fields vs, sl2⟩) (h4 : vs[11]? = some (.ref P)) : PySem.W.tabIn K x = some (c, P) := by
  have e : (PySem.W.fnOf x q pa bo sc dV kV doc pm an (.ref c) ct).code = .ref c := rfl
  unfold PySem.W.tabIn
  rw [h1]
  dsimp only
  rw [h2]
  dsimp only
  rw [h3]
  dsimp only
  rw [h4]
end DL

namespace DL
open PySem PySem.Spec PyProof.Rows L2 LamX
/-- a def's code object and its table, by what the top has written -/
theorem tab_in2 {K : PySem.W.Frag} {x : Str} {f c P : Addr} {oc oc2 : Value} {od od2 : Option Addr} {sl sl2 : Array (Option Value)} {q : Str} {pa : Arguments} {bo : List Stmt} {sc : Scope} {dV kV doc pm ct : Value} {an : Option Addr} {vs : Array Value}
    (h1 : PySem.W.nsIn K mainGlobals x = some (some (.ref f))) (h2 : K.lookup f = some ⟨oc, od, .func (PySem.W.fnOf x q pa bo sc dV kV doc pm an (.ref c) ct), sl⟩) (h3 : K.lookup c = some ⟨oc2, od2, .fields vs, sl2⟩) (h4 : vs[11]? = some (.ref P)) : PySem.W.tabIn K x = some (c, P) := by
  have e : (PySem.W.fnOf x q pa bo sc dV kV doc pm an (.ref c) ct).code = .ref c := rfl
  unfold PySem.W.tabIn
  rw [h1]
  dsimp only
  rw [h2]
  dsimp only
  rw [h3]
  dsimp only
  rw [h4]
end DL

namespace DL
open PySem PySem.Spec PyProof.Rows L2

/-! ### enumerate of a list, a tuple, a text -/
def Ize (K : PySem.W.Frag) (k : SK) : It :=
  ⟨fun i H => ∃ xs x, k.has K H xs ∧ xs[i]? = some x,
   fun i H v H' => ∃ T x, v = .ref T ∧ H T = none ∧ H' = upd H T (.tup [.int (i : Nat), x]) ∧ ∀ xs, k.has K H xs → xs[i]? = some x,
   fun i H => ∃ xs, k.has K H xs ∧ i = xs.length⟩
theorem ne_enum {k : SK} {N : Nat} (h : k.low N) : (N + 1 : Nat) ∉ k.fp N := fun hm => by
  obtain ⟨r, e, l⟩ := fp_low h N
  rw [e] at hm
  rcases List.mem_cons.mp hm with z | z
  · exact absurd z (Nat.succ_ne_self N)
  · exact absurd (l _ z) (Nat.not_lt.mpr (Nat.le_succ N))
theorem turn_ee {P : Program} {w : World} {K : PySem.W.Frag} {elts : List Expr} {kk : Nat} {tpos : Pos} (N : Nat) (k : SK) (lo : k.low N) :
    Turn P w K (.Tuple elts kk tpos) (Ize K k) [N + 1, N] (N + 1) (fun i h => (∃ old, IsEnum h (N + 1) N (i : Nat) old) ∧ k.itr N i h) where
  mem := List.mem_cons_self
  obj := fun i h st c hc => by
    obtain ⟨⟨old, he⟩, h1⟩ := st
    rcases List.mem_cons.mp hc with q | q
    · rw [q]; exact ⟨_, he, fun v q => nomatch q⟩
    · rw [List.mem_singleton.mp q]; exact SK.itr_obj h1
  keep := fun i h h' st kp => by
    obtain ⟨⟨old, he⟩, h1⟩ := st
    exact ⟨⟨old, kp _ List.mem_cons_self _ he⟩, SK.itr_at h1 fun o q => kp _ (List.mem_cons_of_mem _ List.mem_cons_self) o q⟩
  item := by
    intro X hP hw hK hc i pins s σ H E I hf st hg
    subst hP hw hK
    obtain ⟨⟨old, he⟩, h1⟩ := st
    obtain ⟨xs, x, hq, hx⟩ := hg
    obtain ⟨P1, S1, D1, a1, b1, c1⟩ := SK.draw (it := N) I hc hq lo (Nat.le_refl _)
    have hl : i < xs.length := (List.getElem?_eq_some_iff.mp hx).1
    have hel : (N + 1 : Nat) < s.heap.objs.size := Heap.lt_size he
    refine wpAny_pyNext_enum_itemD D1 he (a1 i h1) hl (Nat.succ_ne_self N) (ne_enum lo) fun v h' tk p1 he' s1' hT hsz hk => ?_
    obtain ⟨x', ex, rx⟩ := c1 i v p1
    obtain rfl : x' = x := Option.some.inj (ex.symm.trans hx)
    refine ⟨_, rfl, wpAny_letOwnedTupleGo_enum (s := { s with heap := h', toks := tk + 1 }) he' fun h'' he'' sb => ?_⟩
    have hT2 := (sb.2 _ (Nat.ne_of_gt hel)).trans hT
    have new : ObjOk X.prog X.w (upd H s.heap.objs.size (.tup [.int (i : Nat), x'])) h'' s.heap.objs.size (.tup [.int (i : Nat), x']) :=
      ⟨by show 2 ≤ sizeLine; decide, [.int (i : Nat) tk, v], .cons ⟨tk, rfl⟩ (.cons rx .nil), ⟨_, hT2, rfl, _, rfl⟩⟩
    have I1 := I.turnedNew (t' := tk + 1) (ch := [N + 1, N]) (h' := h'') (fun c o hb q => (sb.2 c fun z => hb (by rw [z]; exact List.mem_cons_self)).trans (hk c o (fun z => hb (by rw [z]; exact List.mem_cons_self)) (fun z => hb (by rw [z]; exact List.mem_cons_of_mem _ List.mem_cons_self)) q)) hf (Nat.le_refl _) new
    refine ⟨.ref s.heap.objs.size, _, I1, rfl, ⟨_, x', rfl, I.hok.fresh (Nat.le_refl _), rfl, fun l hl => by rw [SK.inj I hl hq]; exact hx⟩, ⟨⟨_, he''⟩, SK.itr_at (b1 _ _ s1') fun o q => (sb.2 _ (Ne.symm (Nat.succ_ne_self N))).trans q⟩, fun c hcm => ?_⟩
    have hle : (c : Nat) ≤ N + 1 := by
      rcases List.mem_cons.mp hcm with z | z
      · rw [z]; exact Nat.le_refl _
      · rw [List.mem_singleton.mp z]; exact Nat.le_succ N
    rw [upd_ne (Nat.ne_of_lt (Nat.lt_of_le_of_lt hle hel))]
    exact (hf c hcm).1
  done := by
    intro X hP hw hK hc i pins s σ H E I hf st hg
    subst hP hw hK
    obtain ⟨⟨old, he⟩, h1⟩ := st
    obtain ⟨xs, hq, hi⟩ := hg
    subst hi
    obtain ⟨P1, S1, D1, a1, b1, c1⟩ := SK.draw (it := N) I hc hq lo (Nat.le_refl _)
    exact wpAny_pyNext_enum_endD D1 he (a1 _ h1) fun h' hk => ⟨rfl, I.turnedL (t' := s.toks) (ch := [N + 1, N]) (fun c o hb q => hk c o (fun z => hb (by rw [z]; exact List.mem_cons_of_mem _ List.mem_cons_self)) q) hf⟩
  self := fun A i s Q E st h => let ⟨⟨_, he⟩, _⟩ := st; wpAny_pyIter_enum he h
set_option maxHeartbeats 1000000 in
/-- the making of one, of one argument -/
theorem made_enum {v : Value} {o : Obj} {Hb : Heap → Prop} (B : Begins v o Hb) :
    Meets (Builtin.«enumerate.__new__» ⟨[.type "enumerate", v], []⟩) (fun _ R s => Hb s.heap ∧
      R (.ok (.ret (.ref (s.heap.push o).objs.size))) { s with heap := (s.heap.push o).push { cls := .type "enumerate", data := .fields #[.none, .bool false, .ref s.heap.objs.size, rawInt 0, .none, .none] } }) :=
  .of_wp fun prog w A R s hh => by
    obtain ⟨hp, g, d, tk, os⟩ := s
    obtain ⟨hb, hh⟩ := hh
    have sub := sub_enumerate
    have it : ∀ {A' : Around} {E Q : Value → Shared → Prop}, Q (.ref hp.objs.size) ⟨hp.push o, g, d, tk, os⟩ → wpAny (model prog w) A' (pyIter v) Q E ⟨hp, g, d, tk, os⟩ := fun q => B.iter prog w _ _ ⟨hp, g, d, tk, os⟩ _ hb q
    wp_walk using it
    refine wpAny_stack_any fun st => wpAny_pure ?_
    split
    · rename_i c _ _ _ _ _
      cases (c == Value.type "enumerate") <;> (wp_walk using it; exact ⟨_, rfl, hh⟩)
    · wp_walk using it
      exact ⟨_, rfl, hh⟩
theorem enum_of {prog : Program} {w : World} {A : Around} {E : Value → Shared → Prop} {s : Shared} {v : Value} {o : Obj} {Hb : Heap → Prop} {Q : Value → Shared → Prop} (B : Begins v o Hb) (hb : Hb s.heap)
    (h : ∀ h', IsEnum h' (s.heap.objs.size + 1) s.heap.objs.size 0 .none → h'.get? s.heap.objs.size = some o → h'.objs.size = s.heap.objs.size + 2 → (∀ b o, s.heap.get? b = some o → h'.get? b = some o) → Q (.ref (s.heap.objs.size + 1)) { s with heap := h' }) :
    wpAny (model prog w) A (call (.type "enumerate") [v]) Q E s := by
  refine callType_new F.called_enumerate (by decide) (F.typeCall_enumerate_1 _) (F.newCall_enumerate_1 _) (fun obj => F.args_object_init_2 obj _) F.entry_enumerate_new (made_enum B) ⟨hb, ?_⟩
  have sz : (s.heap.push o).objs.size = s.heap.objs.size + 1 := Heap.size_push ..
  have he := Heap.get?_push_size (s.heap.push o) (o := { cls := .type "enumerate", data := .fields #[.none, .bool false, .ref s.heap.objs.size, rawInt 0, .none, .none] }) rfl
  show _ ∧ _
  rw [sz] at he ⊢
  exact ⟨⟨_, he, rfl⟩, h _ he (Heap.get?_push_of_some _ (Heap.get?_push_size _ B.free)) (by rw [Heap.size_push, sz]) fun b o x => Heap.get?_push_of_some _ (Heap.get?_push_of_some _ x)⟩
theorem pi_ee {X : Cx} {e : Expr} {ta : TA} {p pos tpos : Pos} {elts : List Expr} {kk : Nat} (hg : Gl X "enumerate") (hm : X.mg "enumerate" = none) (ha : PA X [e] ta) (hs : starEach [e] X.env = [(false, eval e X.env)] := by rfl) :
    PI X (.Tuple elts kk tpos) (.Call (.Name "enumerate" p) [e] [] pos) (fun σ H R => ta σ H fun vs H1 => ∃ v k xs, vs = [v] ∧ kind X.K H1 v k xs ∧ ∀ k', (∀ K' H' zs, k'.has K' H' zs ↔ k.has K' H' zs) → R (Ize X.K k') H1) := by
  refine ⟨fun pins s σ H R I h => Call_ (ld_blt I hg hm boot_enumerate (PyProof.Rows.callWith_type1 (thn (ha.run pos pins s σ H _ I h) fun us s1 ⟨vs, H1, I1, r1, q1⟩ => ?_) hs rfl))⟩
  obtain ⟨v, k, xs, ex, hk, q⟩ := q1
  subst ex
  obtain ⟨u, rfl, ru⟩ := vals1 r1
  obtain ⟨k', hk', rfl, e1⟩ := kind_val hk ru
  obtain ⟨low1, o1, Hb1, B1, hb1, i1⟩ := begins_of I1 hk'.1
  refine enum_of B1 hb1 fun h' he h1 hsz kp => wpAny_pyIter_enum he ?_
  refine ⟨s1.heap.objs.size + 1, [s1.heap.objs.size + 1, s1.heap.objs.size], _, _, H1, rfl, I1.kept (t' := s1.toks) kp, turn_ee s1.heap.objs.size k' low1, ⟨⟨_, he⟩, i1 _ _ h1⟩, fun c hcm => ?_, q k' e1⟩
  have hle : s1.heap.objs.size ≤ c := by
    rcases List.mem_cons.mp hcm with z | z
    · rw [z]; exact Nat.le_succ _
    · rw [List.mem_singleton.mp z]; exact Nat.le_refl _
  exact I1.fpOk hle (I1.hok.fresh hle)
section
variable {T : Tp} {X : Cx} {F : Fz} {S : Sto} {H : Hp} {σ : L2.St} {W : WX}
def enumL (n : Nat) : List D → List D
  | [] => []
  | d :: r => .tup [.int (n : Nat), d] :: enumL (n + 1) r
theorem enumL_len : ∀ (l : List D) (n : Nat), (enumL n l).length = l.length
  | [], _ => rfl
  | d :: r, n => by rw [enumL, List.length_cons, enumL_len r, List.length_cons]
theorem enumL_get : ∀ (l : List D) (n i : Nat), (enumL n l)[i]? = (l[i]?).map fun d => .tup [.int ((n + i : Nat) : Int), d]
  | [], _, _ => by simp [enumL]
  | d :: r, n, 0 => by simp [enumL]
  | d :: r, n, i + 1 => by
    rw [enumL, List.getElem?_cons_succ, List.getElem?_cons_succ, enumL_get r (n + 1) i, show n + 1 + i = n + (i + 1) by omega]
theorem walkD_ee {K : PySem.W.Frag} {k : SK} {l : List D} {xs : List V} (h1 : ∀ H', Fr F H H' → k.has K H' xs ∧ RepL F H' l xs) (hl : l.length ≤ 16777216) : WalkD F H (Ize K k) (enumL 0 l) := by
  have L1 : l.length = xs.length := (h1 H fun _ _ => rfl).2.length
  refine ⟨by rw [enumL_len]; exact hl, fun i H' hi x => ?_, fun H' x => ⟨xs, (h1 H' x).1, by rw [enumL_len]; exact L1⟩, fun i H' v H'' hi x y => ?_⟩
  · rw [enumL_len] at hi
    exact ⟨xs, xs[i]'(by omega), (h1 H' x).1, by simp [show i < xs.length by omega]⟩
  · obtain ⟨p, x1, rfl, hp, e, q1⟩ := y
    obtain ⟨d1, e1, r1⟩ := (h1 H' x).2.getV (q1 xs (h1 H' x).1)
    exact ⟨.tup [.int (i : Nat), d1], by rw [enumL_get, e1, Nat.zero_add]; rfl, .new rfl hp e (.cons (.int _) (.cons r1 .nil)) (by show (2 : Nat) ≤ 16777216; decide)⟩
def lEnum (t : AT) : LT := fun env S Q R => t env S (fun ds S1 => match ds with
  | [x] => (match itemsOf x with | some l => Q (enumL 0 l) S1 | none => False)
  | _ => False) R
theorem lEnum_inv {ds : List D} {P : List D → Prop} (h : match ds with | [x] => (match itemsOf x with | some l => P (enumL 0 l) | none => False) | _ => False) : ∃ x l, ds = [x] ∧ itemsOf x = some l ∧ P (enumL 0 l) := by
  split at h
  · split at h
    · exact ⟨_, _, rfl, by assumption, h⟩
    · exact h.elim
  · exact h.elim
theorem mon_lEnum {t : AT} (h : MonA t) : MonA (lEnum t) := fun env S Q Q' R R' hq hR w => h _ _ _ _ _ _ (fun ds S1 w1 => by
  obtain ⟨x, l, rfl, e, w2⟩ := lEnum_inv (P := fun z => Q z S1) w1
  show (match itemsOf x with | some l => Q' (enumL 0 l) S1 | none => False)
  rw [e]
  exact hq _ _ w2) hR w
theorem ji_enum {elts : List Expr} {kk : Nat} {a : Expr} {t : AT} {p pos tpos : Pos} (hm : X.mg "enumerate" = none) (ha : JA T X [a] t) (hg : Gl X "enumerate" := by rfl) (hs : starEach [a] X.env = [(false, eval a X.env)] := by rfl) :
    JI T X (.Tuple elts kk tpos) (.Call (.Name "enumerate" p) [a] [] pos) (lEnum t) := by
  refine ⟨mon_lEnum ha.mon, fun W tk => ⟨fun pins s σ H R I ⟨env, S, F, er, ok, w⟩ => ?_⟩⟩
  refine (pi_ee hg hm (ha.run W tk) hs).run pins s σ H R I ⟨env, S, F, er, ok, ha.mon _ _ _ _ _ _ (fun ds S1 w1 vs H1 F1 ok1 ex1 r1 => ?_) (fun _ _ z => z) w⟩
  obtain ⟨x, l, rfl, e, w1⟩ := lEnum_inv (P := fun z => ∀ J H' F', Ok T F' S1 H' → Ext F S H F' S1 H' → WalkD F' H' J z → R J H') w1
  obtain ⟨v1, rfl, q1⟩ := rep1 r1
  obtain ⟨k1, xs, c1, _, z1, f1⟩ := kind_of X.K q1 e
  exact ⟨v1, k1, xs, rfl, c1, fun k' h1 => w1 _ H1 F1 ok1 ex1 (walkD_ee (fun H' x => ⟨(h1 _ _ _).mpr (f1 H' x).1, (f1 H' x).2⟩) z1)⟩
end
end DL

namespace DL
open PySem PySem.Spec PyProof.Rows L2

/-! ### zip of three -/
def Iz3 (K : PySem.W.Frag) (k1 k2 k3 : SK) : It :=
  ⟨fun i H => ∃ xs ys zs x y z, k1.has K H xs ∧ k2.has K H ys ∧ k3.has K H zs ∧ xs[i]? = some x ∧ ys[i]? = some y ∧ zs[i]? = some z,
   fun i H v H' => ∃ T x y z, v = .ref T ∧ H T = none ∧ H' = upd H T (.tup [x, y, z]) ∧ (∀ xs, k1.has K H xs → xs[i]? = some x) ∧ (∀ ys, k2.has K H ys → ys[i]? = some y) ∧ ∀ zs, k3.has K H zs → zs[i]? = some z,
   fun i H => ∃ xs ys zs, k1.has K H xs ∧ k2.has K H ys ∧ k3.has K H zs ∧ i ≤ xs.length ∧ i ≤ ys.length ∧ i ≤ zs.length ∧ (i = xs.length ∨ i = ys.length ∨ i = zs.length)⟩
abbrev fp3z (N : Nat) : List Addr := [N + 5, N + 3, N + 4, N, N + 1, N + 2]
theorem z3_sep {N : Nat} {k1 k2 k3 : SK} (h1 : k1.low N) (h2 : k2.low N) (h3 : k3.low N) : ZipSep3 (N + 5) (N + 3) (N + 4) N (N + 1) (N + 2) (k1.fp N) (k2.fp (N + 1)) (k3.fp (N + 2)) := by
  obtain ⟨r1, e1, l1⟩ := fp_low h1 N
  obtain ⟨r2, e2, l2⟩ := fp_low h2 (N + 1)
  obtain ⟨r3, e3, l3⟩ := fp_low h3 (N + 2)
  rw [e1, e2, e3]
  exact zip_sep3 l1 l2 l3
theorem fp3_mem {N : Nat} {c : Addr} (h : c ∈ fp3z N) : N ≤ c ∧ (c : Nat) ≤ N + 5 := by
  have e : c = N + 5 ∨ c = N + 3 ∨ c = N + 4 ∨ c = N ∨ c = N + 1 ∨ c = N + 2 := by simpa using h
  have go : ∀ j : Nat, j ≤ 5 → c = N + j → N ≤ c ∧ (c : Nat) ≤ N + 5 := fun j hj q => by rw [q]; exact ⟨Nat.le_add_right _ _, Nat.add_le_add_left hj _⟩
  rcases e with q | q | q | q | q | q
  · exact go 5 (by decide) q
  · exact go 3 (by decide) q
  · exact go 4 (by decide) q
  · exact go 0 (by decide) q
  · exact go 1 (by decide) q
  · exact go 2 (by decide) q
theorem turn_z3 {P : Program} {w : World} {K : PySem.W.Frag} {elts : List Expr} {kk : Nat} {tpos : Pos} (N : Nat) (k1 k2 k3 : SK) (l1 : k1.low N) (l2 : k2.low N) (l3 : k3.low N) :
    Turn P w K (.Tuple elts kk tpos) (Iz3 K k1 k2 k3) (fp3z N) (N + 5)
      (fun i h => IsZip h (N + 5) (N + 3) (N + 4) .none ∧ IsTupOf3 h (N + 3) (.ref N) (.ref (N + 1)) (.ref (N + 2)) ∧ (∃ x y z, IsTupOf3 h (N + 4) x y z) ∧ k1.itr N i h ∧ k2.itr (N + 1) i h ∧ k3.itr (N + 2) i h) where
  mem := List.mem_cons_self
  obj := fun i h st c hc => by
    obtain ⟨hz, hTI, ⟨x, y, z, hTO⟩, h1, h2, h3⟩ := st
    have e : c = N + 5 ∨ c = N + 3 ∨ c = N + 4 ∨ c = N ∨ c = N + 1 ∨ c = N + 2 := by simpa using hc
    rcases e with q | q | q | q | q | q <;> rw [q]
    · exact ⟨_, hz, fun v q => nomatch q⟩
    · exact ⟨_, hTI, fun v q => nomatch q⟩
    · exact ⟨_, hTO, fun v q => nomatch q⟩
    · exact SK.itr_obj h1
    · exact SK.itr_obj h2
    · exact SK.itr_obj h3
  keep := fun i h h' st k => by
    obtain ⟨hz, hTI, ⟨x, y, z, hTO⟩, h1, h2, h3⟩ := st
    exact ⟨k _ (by simp) _ hz, k _ (by simp) _ hTI, ⟨x, y, z, k _ (by simp) _ hTO⟩, SK.itr_at h1 fun o q => k _ (by simp) o q, SK.itr_at h2 fun o q => k _ (by simp) o q, SK.itr_at h3 fun o q => k _ (by simp) o q⟩
  item := by
    intro X hP hw hK hc i pins s σ H E I hf st hg
    subst hP hw hK
    obtain ⟨hz, hTI, ⟨x0, y0, z0, hTO⟩, h1, h2, h3⟩ := st
    obtain ⟨xs, ys, zs, x, y, z, hqx, hqy, hqz, hx, hy, hzz⟩ := hg
    obtain ⟨P1, S1, D1, a1, b1, c1⟩ := SK.draw (it := N) I hc hqx l1 (Nat.le_refl _)
    obtain ⟨P2, S2, D2, a2, b2, c2⟩ := SK.draw (it := N + 1) I hc hqy l2 (Nat.le_succ _)
    obtain ⟨P3, S3, D3, a3, b3, c3⟩ := SK.draw (it := N + 2) I hc hqz l3 (Nat.le_add_right _ _)
    have Z := z3_sep l1 l2 l3
    have hzl : (N + 5 : Nat) < s.heap.objs.size := Heap.lt_size hz
    refine wpAny_pyNext_zipD3_item Z D1 D2 D3 hz hTI hTO (a1 i h1) (a2 i h2) (a3 i h3) (List.getElem?_eq_some_iff.mp hx).1 (List.getElem?_eq_some_iff.mp hy).1 (List.getElem?_eq_some_iff.mp hzz).1 fun v1 v2 v3 h' tk p1 p2 p3 z' TO' s1' s2' s3' hT hsz hk => ?_
    obtain ⟨x', ex, rx⟩ := c1 i v1 p1
    obtain ⟨y', ey, ry⟩ := c2 i v2 p2
    obtain ⟨w', ez, rz⟩ := c3 i v3 p3
    obtain rfl : x' = x := Option.some.inj (ex.symm.trans hx)
    obtain rfl : y' = y := Option.some.inj (ey.symm.trans hy)
    obtain rfl : w' = z := Option.some.inj (ez.symm.trans hzz)
    refine ⟨_, rfl, wpAny_letOwnedTupleGo_zip (s := { s with heap := h', toks := tk }) z' fun h'' z'' sb => ?_⟩
    have hT2 := (sb.2 _ (Nat.ne_of_gt hzl)).trans hT
    have new : ObjOk X.prog X.w (upd H s.heap.objs.size (.tup [x', y', w'])) h'' s.heap.objs.size (.tup [x', y', w']) :=
      ⟨by show 3 ≤ sizeLine; decide, [v1, v2, v3], .cons rx (.cons ry (.cons rz .nil)), ⟨_, hT2, rfl, _, rfl⟩⟩
    have I1 := I.turnedNew (t' := tk) (ch := fp3z N) (h' := h'') (fun c o hb q => (sb.2 c (fun q' => hb (by simp [q']))).trans (hk c o (fun q' => hb (by simp [q'])) (fun q' => hb (by simp [q'])) (fun q' => hb (by simp [q'])) (fun q' => hb (by simp [q'])) (fun q' => hb (by simp [q'])) q)) hf (Nat.le_refl _) new
    refine ⟨.ref s.heap.objs.size, _, I1, rfl, ⟨_, x', y', w', rfl, I.hok.fresh (Nat.le_refl _), rfl, fun l hl => by rw [SK.inj I hl hqx]; exact hx, fun l hl => by rw [SK.inj I hl hqy]; exact hy, fun l hl => by rw [SK.inj I hl hqz]; exact hzz⟩, ⟨z'', ?_, ⟨v1, v2, v3, ?_⟩, ?_, ?_, ?_⟩, fun c hcm => ?_⟩
    · exact (sb.2 _ Z.TIz).trans (hk _ _ Z.TIz Z.TITO Z.TIi1 Z.TIi2 Z.TIi3 hTI)
    · exact (sb.2 _ Z.TOz).trans TO'
    · exact SK.itr_at (b1 _ _ s1') fun o q => (sb.2 _ (Ne.symm Z.zi1)).trans q
    · exact SK.itr_at (b2 _ _ s2') fun o q => (sb.2 _ (Ne.symm Z.zi2)).trans q
    · exact SK.itr_at (b3 _ _ s3') fun o q => (sb.2 _ (Ne.symm Z.zi3)).trans q
    · rw [upd_ne (Nat.ne_of_lt (Nat.lt_of_le_of_lt (fp3_mem hcm).2 hzl))]
      exact (hf c hcm).1
  done := by
    intro X hP hw hK hc i pins s σ H E I hf st hg
    subst hP hw hK
    obtain ⟨hz, hTI, ⟨x0, y0, z0, hTO⟩, h1, h2, h3⟩ := st
    obtain ⟨xs, ys, zs, hqx, hqy, hqz, hi1, hi2, hi3, hend⟩ := hg
    obtain ⟨P1, S1, D1, a1, b1, c1⟩ := SK.draw (it := N) I hc hqx l1 (Nat.le_refl _)
    obtain ⟨P2, S2, D2, a2, b2, c2⟩ := SK.draw (it := N + 1) I hc hqy l2 (Nat.le_succ _)
    obtain ⟨P3, S3, D3, a3, b3, c3⟩ := SK.draw (it := N + 2) I hc hqz l3 (Nat.le_add_right _ _)
    exact wpAny_pyNext_zipD3_end (z3_sep l1 l2 l3) D1 D2 D3 hz hTI hTO (a1 i h1) (a2 i h2) (a3 i h3) hi1 hi2 hi3 hend fun h' tk hk => ⟨rfl, I.turnedL (t' := tk) (ch := fp3z N) (fun c o hb q =>
      hk c o (fun q' => hb (by simp [q'])) (fun q' => hb (by simp [q'])) (fun q' => hb (by simp [q'])) (fun q' => hb (by simp [q'])) (fun q' => hb (by simp [q'])) q) hf⟩
  self := fun A i s Q E st h => wpAny_pyIter_zip st.1 h
theorem vals3 {x y z : V} {us : List Value} (r : Vals [x, y, z] us) : ∃ u v w, us = [u, v, w] ∧ RelV x u ∧ RelV y v ∧ RelV z w := by
  cases r with
  | cons r1 r2 =>
    obtain ⟨v, w, rfl, h1, h2⟩ := vals2 r2
    exact ⟨_, v, w, rfl, r1, h1, h2⟩
theorem pi_z3 {X : Cx} {e e2 e3 : Expr} {ta : TA} {p pos tpos : Pos} {elts : List Expr} {kk : Nat} (hg : Gl X "zip") (hm : X.mg "zip" = none) (ha : PA X [e, e2, e3] ta)
    (hs : starEach [e, e2, e3] X.env = (false, eval e X.env) :: starEach [e2, e3] X.env := by rfl) (hpl : (backTo pos (starEach [e2, e3] X.env)).any (·.1) = false := by rfl) :
    PI X (.Tuple elts kk tpos) (.Call (.Name "zip" p) [e, e2, e3] [] pos) (fun σ H R => ta σ H fun vs H1 => ∃ v1 v2 v3 k1 k2 k3 xs ys zs, vs = [v1, v2, v3] ∧ kind X.K H1 v1 k1 xs ∧ kind X.K H1 v2 k2 ys ∧ kind X.K H1 v3 k3 zs ∧
      ∀ k1' k2' k3', (∀ K' H' zs, k1'.has K' H' zs ↔ k1.has K' H' zs) → (∀ K' H' zs, k2'.has K' H' zs ↔ k2.has K' H' zs) → (∀ K' H' zs, k3'.has K' H' zs ↔ k3.has K' H' zs) → R (Iz3 X.K k1' k2' k3') H1) := by
  refine ⟨fun pins s σ H R I h => Call_ (ld_blt I hg hm PyProof.Rows.boot_zip (PyProof.Rows.callWith_type1 (thn (ha.run pos pins s σ H _ I h) fun us s1 ⟨vs, H1, I1, r1, q1⟩ => ?_) hs hpl))⟩
  obtain ⟨v1, v2, v3, k1, k2, k3, xs, ys, zs, ex, hk1, hk2, hk3, q⟩ := q1
  subst ex
  obtain ⟨u1, u2, u3, rfl, ru1, ru2, ru3⟩ := vals3 r1
  obtain ⟨k1', hk1, rfl, e1⟩ := kind_val hk1 ru1
  obtain ⟨k2', hk2, rfl, e2⟩ := kind_val hk2 ru2
  obtain ⟨k3', hk3, rfl, e3⟩ := kind_val hk3 ru3
  obtain ⟨low1, o1, Hb1, B1, hb1, i1⟩ := begins_of I1 hk1.1
  obtain ⟨low2, o2, Hb2, B2, hb2, i2⟩ := begins_of I1 hk2.1
  obtain ⟨low3, o3, Hb3, B3, hb3, i3⟩ := begins_of I1 hk3.1
  refine zip_begins3 B1 B2 B3 hb1 hb2 hb3 fun h' hz hTI hTO h1 h2 h3 hsz hk => wpAny_pyIter_zip hz ?_
  exact ⟨s1.heap.objs.size + 5, fp3z s1.heap.objs.size, _, _, H1, rfl, I1.kept (t' := s1.toks) hk, turn_z3 s1.heap.objs.size k1' k2' k3' low1 low2 low3, ⟨hz, hTI, ⟨_, _, _, hTO⟩, i1 _ _ h1, i2 _ _ h2, i3 _ _ h3⟩, fun c hcm => I1.fpOk (fp3_mem hcm).1 (I1.hok.fresh (fp3_mem hcm).1), q k1' k2' k3' e1 e2 e3⟩
section
variable {T : Tp} {X : Cx} {F : Fz} {S : Sto} {H : Hp} {σ : L2.St} {W : WX}
def zipD3 : List D → List D → List D → List D
  | a :: l, b :: m, c :: n => .tup [a, b, c] :: zipD3 l m n
  | _, _, _ => []
theorem zipD3_len : ∀ l m n : List D, (zipD3 l m n).length = min l.length (min m.length n.length)
  | [], _, _ => by simp [zipD3]
  | _ :: _, [], _ => by simp [zipD3]
  | _ :: _, _ :: _, [] => by simp [zipD3]
  | a :: l, b :: m, c :: n => by
    rw [zipD3, List.length_cons, zipD3_len l m n, List.length_cons, List.length_cons, List.length_cons]
    omega
theorem zipD3_get : ∀ (l m n : List D) (i : Nat) (a b c : D), l[i]? = some a → m[i]? = some b → n[i]? = some c → (zipD3 l m n)[i]? = some (.tup [a, b, c])
  | [], _, _, _, _, _, _, h, _, _ => by simp at h
  | _ :: _, [], _, _, _, _, _, _, h, _ => by simp at h
  | _ :: _, _ :: _, [], _, _, _, _, _, _, h => by simp at h
  | a :: l, b :: m, c :: n, 0, _, _, _, h1, h2, h3 => by
    simp only [List.getElem?_cons_zero, Option.some.injEq] at h1 h2 h3
    subst h1 h2 h3
    rfl
  | a :: l, b :: m, c :: n, i + 1, _, _, _, h1, h2, h3 => by
    rw [zipD3, List.getElem?_cons_succ]
    exact zipD3_get l m n i _ _ _ (by simpa using h1) (by simpa using h2) (by simpa using h3)
theorem walkD_z3 {K : PySem.W.Frag} {k1 k2 k3 : SK} {l m n : List D} {xs ys zs : List V} (h1 : ∀ H', Fr F H H' → k1.has K H' xs ∧ RepL F H' l xs) (h2 : ∀ H', Fr F H H' → k2.has K H' ys ∧ RepL F H' m ys) (h3 : ∀ H', Fr F H H' → k3.has K H' zs ∧ RepL F H' n zs) (hl : l.length ≤ 16777216) : WalkD F H (Iz3 K k1 k2 k3) (zipD3 l m n) := by
  have len := zipD3_len l m n
  have L1 : l.length = xs.length := (h1 H fun _ _ => rfl).2.length
  have L2 : m.length = ys.length := (h2 H fun _ _ => rfl).2.length
  have L3 : n.length = zs.length := (h3 H fun _ _ => rfl).2.length
  refine ⟨by omega, fun i H' hi x => ?_, fun H' x => ⟨xs, ys, zs, (h1 H' x).1, (h2 H' x).1, (h3 H' x).1, by omega, by omega, by omega, by omega⟩, fun i H' v H'' hi x y => ?_⟩
  · exact ⟨xs, ys, zs, xs[i]'(by omega), ys[i]'(by omega), zs[i]'(by omega), (h1 H' x).1, (h2 H' x).1, (h3 H' x).1, by simp [show i < xs.length by omega], by simp [show i < ys.length by omega], by simp [show i < zs.length by omega]⟩
  · obtain ⟨p, x1, y1, z1, rfl, hp, e, q1, q2, q3⟩ := y
    obtain ⟨d1, e1, r1⟩ := (h1 H' x).2.getV (q1 xs (h1 H' x).1)
    obtain ⟨d2, e2, r2⟩ := (h2 H' x).2.getV (q2 ys (h2 H' x).1)
    obtain ⟨d3, e3, r3⟩ := (h3 H' x).2.getV (q3 zs (h3 H' x).1)
    exact ⟨.tup [d1, d2, d3], zipD3_get _ _ _ _ _ _ _ e1 e2 e3, .new rfl hp e (.cons r1 (.cons r2 (.cons r3 .nil))) (by show (3 : Nat) ≤ 16777216; decide)⟩
def lZip3 (t : AT) : LT := fun env S Q R => t env S (fun ds S1 => match ds with
  | [x, y, z] => (match itemsOf x, itemsOf y, itemsOf z with | some l, some m, some n => Q (zipD3 l m n) S1 | _, _, _ => False)
  | _ => False) R
theorem lZip3_inv {ds : List D} {P : List D → Prop} (h : match ds with | [x, y, z] => (match itemsOf x, itemsOf y, itemsOf z with | some l, some m, some n => P (zipD3 l m n) | _, _, _ => False) | _ => False) : ∃ x y z l m n, ds = [x, y, z] ∧ itemsOf x = some l ∧ itemsOf y = some m ∧ itemsOf z = some n ∧ P (zipD3 l m n) := by
  split at h
  · split at h
    · exact ⟨_, _, _, _, _, _, rfl, by assumption, by assumption, by assumption, h⟩
    · exact h.elim
  · exact h.elim
theorem mon_lZip3 {t : AT} (h : MonA t) : MonA (lZip3 t) := fun env S Q Q' R R' hq hR w => h _ _ _ _ _ _ (fun ds S1 w1 => by
  obtain ⟨x, y, z, l, m, n, rfl, e1, e2, e3, w2⟩ := lZip3_inv (P := fun z => Q z S1) w1
  show (match itemsOf x, itemsOf y, itemsOf z with | some l, some m, some n => Q' (zipD3 l m n) S1 | _, _, _ => False)
  rw [e1, e2, e3]
  exact hq _ _ w2) hR w
theorem ji_zip3 {elts : List Expr} {kk : Nat} {a b c : Expr} {t : AT} {p pos tpos : Pos} (hm : X.mg "zip" = none) (ha : JA T X [a, b, c] t) (hg : Gl X "zip" := by rfl) (hs : starEach [a, b, c] X.env = (false, eval a X.env) :: starEach [b, c] X.env := by rfl) (hpl : (backTo pos (starEach [b, c] X.env)).any (·.1) = false := by rfl) :
    JI T X (.Tuple elts kk tpos) (.Call (.Name "zip" p) [a, b, c] [] pos) (lZip3 t) := by
  refine ⟨mon_lZip3 ha.mon, fun W tk => ⟨fun pins s σ H R I ⟨env, S, F, er, ok, w⟩ => ?_⟩⟩
  refine (pi_z3 hg hm (ha.run W tk) hs hpl).run pins s σ H R I ⟨env, S, F, er, ok, ha.mon _ _ _ _ _ _ (fun ds S1 w1 vs H1 F1 ok1 ex1 r1 => ?_) (fun _ _ z => z) w⟩
  obtain ⟨x, y, z, l, m, n, rfl, e1, e2, e3, w1⟩ := lZip3_inv (P := fun z => ∀ J H' F', Ok T F' S1 H' → Ext F S H F' S1 H' → WalkD F' H' J z → R J H') w1
  obtain ⟨v1, v2, v3, rfl, q1, q2, q3⟩ := rep3 r1
  obtain ⟨k1, xs, c1, _, z1, f1⟩ := kind_of X.K q1 e1
  obtain ⟨k2, ys, c2, _, z2, f2⟩ := kind_of X.K q2 e2
  obtain ⟨k3, zs, c3, _, z3, f3⟩ := kind_of X.K q3 e3
  exact ⟨v1, v2, v3, k1, k2, k3, xs, ys, zs, rfl, c1, c2, c3, fun k1' k2' k3' g1 g2 g3 => w1 _ H1 F1 ok1 ex1 (walkD_z3 (fun H' x => ⟨(g1 _ _ _).mpr (f1 H' x).1, (f1 H' x).2⟩) (fun H' x => ⟨(g2 _ _ _).mpr (f2 H' x).1, (f2 H' x).2⟩) (fun H' x => ⟨(g3 _ _ _).mpr (f3 H' x).1, (f3 H' x).2⟩) z1)⟩
end
end DL

namespace DL
open PySem PySem.Spec PyProof.Rows L2

/-! ### x[::-1] -/
section
variable {prog : Program} {w : World} {A : Around} {E : Value → Shared → Prop} {s : Shared}
theorem fm_congr {α β : Type} {f g : α → Option β} : ∀ {l : List α}, (∀ a ∈ l, f a = g a) → l.filterMap f = l.filterMap g
  | [], _ => rfl
  | a :: r, h => by
    rw [List.filterMap_cons, List.filterMap_cons, h a List.mem_cons_self, fm_congr fun b hb => h b (List.mem_cons_of_mem _ hb)]
theorem range_rev {α : Type} (l : List α) : ((List.range l.length).filterMap fun k : Nat => l[(((l.length : Int) - 1) + (k : Int) * (-1)).toNat]?) = l.reverse := by
  have e : ∀ k ∈ List.range l.length, l[(((l.length : Int) - 1) + (k : Int) * (-1)).toNat]? = l.reverse[k]? := fun k hk => by
    have hk := List.mem_range.mp hk
    rw [List.getElem?_reverse hk, show ((((l.length : Int) - 1) + (k : Int) * (-1)).toNat) = l.length - 1 - k by omega]
  rw [fm_congr e]
  have h2 : ∀ m : List α, (List.range m.length).filterMap (fun k => m[k]?) = m := by
    intro m
    induction m with
    | nil => rfl
    | cons a r ih =>
      rw [List.length_cons, List.range_succ_eq_map, List.filterMap_cons, List.filterMap_map]
      show a :: _ = _
      congr 1
  have h3 := h2 l.reverse
  rw [List.length_reverse] at h3
  exact h3
theorem adjust_rev (n : Nat) : Builtin.Slice.sliceAdjust none none (-1) (n : Int) = ((n : Int) - 1, -1) := rfl
theorem places_rev (n : Nat) : Builtin.Slice.slicePlaces ((n : Int) - 1) (-1) (-1) = n := by
  unfold Builtin.Slice.slicePlaces
  rw [if_neg (by decide)]
  split
  · rw [show -(-1 : Int) = 1 from rfl, Int.ediv_one]; omega
  · omega
theorem applied_rev {sl : Addr} {n : Nat} {tk : Tok} {Q : Int × Int × Nat → Shared → Prop} (hs : s.heap.IsSliceOf sl .none .none (.int (-1) tk)) (h : Q ((n : Int) - 1, -1, n) s) : wpAny (model prog w) A (Builtin.Slice.sliceApplied (.ref sl) (pure (n : Int))) Q E s := by
  obtain ⟨os, hos, hcs, hds⟩ := hs
  unfold Builtin.Slice.sliceApplied Builtin.Slice.sliceFields
  refine wpAny_bind (wpAny_bind (wpAny_field hos hds (x := .none) rfl (wpAny_bind (wpAny_field hos hds (x := .none) rfl (wpAny_bind (wpAny_field hos hds (x := .int (-1) tk) rfl (wpAny_pure ?_)))))))
  refine wpAny_bind (slicePart_int ?_)
  show wpAny _ _ (if ((-1 : Int) == 0) = true then _ else _) _ _ s
  rw [if_neg (by decide)]
  refine wpAny_bind (slicePart_none (wpAny_bind (slicePart_none (wpAny_bind (wpAny_pure ?_)))))
  show wpAny _ _ (pure ((n : Int) - 1, (-1 : Int), Builtin.Slice.slicePlaces ((n : Int) - 1) (-1) (-1))) _ _ s
  rw [places_rev]
  exact wpAny_pure h
theorem item_rev {t sl : Addr} {items : Array Value} {tk : Tok} {Q : Value → Shared → Prop} (ht : IsTup s.heap t items) (hs : s.heap.IsSliceOf sl .none .none (.int (-1) tk))
    (h : Q (.ref s.heap.objs.size) { s with heap := s.heap.push { cls := .type "tuple", data := .seq items.toList.reverse.toArray } }) (hsz : items.size ≤ sizeLine) : wpAny (model prog w) A (getItem (.ref t) (.ref sl)) Q E s := by
  have hz : sizeOk (.seq items.toList.reverse.toArray) := by
    show items.toList.reverse.toArray.size ≤ sizeLine
    rw [List.size_toArray, List.length_reverse, Array.length_toList]; exact hsz
  have hTs : s.TypeIs (.ref sl) "slice" := let ⟨os, a, b, _⟩ := hs; ⟨os, a, b⟩
  unfold getItem
  try with_reducible refine wpAny_holding ?_
  first | refine wpAny_bind (wpAny_pure ?_) | skip
  refine wpAny_bind (wpAny_sequenceKey ht.typeIs (by decide) ?_)
  refine wpAny_bind (wpAny_callSpecial?_slot (name := Str.ofString "__getitem__") ht.typeIs PyProof.Rows.slot_tuple_getitem (wpAny_call_entry PyProof.Rows.slot_tuple_getitem ht.typeIs entry_tuple_getitem ?_ (args_tuple_getitem _ _)))
  show wpAny _ _ (Builtin.Tuple.tupleItemsOf (.ref t) >>= _) _ _ s
  refine wpAny_bind (tupleItemsOf_ ht (wpAny_bind (wpAny_typeOf hTs ?_)))
  rw [if_pos (by decide)]
  refine wpAny_bind (applied_rev hs ?_)
  have hno : ¬ ((((items.size : Int) - 1) == 0 && (-1 : Int) == 1 && items.size == items.size) = true) := by
    rw [show ((-1 : Int) == 1) = false from rfl, Bool.and_false]; simp
  show wpAny _ _ (if (((items.size : Int) - 1) == 0 && (-1 : Int) == 1 && items.size == items.size) = true then _ else _) _ _ s
  have hp : ((List.range items.size).filterMap fun (k : Nat) => items[(((items.size : Int) - 1) + (k : Int) * (-1)).toNat]?).toArray = items.toList.reverse.toArray := by
    have := range_rev items.toList
    rw [Array.length_toList] at this
    rw [← this]
    simp only [Array.getElem?_toList]
  rw [if_neg hno, hp]
  first
    | exact wpAny_bind (m := Builtin.Tuple.tupleExact _) (wpAny_newObj_type (wpAny_pure ⟨_, rfl, wpAny_pure h⟩) hz)
    | exact wpAny_bind (m := Builtin.Tuple.tupleExact _) (wpAny_newObj_type (wpAny_bind (wpAny_pure (wpAny_pure ⟨_, rfl, wpAny_pure h⟩))) hz)
    | exact wpAny_bind (wpAny_bind (m := Builtin.Tuple.tupleExact _) (wpAny_newObj_type (wpAny_pure (wpAny_pure ⟨_, rfl, wpAny_pure h⟩)) hz))
    | exact wpAny_bind (wpAny_bind (m := Builtin.Tuple.tupleExact _) (wpAny_newObj_type (wpAny_pure ⟨_, rfl, wpAny_pure h⟩) hz))
end
section
variable {T : Tp} {X : Cx} {F : Fz} {S : Sto} {H : Hp} {σ : L2.St} {W : WX}
def revD (S : Sto) (x : D) : Option D := match x with
  | .str s => some (.str s.reverse)
  | .tup ds => some (.tup ds.reverse)
  | x => (match lstOf S x with | some ds => some (.lst ds.reverse) | none => none)
def dRev (ua : ET) : ET := fun env S Q R => ua env S (fun x S1 => match revD S1 x with | some d => Q d S1 | none => False) R
theorem mon_Rev {ua : ET} (h : Mon ua) : Mon (dRev ua) := fun env S Q Q' R R' hq hR w => h _ _ _ _ _ _ (fun x S1 w1 => by
  revert w1
  show (match revD S1 x with | some d => Q d S1 | none => False) → (match revD S1 x with | some d => Q' d S1 | none => False)
  cases revD S1 x with
  | none => exact fun w => w
  | some d => exact fun w => hq _ _ w) hR w
theorem vals_reverse : ∀ {vs : List V} {us : List Value}, Vals vs us → Vals vs.reverse us.reverse
  | _, _, .nil => .nil
  | _, _, .cons a b => by rw [List.reverse_cons, List.reverse_cons]; exact (vals_reverse b).append (.cons a .nil)
theorem cps_rev (x : Str) : ((Builtin.Str.strSliceIndices none none (-1) x.length).filterMap (x.cps[·]?)) = x.cps.toList.reverse := by
  show (sliceRange ((x.length : Int) - 1) (-1) (-1)).filterMap _ = _
  have : x.length = x.cps.size := rfl
  rw [this]
  rw [PySem.W.krv_sliceRange, PySem.W.krv_range, List.filterMap_reverse, PySem.W.krv_all]
theorem pe_rev {e : Expr} {te : TE} {p1 p3 p2 pos : Pos} {kk : Nat} (he : PE X e te) (hc : PE X (.UnaryOp .USub (.Constant (.int 1) kk p1) p3) (tC (.int (-1)))) :
    PE X (.Subscript e (.Slice none none (some (.UnaryOp .USub (.Constant (.int 1) kk p1) p3)) p2) pos) (fun σ H Q => te σ H fun v H1 => ∃ F S x d, Ok T F S H1 ∧ Rep F H1 x v ∧ revD S x = some d ∧ okK T F S H1 Q d S) := by
  refine ⟨fun pins s σ H Q I h => Subscript_ (thn (he.run pins s σ H _ I h) fun v s1 ⟨y, H1, I1, r1, F, S, x, d, ok, q1, e1, q⟩ => ?_)⟩
  refine wpAny_Slice ?_
  rw [evalPart_none]
  refine wpAny_pure (wpAny_pure ?_)
  rw [evalPart_some]
  refine thn (hc.run pins s1 σ H1 (fun v H' => v = .int (-1) ∧ H' = H1) I1 ⟨rfl, rfl⟩) fun u s2 ⟨y2, H2, I2, r2, ey, eH⟩ => ?_
  subst ey eH
  obtain ⟨tk, rfl⟩ := r2
  have I3 : Inv X pins σ H2 { s2 with heap := s2.heap.push { cls := .type "slice", data := .fields #[.none, .none, .int (-1) tk] } } := I2.kept (t' := s2.toks) fun b ob q => Heap.get?_push_of_some _ q
  have hs : (s2.heap.push { cls := .type "slice", data := .fields #[.none, .none, .int (-1) tk] }).IsSliceOf s2.heap.objs.size .none .none (.int (-1) tk) := Heap.IsSliceOf.new ..
  generalize hs3 : ({ s2 with heap := s2.heap.push { cls := .type "slice", data := .fields #[.none, .none, .int (-1) tk] } } : Shared) = s3 at I3 ⊢
  have hs' : s3.heap.IsSliceOf s2.heap.objs.size .none .none (.int (-1) tk) := by rw [← hs3]; exact hs
  generalize s2.heap.objs.size = sl at hs' ⊢
  show wpAny (model X.prog X.w) X.A (subscriptTail e (.Slice none none (some (.UnaryOp .USub (.Constant (.int 1) kk p1) p3)) p2) v (.ref sl)) (EP X pins σ Q) X.xe s3
  have other : ∀ {y : V} {x : D}, RelV y v → Rep F H2 x y → (match lstOf S x with | some ds => some (D.lst ds.reverse) | none => none) = some d → wpAny (model X.prog X.w) X.A (subscriptTail e (.Slice none none (some (.UnaryOp .USub (.Constant (.int 1) kk p1) p3)) p2) v (.ref sl)) (EP X pins σ Q) X.xe s3 := fun {y x} r1 q1 e1 => by
    cases e2 : lstOf S x with
    | none => rw [e2] at e1; cases e1
    | some ds =>
      rw [e2] at e1
      cases e1
      obtain ⟨a, xs, rfl, ha, k, l⟩ := list_of ok q1 e2
      cases r1
      obtain ⟨its, r, ht, hz⟩ := I3.list (.inl (.inl ha))
      have hl := r.length
      refine tail_any ht.isList.typeIs slot_list_getitem.lookup (wpAny_getItem_list_slice ht.isList hs' .none .none (.int (-1) tk) (by decide) ?_ (by rw [List.size_toArray]; omega)) (by with_unfolding_all rfl)
      rw [PySem.W.krv_pick]
      have new : ObjOk X.prog X.w (upd H2 s3.heap.objs.size (.lst xs.reverse)) (s3.heap.push { cls := .type "list", data := .seq its.toArray.toList.reverse.toArray }) s3.heap.objs.size (.lst xs.reverse) :=
        ⟨by rw [List.length_reverse]; exact hz, its.reverse, 0, vals_reverse r, Heap.get?_push_size _ rfl⟩
      exact ⟨.ref s3.heap.objs.size, _, I3.laid (t' := s3.toks) (fun b ob q => Heap.get?_push_of_some _ q) (Nat.le_refl _) new, rfl, okK.newL ok q k.reverse (by rw [List.length_reverse]; exact l) _ (I3.hok.fresh (Nat.le_refl _))⟩
  cases q1 with
  | @str z kz =>
    cases e1
    obtain ⟨t, rfl⟩ := r1
    obtain ⟨os, a1, a2, a3⟩ := hs'
    refine tail_any (typeIs_str _ _ _) PySem.F.slot_str_getitem.lookup (wpAny_getItem_str_slice (l := none) (u := none) (st := some (-1, tk)) ⟨os, a1, a2, a3⟩ rfl ?_) (by with_unfolding_all rfl)
    have hl : (sOf z.reverse).length ≤ sizeLine := by rw [sOf_len, List.length_reverse, sizeLine_eq]; exact kz.2
    have em : sliceMade (sOf z) t none none (some (-1, tk)) = Made.str (sOf z.reverse) := by
      unfold sliceMade slicePicked
      refine (if_neg fun hc' => absurd (show ((-1 : Int) == 1) = true from (Bool.and_eq_true_iff.mp hc').1) (by decide)).trans ?_
      show Made.str ⟨((Builtin.Str.strSliceIndices none none (-1) (sOf z).length).filterMap ((sOf z).cps[·]?)).toArray⟩ = _
      rw [cps_rev, sOf_toL]; rfl
    rw [em]
    exact ⟨hl, .str (sOf z.reverse), H2, I3.tok _, ⟨_, rfl⟩, okK.flat ok q (.str ⟨fun c hc => kz.1 c (List.mem_reverse.mp hc), by rw [List.length_reverse]; exact kz.2⟩)⟩
  | @tup a xs ds f hh k l =>
    cases e1
    cases r1
    obtain ⟨its, r, ht, hz⟩ := I3.tuple (.inl (.inl hh))
    have hlen : its.toArray.size = xs.length := by rw [List.size_toArray]; exact r.length.symm
    refine tail_any ht.typeIs PyProof.Rows.slot_tuple_getitem.lookup (item_rev ht hs' ?_ (by rw [hlen]; exact hz)) (by with_unfolding_all rfl)
    have new : ObjOk X.prog X.w (upd H2 s3.heap.objs.size (.tup xs.reverse)) (s3.heap.push { cls := .type "tuple", data := .seq its.toArray.toList.reverse.toArray }) s3.heap.objs.size (.tup xs.reverse) :=
      ⟨by rw [List.length_reverse]; exact hz, its.reverse, vals_reverse r, IsTup.new _ _⟩
    exact ⟨.ref s3.heap.objs.size, _, I3.laid (t' := s3.toks) (fun b ob q => Heap.get?_push_of_some _ q) (Nat.le_refl _) new, rfl, okK.newT ok q k.reverse (by rw [List.length_reverse]; exact l) _ (I3.hok.fresh (Nat.le_refl _))⟩
  | non => exact other r1 .non e1
  | bl b => exact other r1 (.bl b) e1
  | int b => exact other r1 (.int b) e1
  | cst b => cases e1
  | obj b => exact other r1 (.obj b) e1
  | lst f hh k l => exact other r1 (.lst f hh k l) e1
  | scr f hh l => cases e1
  | scK hh l => cases e1
theorem pe_m1 {p1 p2 : Pos} {kk : Nat} : PE X (.UnaryOp .USub (.Constant (.int 1) kk p1) p2) (tC (.int (-1))) := (pe_un un_neg pe_int).weak fun σ H Q h => ⟨1, rfl, h⟩
theorem je_rev {e : Expr} {ua : ET} {p1 p2 p3 pos : Pos} {kk : Nat} (ha : JE T X e ua) : JE T X (.Subscript e (.Slice none none (some (.UnaryOp .USub (.Constant (.int 1) kk p1) p2)) p3) pos) (dRev ua) := by
  refine ⟨mon_Rev ha.mon, fun W tk => (pe_rev (T := T) (ha.run W tk) pe_m1).weak ?_⟩
  rintro σ H Q ⟨env, S, F, er, ok, w⟩
  refine ⟨env, S, F, er, ok, ha.mon _ _ _ _ _ _ (fun x S1 w1 v1 H1 F1 ok1 ex1 r1 => ?_) (fun _ _ z => z) w⟩
  cases e : revD S1 x with
  | none => rw [e] at w1; exact w1.elim
  | some d => rw [e] at w1; exact ⟨F1, S1, x, d, ok1, r1, e, okK.back ex1 d S1 w1⟩
end
end DL

namespace DL
open PySem PySem.Spec PyProof.Rows L2
section
variable {T : Tp} {X : Cx} {F : Fz} {S : Sto} {H : Hp} {σ : L2.St} {W : WX} {x : Str} {p pos : Pos} {e : Expr} {es : List Expr} {t : AT}
/-! ### defs as values -/
theorem je_gfn (n : Nat) {f : Addr} (hm : X.mg x = some (.ref f)) (hc : T.cv.f n = .ref f) (hg : Gl X x := by rfl) (hd : (x == ("__debug__" : Str)) = false := by decide) : JE T X (.Name x pos) (dC (.cst n)) := by
  refine ⟨mon_C, fun W tk => (pe_glob (v := .ref f) hg hm rfl hd).weak ?_⟩
  rintro σ H Q ⟨env, S, F, er, ok, h⟩
  refine okK.flat ok h ?_
  have := Rep.cst (F := F) (H := H) n
  rw [ok.cv] at this
  rw [← hc]
  exact this
def CalV (T : Tp) (X : Cx) (k : Nat) (sps : Nat → Option DSp) : Prop := ∀ n sp, sps n = some sp → ∃ k' f fd ps, k' ≤ k ∧ T.cv.f n = .ref f ∧ FnOk X.prog X.w X.K X.mg X.base (L2N.CX X.prog X.w) k' f fd ps (upSp T sp) ∧ PySem.W.keepIn X.K (.ref f) = true ∧ L2.Binds X.K fd ps []
def dCallV (sps : Nat → Option DSp) (i : Nat) (t : AT) : ET := fun env S Q R => match env[i]? with
  | some (some (.cst n)) => (match sps n with | some sp => t env S (fun ds S1 => (sp.g S1 ds).wp S1 Q R) R | none => False)
  | _ => False
theorem dCallV_inv {sps : Nat → Option DSp} {i : Nat} {env : DEnv} {S : Sto} {Q : DK} {R : RK} (h : dCallV sps i t env S Q R) : ∃ n sp, env[i]? = some (some (.cst n)) ∧ sps n = some sp ∧ t env S (fun ds S1 => (sp.g S1 ds).wp S1 Q R) R := by
  unfold dCallV at h
  split at h
  · split at h
    · exact ⟨_, _, by assumption, by assumption, h⟩
    · exact h.elim
  · exact h.elim
theorem mon_CallV {sps : Nat → Option DSp} {i : Nat} (ht : MonA t) : Mon (dCallV sps i t) := fun env S Q Q' R R' hq hR w => by
  obtain ⟨n, sp, e1, e2, w⟩ := dCallV_inv w
  unfold dCallV
  rw [e1]
  dsimp only
  rw [e2]
  exact ht _ _ _ _ _ _ (fun ds S1 w1 => RS.mono hq hR w1) hR w
theorem je_callV {sps : Nat → Option DSp} (i : Nat) {k : Nat} (hr : Room k X.A) (hC : CalV T X k sps) (ha : JA T X (e :: es) t) (hN : X.N[i]? = some x := by rfl) (hv : Vis X.env.scope x := by first | exact Or.inl rfl | exact Or.inr (Or.inl rfl) | exact Or.inr (Or.inr rfl)) (hd : (x == ("__debug__" : Str)) = false := by decide)
    (hcd : (x == ("__classdict__" : Str)) = false := by decide) (he : starEach (e :: es) X.env = (false, eval e X.env) :: starEach es X.env := by rfl) (hpl : (backTo pos (starEach es X.env)).any (·.1) = false := by rfl) :
    JE T X (.Call (.Name x p) (e :: es) [] pos) (dCallV sps i t) := by
  refine ⟨mon_CallV ha.mon, fun W tk => ⟨fun pins s σ H Q I ⟨env, S, F, er, ok, w⟩ => ?_⟩⟩
  obtain ⟨n, sp, e1, e2, w⟩ := dCallV_inv w
  obtain ⟨k', f, fd, ps, hk, hcv, G, hkp, hb⟩ := hC n sp e2
  obtain ⟨v, s1, s2⟩ := er.get i _ e1
  have ev : v = .ref f := by
    cases s2
    show F.cv.f n = _
    rw [ok.cv]; exact hcv
  subst ev
  refine wpAny_Call_Name_kw (thn ((pe_var (pos := p) hN hv hd hcd).run pins s σ H (fun v H1 => v = .ref f ∧ H1 = H) I ⟨.ref f, s1, rfl, rfl⟩) fun u sA ⟨v, HA, IA, rA, ev, eH⟩ => ?_)
  subst ev eH
  cases rA
  refine PySem.W.callWith_K (h₀ := X.base) IA.ok.mod.kin hkp (thn ((ha.run W tk).run pos pins sA σ _ (fun vs H1 => upSp T sp vs H1 Q (WE W σ)) IA ?_) fun us sB ⟨vs, HB, IB, r, q⟩ => ⟨IB.kIn, ?_⟩) he hpl
  · refine ⟨env, S, F, er, ok, ha.mon _ _ _ _ _ _ (fun ds S1 w1 vs H1 F1 ok1 ex1 r1 => ?_) (fun _ _ z => z) w⟩
    exact ⟨ds, S1, F1, r1, ok1, RS.mono (okK.back ex1) (erK.back ex1) w1⟩
  · exact run_fnS G (hr.mono hk) hb (L2N.passAt tk σ) IB r q
end
end DL

namespace DL
open PySem PySem.Spec PyProof.Rows L2
section
variable {T : Tp} {X : Cx} {F : Fz} {S : Sto} {H : Hp} {σ : L2.St} {W : WX}
/-! ### bools in sums -/
def b2 (b : Bool) : Int := if b = true then 1 else 0
def opAddX : O2 := fun S x y => match x with
  | .bl b => (match y with | .int j => .ok (.int (b2 b + j)) | _ => .no)
  | x => opAdd S x y
def opSubX : O2 := fun S x y => match x with
  | .bl b => (match y with | .int j => .ok (.int (b2 b - j)) | _ => .no)
  | x => opSub S x y
theorem od_addX (hs : ScK T X) : OpD T X (binaryOp .Add) opAddX := by
  intro pins s σ H v1 v2 u1 u2 Q I r1 r2 ⟨F, S, x, y, ok, q1, q2, h⟩
  cases x with
  | bl b =>
    cases q1
    cases q2 with
    | int j =>
      obtain rfl := r1
      obtain ⟨t, rfl⟩ := r2
      exact PySem.IntBool.add_bool_int ⟨.int (b2 b + j), H, I.tok _, ⟨_, rfl⟩, okK.flat ok h (.int _)⟩
    | _ => exact h.elim
  | _ => exact od_add hs pins s σ H v1 v2 u1 u2 Q I r1 r2 ⟨F, S, _, y, ok, q1, q2, h⟩
theorem od_subX : OpD T X (binaryOp .Sub) opSubX := by
  intro pins s σ H v1 v2 u1 u2 Q I r1 r2 ⟨F, S, x, y, ok, q1, q2, h⟩
  cases x with
  | bl b =>
    cases q1
    cases q2 with
    | int j =>
      obtain rfl := r1
      obtain ⟨t, rfl⟩ := r2
      exact PySem.IntBool.sub_bool_int ⟨.int (b2 b - j), H, I.tok _, ⟨_, rfl⟩, okK.flat ok h (.int _)⟩
    | _ => exact h.elim
  | _ => exact od_sub pins s σ H v1 v2 u1 u2 Q I r1 r2 ⟨F, S, _, y, ok, q1, q2, h⟩
/-! ### not x, any x -/
def dNotT (ua : ET) : ET := fun env S Q R => ua env S (fun d S1 => match tru S1 d with | some b => Q (.bl (!b)) S1 | none => False) R
theorem mon_NotT {ua : ET} (h : Mon ua) : Mon (dNotT ua) := fun env S Q Q' R R' hq hR w => h _ _ _ _ _ _ (fun d S1 w1 => by
  revert w1
  show (match tru S1 d with | some b => Q (.bl (!b)) S1 | none => False) → (match tru S1 d with | some b => Q' (.bl (!b)) S1 | none => False)
  cases tru S1 d with
  | none => exact fun w => w
  | some b => exact fun w => hq _ _ w) hR w
theorem je_notT {a : Expr} {ua : ET} {pos : Pos} (ha : JE T X a ua) : JE T X (.UnaryOp .Not a pos) (dNotT ua) := by
  refine ⟨mon_NotT ha.mon, fun W tk => (pe_notT (ha.run W tk)).weak ?_⟩
  rintro σ H Q ⟨env, S, F, er, ok, w⟩
  refine ⟨env, S, F, er, ok, ha.mon _ _ _ _ _ _ (fun d S1 w1 v1 H1 F1 ok1 ex1 r1 => ?_) (fun _ _ z => z) w⟩
  cases e : tru S1 d with
  | none => rw [e] at w1; exact w1.elim
  | some b =>
    rw [e] at w1
    exact ⟨b, tru_ok ok1 r1 e, w1 _ H1 F1 ok1 ex1 (.bl _)⟩
end
/-! ### str of any int, of a bool -/
theorem digits_len : ∀ (k f n : Nat) (acc : List Char), 1 ≤ k → n < 10 ^ k → (Nat.toDigitsCore 10 f n acc).length ≤ acc.length + k
  | _, 0, _, acc, _, _ => by unfold Nat.toDigitsCore; omega
  | 0, _ + 1, _, _, h, _ => absurd h (by decide)
  | k + 1, f + 1, n, acc, _, h => by
    unfold Nat.toDigitsCore
    dsimp only
    split
    · rw [List.length_cons]; omega
    · rename_i hn
      have h1 : n / 10 < 10 ^ k := by
        rw [Nat.pow_succ] at h
        exact Nat.div_lt_of_lt_mul (by omega)
      have hk : 1 ≤ k := by
        cases k with
        | zero => simp at h1; omega
        | succ k => omega
      have := digits_len k f (n / 10) (Nat.digitChar (n % 10) :: acc) hk h1
      rw [List.length_cons] at this
      omega
theorem codes_ok (s : String) : ∀ c ∈ (Str.cps (s : Str)).toList, c < 1114112 := fun c hc => by
  have e : (Str.cps (s : Str)).toList = s.toList.map Char.toNat := by
    rw [Str.ofString_eq_toList]
  rw [e] at hc
  obtain ⟨ch, _, rfl⟩ := List.mem_map.mp hc
  have := ch.valid
  have h2 : ch.toNat = ch.val.toNat := rfl
  rcases this with h | h
  · have : ch.val.toNat < 0xd800 := h
    omega
  · have : ch.val.toNat < 0x110000 := h.2
    omega
theorem int_len {i : Int} (h : i.natAbs < 10 ^ 41) : (intStr i).length ≤ 42 := by
  have e : (intStr i).length = (toString i : String).toList.length := by
    unfold intStr
    rw [show (Str.cps ((toString i : String) : Str)).toList = (toString i : String).toList.map Char.toNat from by
      rw [Str.ofString_eq_toList], List.length_map]
  rw [e]
  have nat : ∀ n : Nat, n < 10 ^ 41 → (Nat.repr n).toList.length ≤ 41 := fun n hn => by
    have := digits_len 41 (n + 1) n [] (by decide) hn
    unfold Nat.repr
    simpa [Nat.toDigits] using this
  cases i with
  | ofNat n =>
    have := nat n (by simpa using h)
    show (Nat.repr n).toList.length ≤ 42
    omega
  | negSucc n =>
    have := nat (n + 1) (by simpa using h)
    show ("-" ++ Nat.repr (n + 1)).toList.length ≤ 42
    rw [String.toList_append, List.length_append]
    show 1 + _ ≤ 42
    omega
theorem intStr_okX {i : Int} (h : i.natAbs < 10 ^ 41) : sOk (intStr i) := ⟨codes_ok _, Nat.le_trans (int_len h) (by decide)⟩
def boolStr (b : Bool) : List Nat := if b = true then [84, 114, 117, 101] else [70, 97, 108, 115, 101]
def opStrX : OL := fun S ds => match ds with
  | [x] => (match x with
    | .int i => .pre (i.natAbs < 10 ^ 41) (.str (intStr i))
    | .bl b => .ok (.str (boolStr b))
    | _ => .no)
  | _ => .no
theorem oc_strX {T : Tp} {X : Cx} : CallR X (.type "str") (rDL T opStrX) := by
  intro pins s σ H vs us Q I r ⟨F, S, ds, ok, q, h⟩
  match ds, h with
  | [x], h =>
    obtain ⟨v, rfl, q1⟩ := rep1 q
    cases q1 with
    | int i =>
      obtain ⟨h1, h⟩ := h
      refine call_str_int pins s σ H _ us Q I r ⟨i, rfl, ?_, ?_⟩
      · by_cases z : i.natAbs = 0
        · rw [z]; decide
        · have := (Nat.log2_lt z).mpr (Nat.lt_trans h1 (show 10 ^ 41 < 2 ^ 1920 by decide +kernel))
          omega
      · have e : sOf (intStr i) = (toString i : String) := sOf_toList rfl
        rw [← e]
        exact okK.flat ok h (.str (intStr_okX h1))
    | bl b =>
      obtain ⟨u, rfl, r1⟩ := vals1 r
      obtain rfl := r1
      refine PySem.P.str_of_bool ?_
      cases b with
      | true => exact ⟨.str (sOf (boolStr true)), H, I.tok _, ⟨_, rfl⟩, okK.flat ok h (.str ⟨by decide, by decide⟩)⟩
      | false => exact ⟨.str (sOf (boolStr false)), H, I.tok _, ⟨_, rfl⟩, okK.flat ok h (.str ⟨by decide, by decide⟩)⟩
    | _ => exact h.elim
  | [], h => exact h.elim
  | _ :: _ :: _, h => exact h.elim
/-! ### a def that calls itself -/
/-- a promise for no arguments at all -/
def spNo (n : Nat) : DSp := ⟨n, fun _ _ => .no, fun _ _ _ _ h => h.elim⟩
theorem fn_never {P : Program} {w : World} {K : PySem.W.Frag} {mg : Str → Option Value} {base : Heap} {k : Nat} {f : Addr} {fd : FuncData} {ps : List Str} {T : Tp} {n : Nat} : FnOk P w K mg base (L2N.CX P w) k f fd ps (upSp T (spNo n)) :=
  ⟨fun vs H Q E ⟨_, _, _, _, _, h⟩ => h.elim, fun A outer s H args us vs Q E _ _ _ _ h => by obtain ⟨_, _, _, _, _, h⟩ := h; exact h.elim⟩
end DL

namespace DL
open PySem L2
/-! ### words.py -/
/-- an int between two bounds -/
def isWh (v : D) (l h : Int) : Bool := match v with
  | .int i => decide (l ≤ i) && decide (i ≤ h)
  | _ => false
def sp_is_whole : DSp := sp3 fun S v lo hi => match lo, hi with
  | .int l, .int h => .pre (∃ n, tyD S v = some n) (.ret (.bl (isWh v l h)))
  | _, _ => .no
def figs (s : Int) : List Nat := cut [48, 49, 50, 51] none (some s)
/-- a word with s stands -/
def isWd (s : Int) (l : List Nat) : Bool := decide (1 ≤ l.length) && decide (l.length ≤ 60) && l.all fun c => decide (c ∈ figs s)
def isWdD (s : Int) (v : D) : Bool := match v with
  | .str l => isWd s l
  | _ => false
def sp_fits_word : DSp := sp2 fun S st v => match st with
  | .int s => .pre (∃ n, tyD S v = some n) (.ret (.bl (isWdD s v)))
  | _ => .no
def digs (l : List Nat) : Prop := ∀ c ∈ l, 48 ≤ c ∧ c ≤ 57
def wt (l : List Nat) : Int := (l.map fun c : Nat => (c : Int) - 48).sum
def sp_weight_of : DSp := sp1 fun _ v => match v with
  | .str l => .pre (digs l) (.ret (.int (wt l)))
  | _ => .no
def inW (a b : List Nat) : Bool := (List.zipWith (fun x y : Nat => decide (x ≤ y)) a b).all id
def sp_is_within : DSp := sp2 fun _ v u => match v, u with
  | .str a, .str b => .ret (.bl (inW a b))
  | _, _ => .no
def optI : Option Int → D
  | some i => .int i
  | none => .non
def lossW (a b : List Nat) : Option Int := if inW b a = true then some (wt a - wt b) else none
def sp_loss_of : DSp := sp2 fun _ v u => match v, u with
  | .str a, .str b => .pre (digs a ∧ digs b) (.ret (optI (lossW a b)))
  | _, _ => .no
def fitsS (s m : Option Int) : Bool := match s with
  | none => false
  | some i => (match m with | none => true | some k => decide (i ≤ k))
def optD : D → Option (Option Int)
  | .non => some none
  | .int i => some (some i)
  | _ => none
def sp_fits_steps : DSp := sp2 fun _ s m => match optD s, optD m with
  | some i, some k => .ret (.bl (fitsS i k))
  | _, _ => .no
def sp_need_number : DSp := sp3 fun S v lo hi => match lo, hi with
  | .int l, .int h => .pre (∃ n, tyD S v = some n) (if isWh v l h = true then .ret .non else .err ⟨3, none⟩)
  | _, _ => .no
def FARi : Int := 1000000000000000000000000000000
def okMost (v : D) : Bool := match v with
  | .non => true
  | v => isWh v 0 FARi
def sp_need_most : DSp := sp1 fun S v => .pre (∃ n, tyD S v = some n) (if okMost v = true then .ret .non else .err ⟨3, none⟩)
def u_is_whole : DS := sRt (dAndV (dIsi .int (dV 0)) (dAndV (dNotV (dIsi .bl (dV 0))) (dCh opLe opLe (dV 1) (dV 0) (dV 2))))
def u_fits_word : DS := sC (sIf (dOr (dNot (dTr (dIsi .str (dV 1)))) (dNot (dT (dCh opLe opLe (dC (.int 1)) (dCB opLen (aC (dV 1) (aN))) (dC (.int 60)))))) (sRt (dC (.bl false))) (sN)) (sRt (dCB opAll (aC (dLc (lAny (dV 1)) (gN 2) (bYes) (dB opIn (dV 2) (dSl (dC (.str [48, 49, 50, 51])) (oN) (oS (dV 0)))) [2]) (aN))))
def u_weight_of : DS := sRt (dCB opSum (aC (dLc (lAny (dV 0)) (gN 1) (bYes) (dCB opInt (aC (dV 1) (aN))) [1]) (aN)))
def u_is_within : DS := sRt (dCB opAll (aC (dLc (lZip (aC (dV 0) (aC (dV 1) (aN)))) (gT 2 (gsC (gN 2) (gsC (gN 3) (gsN)))) (bYes) (dB opLe (dV 2) (dV 3)) [2, 3]) (aN)))
def u_loss_of : DS := sRt (dIfE (dTr (dCall sp_is_within (aC (dV 1) (aC (dV 0) (aN))))) (dB opSub (dCall sp_weight_of (aC (dV 0) (aN))) (dCall sp_weight_of (aC (dV 1) (aN)))) (dC .non))
def u_fits_steps : DS := sRt (dAndV (dB opIsn (dV 0) (dC .non)) (dOrV (dB opIs (dV 1) (dC .non)) (dB opLe (dV 0) (dV 1))))
def u_need_number : DS := sIf (dNot (dTr (dCall sp_is_whole (aC (dV 0) (aC (dV 1) (aC (dV 2) (aN))))))) (sRs 3) (sN)
def u_need_most : DS := sIf (dT (dB opIsn (dV 0) (dC .non))) (sX (dCall sp_need_number (aC (dV 0) (aC (dC (.int 0)) (aC (dC (.int 1000000000000000000000000000000)) (aN)))))) (sN)
theorem d_is_whole {ds : List D} {S : Sto} {Q : DK} {R : RK} (h : (sp_is_whole.g S ds).wp S Q R) : u_is_whole (dStart 3 ds) S (endF Q R) := by
  obtain ⟨v, lo, hi, rfl, h⟩ := sp3_inv h
  cases lo with
  | int l =>
    cases hi with
    | int u =>
      obtain ⟨⟨n, hn⟩, h⟩ := h
      have h : Q (.bl (isWh v l u)) S := h
      show u_is_whole [some v, some (.int l), some (.int u)] S _
      cases v with
      | int i => exact ch_int h
      | obj a =>
        cases tyD_obj hn
        simp only [u_is_whole, sC, sIf, sRt, sAs, sX, sN, sRtN, sRs, sBk, sPar, sPar3, sSub, DEnds.seq, DEnds.loop, endF, dAnd, dOr, dNot, dT, dTr, tru, dB, dCh, dC, dIsi, tyD_non, tyD_bl, tyD_int, tyD_str, tyD_tup, tyD_lst, isTN, dAndV, dOrV, dNotV, dIfE, aN, aC, dTup, dLst, dLstM, dCall, dCB, dU, dSl, slD, oN, oS, gN, gT, gsC, gsN, lAny, lRng1, lRng2, lZip, itemsOf, lstOf, seqOf, dLc, wipeD, bYes, dFor, dApp, dMs, dErr, opAdd, opSub, opMod, opDiv, opPow, opMul, opLt, opGt, opLe, opGe, opEq, opNe, opIn, opNi, opInB, opIs, opIsn, opIsB, isNon, opNeg, opIx, opAll, opSum, opMin, opMax, opInt, opLen, opTup, opList, opBool, opJoin, eqD_int, eqD_str, eqD_bl, eqD_non, eqD_tup, eqD_lst, eqD_tup0, eqD_lst0, der_int, der_str, der_bl, der_non, der_tup, der_lst, eqOk_int, eqOk_str, PR.wp, RS.wp, sp0, sp1, sp2, sp3, sp4, dV, List.getElem?_cons_zero, List.getElem?_cons_succ, List.getElem?_nil, List.set_cons_zero, List.set_cons_succ, List.length_cons, List.length_nil, Option.some.injEq, true_and, and_true, Bool.not_true, Bool.not_false, hn]
        exact h
      | cst _ => cases hn
      | scr _ => cases hn
      | _ => exact h
    | _ => exact h.elim
  | _ => exact h.elim
theorem d_fits_word {ds : List D} {S : Sto} {Q : DK} {R : RK} (h : (sp_fits_word.g S ds).wp S Q R) : u_fits_word (dStart 3 ds) S (endF Q R) := by
  obtain ⟨st, v, rfl, h⟩ := sp2_inv h
  cases st with
  | int s =>
    obtain ⟨⟨n, hn⟩, h⟩ := h
    have h : Q (.bl (isWdD s v)) S := h
    show u_fits_word [some (.int s), some v, none] S _
    cases v with
    | str l =>
      have h : Q (.bl (isWd s l)) S := h
      unfold isWd at h
      simp only [u_fits_word, sC, sIf, sRt, sAs, sX, sN, sRtN, sRs, sBk, sPar, sPar3, sSub, DEnds.seq, DEnds.loop, endF, dAnd, dOr, dNot, dT, dTr, tru, dB, dCh, dC, dIsi, tyD_non, tyD_bl, tyD_int, tyD_str, tyD_tup, tyD_lst, isTN, dAndV, dOrV, dNotV, dIfE, aN, aC, dTup, dLst, dLstM, dCall, dCB, dU, dSl, slD, oN, oS, gN, gT, gsC, gsN, lAny, lRng1, lRng2, lZip, itemsOf, lstOf, seqOf, dLc, wipeD, bYes, dFor, dApp, dMs, dErr, opAdd, opSub, opMod, opDiv, opPow, opMul, opLt, opGt, opLe, opGe, opEq, opNe, opIn, opNi, opInB, opIs, opIsn, opIsB, isNon, opNeg, opIx, opAll, opSum, opMin, opMax, opInt, opLen, opTup, opList, opBool, opJoin, eqD_int, eqD_str, eqD_bl, eqD_non, eqD_tup, eqD_lst, eqD_tup0, eqD_lst0, der_int, der_str, der_bl, der_non, der_tup, der_lst, eqOk_int, eqOk_str, PR.wp, RS.wp, sp0, sp1, sp2, sp3, sp4, dV, List.getElem?_cons_zero, List.getElem?_cons_succ, List.getElem?_nil, List.set_cons_zero, List.set_cons_succ, List.length_cons, List.length_nil, Option.some.injEq, true_and, and_true, Bool.not_true, Bool.not_false]
      have e1 : decide ((1 : Int) ≤ (l.length : Nat)) = decide (1 ≤ l.length) := by congr 1; exact propext (by omega)
      have e2 : decide (((l.length : Nat) : Int) ≤ 60) = decide (l.length ≤ 60) := by congr 1; exact propext (by omega)
      rw [e1, e2]
      cases b1 : decide (1 ≤ l.length) with
      | false => rw [b1] at h; exact h
      | true =>
        cases b2 : decide (l.length ≤ 60) with
        | false => rw [b1, b2] at h; exact h
        | true =>
          rw [b1, b2] at h
          refine lc_map (fun c => .str [c]) (fun c => .bl (decide (c ∈ figs s))) l [] (fun x hx KN KY k => k) ?_
          rw [List.nil_append, bls_map]
          show Q (.bl ((l.map fun c => decide (c ∈ figs s)).all id)) S
          rw [List.all_map]
          exact h
    | obj a =>
      cases tyD_obj hn
      simp only [u_fits_word, sC, sIf, sRt, sAs, sX, sN, sRtN, sRs, sBk, sPar, sPar3, sSub, DEnds.seq, DEnds.loop, endF, dAnd, dOr, dNot, dT, dTr, tru, dB, dCh, dC, dIsi, tyD_non, tyD_bl, tyD_int, tyD_str, tyD_tup, tyD_lst, isTN, dAndV, dOrV, dNotV, dIfE, aN, aC, dTup, dLst, dLstM, dCall, dCB, dU, dSl, slD, oN, oS, gN, gT, gsC, gsN, lAny, lRng1, lRng2, lZip, itemsOf, lstOf, seqOf, dLc, wipeD, bYes, dFor, dApp, dMs, dErr, opAdd, opSub, opMod, opDiv, opPow, opMul, opLt, opGt, opLe, opGe, opEq, opNe, opIn, opNi, opInB, opIs, opIsn, opIsB, isNon, opNeg, opIx, opAll, opSum, opMin, opMax, opInt, opLen, opTup, opList, opBool, opJoin, eqD_int, eqD_str, eqD_bl, eqD_non, eqD_tup, eqD_lst, eqD_tup0, eqD_lst0, der_int, der_str, der_bl, der_non, der_tup, der_lst, eqOk_int, eqOk_str, PR.wp, RS.wp, sp0, sp1, sp2, sp3, sp4, dV, List.getElem?_cons_zero, List.getElem?_cons_succ, List.getElem?_nil, List.set_cons_zero, List.set_cons_succ, List.length_cons, List.length_nil, Option.some.injEq, true_and, and_true, Bool.not_true, Bool.not_false, hn]
      exact h
    | cst _ => cases hn
    | scr _ => cases hn
    | _ => exact h
  | _ => exact h.elim
theorem d_weight_of {ds : List D} {S : Sto} {Q : DK} {R : RK} (h : (sp_weight_of.g S ds).wp S Q R) : u_weight_of (dStart 2 ds) S (endF Q R) := by
  obtain ⟨v, rfl, h⟩ := sp1_inv h
  cases v with
  | str l =>
    obtain ⟨hd, h⟩ := h
    have h : Q (.int (wt l)) S := h
    show u_weight_of [some (.str l), none] S _
    simp only [u_weight_of, sC, sIf, sRt, sAs, sX, sN, sRtN, sRs, sBk, sPar, sPar3, sSub, DEnds.seq, DEnds.loop, endF, dAnd, dOr, dNot, dT, dTr, tru, dB, dCh, dC, dIsi, tyD_non, tyD_bl, tyD_int, tyD_str, tyD_tup, tyD_lst, isTN, dAndV, dOrV, dNotV, dIfE, aN, aC, dTup, dLst, dLstM, dCall, dCB, dU, dSl, slD, oN, oS, gN, gT, gsC, gsN, lAny, lRng1, lRng2, lZip, itemsOf, lstOf, seqOf, dLc, wipeD, bYes, dFor, dApp, dMs, dErr, opAdd, opSub, opMod, opDiv, opPow, opMul, opLt, opGt, opLe, opGe, opEq, opNe, opIn, opNi, opInB, opIs, opIsn, opIsB, isNon, opNeg, opIx, opAll, opSum, opMin, opMax, opInt, opLen, opTup, opList, opBool, opJoin, eqD_int, eqD_str, eqD_bl, eqD_non, eqD_tup, eqD_lst, eqD_tup0, eqD_lst0, der_int, der_str, der_bl, der_non, der_tup, der_lst, eqOk_int, eqOk_str, PR.wp, RS.wp, sp0, sp1, sp2, sp3, sp4, dV, List.getElem?_cons_zero, List.getElem?_cons_succ, List.getElem?_nil, List.set_cons_zero, List.set_cons_succ, List.length_cons, List.length_nil, Option.some.injEq, true_and, and_true, Bool.not_true, Bool.not_false]
    refine lc_map (fun c => .str [c]) (fun c : Nat => .int ((c : Int) - 48)) l [] (fun x hx KN KY k => ⟨hd x hx, k⟩) ?_
    rw [List.nil_append, nts_map]
    exact h
  | _ => exact h.elim
theorem zip_chars (a b : List Nat) : zipD (a.map fun c => .str [c]) (b.map fun c => .str [c]) = (List.zip a b).map fun p => .tup [.str [p.1], .str [p.2]] := by
  unfold zipD
  rw [List.zipWith_map, List.zip_eq_zipWith, List.map_zipWith]
theorem ltL_one (x y : Nat) : (!ltL [y] [x]) = decide (x ≤ y) := by
  unfold ltL
  by_cases h : x ≤ y
  · have : ¬ ([y] < [x]) := by simp [List.cons_lt_cons_iff]; omega
    simp [h, this]
  · have : [y] < [x] := by simp [List.cons_lt_cons_iff]; omega
    simp [h, this]
theorem d_is_within {ds : List D} {S : Sto} {Q : DK} {R : RK} (h : (sp_is_within.g S ds).wp S Q R) : u_is_within (dStart 4 ds) S (endF Q R) := by
  obtain ⟨v, u, rfl, h⟩ := sp2_inv h
  cases v with
  | str a =>
    cases u with
    | str b =>
      have h : Q (.bl (inW a b)) S := h
      show u_is_within [some (.str a), some (.str b), none, none] S _
      simp only [u_is_within, sC, sIf, sRt, sAs, sX, sN, sRtN, sRs, sBk, sPar, sPar3, sSub, DEnds.seq, DEnds.loop, endF, dAnd, dOr, dNot, dT, dTr, tru, dB, dCh, dC, dIsi, tyD_non, tyD_bl, tyD_int, tyD_str, tyD_tup, tyD_lst, isTN, dAndV, dOrV, dNotV, dIfE, aN, aC, dTup, dLst, dLstM, dCall, dCB, dU, dSl, slD, oN, oS, gN, gT, gsC, gsN, lAny, lRng1, lRng2, lZip, itemsOf, lstOf, seqOf, dLc, wipeD, bYes, dFor, dApp, dMs, dErr, opAdd, opSub, opMod, opDiv, opPow, opMul, opLt, opGt, opLe, opGe, opEq, opNe, opIn, opNi, opInB, opIs, opIsn, opIsB, isNon, opNeg, opIx, opAll, opSum, opMin, opMax, opInt, opLen, opTup, opList, opBool, opJoin, eqD_int, eqD_str, eqD_bl, eqD_non, eqD_tup, eqD_lst, eqD_tup0, eqD_lst0, der_int, der_str, der_bl, der_non, der_tup, der_lst, eqOk_int, eqOk_str, PR.wp, RS.wp, sp0, sp1, sp2, sp3, sp4, dV, List.getElem?_cons_zero, List.getElem?_cons_succ, List.getElem?_nil, List.set_cons_zero, List.set_cons_succ, List.length_cons, List.length_nil, Option.some.injEq, true_and, and_true, Bool.not_true, Bool.not_false, zip_chars]
      refine lc_map (fun p : Nat × Nat => .tup [.str [p.1], .str [p.2]]) (fun p => .bl (decide (p.1 ≤ p.2))) (List.zip a b) [] (fun x hx KN KY k => ?_) ?_
      · rw [← ltL_one] at k
        exact ⟨rfl, k⟩
      · rw [List.nil_append, bls_map]
        show Q (.bl (((List.zip a b).map fun p => decide (p.1 ≤ p.2)).all id)) S
        unfold inW at h
        rw [List.zip_eq_zipWith, List.map_zipWith]
        exact h
    | _ => exact h.elim
  | _ => exact h.elim
theorem d_loss_of {ds : List D} {S : Sto} {Q : DK} {R : RK} (h : (sp_loss_of.g S ds).wp S Q R) : u_loss_of (dStart 2 ds) S (endF Q R) := by
  obtain ⟨v, u, rfl, h⟩ := sp2_inv h
  cases v with
  | str a =>
    cases u with
    | str b =>
      obtain ⟨⟨h1, h2⟩, h⟩ := h
      have h : Q (optI (lossW a b)) S := h
      show u_loss_of [some (.str a), some (.str b)] S _
      unfold lossW at h
      simp only [u_loss_of, sC, sIf, sRt, sAs, sX, sN, sRtN, sRs, sBk, sPar, sPar3, sSub, DEnds.seq, DEnds.loop, endF, dAnd, dOr, dNot, dT, dTr, tru, dB, dCh, dC, dIsi, tyD_non, tyD_bl, tyD_int, tyD_str, tyD_tup, tyD_lst, isTN, dAndV, dOrV, dNotV, dIfE, aN, aC, dTup, dLst, dLstM, dCall, dCB, dU, dSl, slD, oN, oS, gN, gT, gsC, gsN, lAny, lRng1, lRng2, lZip, itemsOf, lstOf, seqOf, dLc, wipeD, bYes, dFor, dApp, dMs, dErr, opAdd, opSub, opMod, opDiv, opPow, opMul, opLt, opGt, opLe, opGe, opEq, opNe, opIn, opNi, opInB, opIs, opIsn, opIsB, isNon, opNeg, opIx, opAll, opSum, opMin, opMax, opInt, opLen, opTup, opList, opBool, opJoin, eqD_int, eqD_str, eqD_bl, eqD_non, eqD_tup, eqD_lst, eqD_tup0, eqD_lst0, der_int, der_str, der_bl, der_non, der_tup, der_lst, eqOk_int, eqOk_str, PR.wp, RS.wp, sp0, sp1, sp2, sp3, sp4, dV, List.getElem?_cons_zero, List.getElem?_cons_succ, List.getElem?_nil, List.set_cons_zero, List.set_cons_succ, List.length_cons, List.length_nil, Option.some.injEq, true_and, and_true, Bool.not_true, Bool.not_false, sp_is_within, sp_weight_of]
      cases e : inW b a with
      | true => rw [e] at h; exact ⟨h1, h2, h⟩
      | false => rw [e] at h; exact h
    | _ => exact h.elim
  | _ => exact h.elim
theorem d_fits_steps {ds : List D} {S : Sto} {Q : DK} {R : RK} (h : (sp_fits_steps.g S ds).wp S Q R) : u_fits_steps (dStart 2 ds) S (endF Q R) := by
  obtain ⟨v, u, rfl, h⟩ := sp2_inv h
  cases v <;> cases u <;> first | exact h | exact h.elim
theorem d_need_number {ds : List D} {S : Sto} {Q : DK} {R : RK} (h : (sp_need_number.g S ds).wp S Q R) : u_need_number (dStart 3 ds) S (endF Q R) := by
  obtain ⟨v, lo, hi, rfl, h⟩ := sp3_inv h
  cases lo with
  | int l =>
    cases hi with
    | int u =>
      obtain ⟨hn, h⟩ := h
      have h : (if isWh v l u = true then RS.ret .non else .err ⟨3, none⟩).wp S Q R := h
      show u_need_number [some v, some (.int l), some (.int u)] S _
      simp only [u_need_number, sC, sIf, sRt, sAs, sX, sN, sRtN, sRs, sBk, sPar, sPar3, sSub, DEnds.seq, DEnds.loop, endF, dAnd, dOr, dNot, dT, dTr, tru, dB, dCh, dC, dIsi, tyD_non, tyD_bl, tyD_int, tyD_str, tyD_tup, tyD_lst, isTN, dAndV, dOrV, dNotV, dIfE, aN, aC, dTup, dLst, dLstM, dCall, dCB, dU, dSl, slD, oN, oS, gN, gT, gsC, gsN, lAny, lRng1, lRng2, lZip, itemsOf, lstOf, seqOf, dLc, wipeD, bYes, dFor, dApp, dMs, dErr, opAdd, opSub, opMod, opDiv, opPow, opMul, opLt, opGt, opLe, opGe, opEq, opNe, opIn, opNi, opInB, opIs, opIsn, opIsB, isNon, opNeg, opIx, opAll, opSum, opMin, opMax, opInt, opLen, opTup, opList, opBool, opJoin, eqD_int, eqD_str, eqD_bl, eqD_non, eqD_tup, eqD_lst, eqD_tup0, eqD_lst0, der_int, der_str, der_bl, der_non, der_tup, der_lst, eqOk_int, eqOk_str, PR.wp, RS.wp, sp0, sp1, sp2, sp3, sp4, dV, List.getElem?_cons_zero, List.getElem?_cons_succ, List.getElem?_nil, List.set_cons_zero, List.set_cons_succ, List.length_cons, List.length_nil, Option.some.injEq, true_and, and_true, Bool.not_true, Bool.not_false, sp_is_whole]
      refine ⟨hn, ?_⟩
      cases e : isWh v l u with
      | true => rw [e] at h; exact h
      | false => rw [e] at h; exact h
    | _ => exact h.elim
  | _ => exact h.elim
theorem d_need_most {ds : List D} {S : Sto} {Q : DK} {R : RK} (h : (sp_need_most.g S ds).wp S Q R) : u_need_most (dStart 1 ds) S (endF Q R) := by
  obtain ⟨v, rfl, h⟩ := sp1_inv h
  obtain ⟨hn, h⟩ := h
  have h : (if okMost v = true then RS.ret .non else .err ⟨3, none⟩).wp S Q R := h
  show u_need_most [some v] S _
  simp only [u_need_most, sC, sIf, sRt, sAs, sX, sN, sRtN, sRs, sBk, sPar, sPar3, sSub, DEnds.seq, DEnds.loop, endF, dAnd, dOr, dNot, dT, dTr, tru, dB, dCh, dC, dIsi, tyD_non, tyD_bl, tyD_int, tyD_str, tyD_tup, tyD_lst, isTN, dAndV, dOrV, dNotV, dIfE, aN, aC, dTup, dLst, dLstM, dCall, dCB, dU, dSl, slD, oN, oS, gN, gT, gsC, gsN, lAny, lRng1, lRng2, lZip, itemsOf, lstOf, seqOf, dLc, wipeD, bYes, dFor, dApp, dMs, dErr, opAdd, opSub, opMod, opDiv, opPow, opMul, opLt, opGt, opLe, opGe, opEq, opNe, opIn, opNi, opInB, opIs, opIsn, opIsB, isNon, opNeg, opIx, opAll, opSum, opMin, opMax, opInt, opLen, opTup, opList, opBool, opJoin, eqD_int, eqD_str, eqD_bl, eqD_non, eqD_tup, eqD_lst, eqD_tup0, eqD_lst0, der_int, der_str, der_bl, der_non, der_tup, der_lst, eqOk_int, eqOk_str, PR.wp, RS.wp, sp0, sp1, sp2, sp3, sp4, dV, List.getElem?_cons_zero, List.getElem?_cons_succ, List.getElem?_nil, List.set_cons_zero, List.set_cons_succ, List.length_cons, List.length_nil, Option.some.injEq, true_and, and_true, Bool.not_true, Bool.not_false, sp_need_number]
  have go : okMost v = isWh v 0 1000000000000000000000000000000 → RS.wp S (if isWh v 0 1000000000000000000000000000000 = true then RS.ret D.non else RS.err { id := 3, arg := none }) (fun _ S1 => Q D.non S1) fun e S1 => R e S1 := fun e => by
    rw [e] at h
    cases e2 : isWh v 0 1000000000000000000000000000000 with
    | true => rw [e2] at h; exact h
    | false => rw [e2] at h; exact h
  cases v with
  | non => exact h
  | cst _ => obtain ⟨_, hn⟩ := hn; cases hn
  | _ => exact ⟨hn, go rfl⟩
end DL

namespace DL
open PySem L2
/-! ### the names of an error -/
def u__law_names (i : Nat) (p : Addr × Obj) : DS := sC (sAs (dLst (aC (dIsE p.1 (i == 1) (dV 0)) (aC (dIsE p.1 (i == 2) (dV 0)) (aC (dIsE p.1 (i == 3) (dV 0)) (aN))))) (gN 1)) (sC (sAs (dB opAdd (dV 1) (dLst (aC (dIsE p.1 (i == 4) (dV 0)) (aC (dIsE p.1 (i == 5) (dV 0)) (aC (dIsE p.1 (i == 6) (dV 0)) (aN)))))) (gN 1)) (sC (sAs (dB opAdd (dV 1) (dLst (aC (dIsE p.1 (i == 7) (dV 0)) (aC (dIsE p.1 (i == 8) (dV 0)) (aC (dIsE p.1 (i == 9) (dV 0)) (aN)))))) (gN 1)) (sC (sAs (dB opAdd (dV 1) (dLst (aC (dIsE p.1 (i == 11) (dV 0)) (aC (dIsE p.1 (i == 10) (dV 0)) (aC (dIsE p.1 (i == 12) (dV 0)) (aN)))))) (gN 1)) (sC (sAs (dB opAdd (dV 1) (dLst (aC (dIsE p.1 (i == 13) (dV 0)) (aC (dIsE p.1 true (dV 0)) (aN))))) (gN 1)) (sC (sAs (dC (.str [115, 116, 97, 110, 100, 115, 32, 119, 111, 114, 100, 32, 110, 117, 109, 98, 101, 114, 32, 98, 111, 111, 107, 32, 119, 101, 105, 103, 104, 116, 115, 32, 105, 110, 100, 101, 120, 32, 112, 114, 105, 99, 101, 115, 32, 99, 101, 108, 108, 32, 116, 101, 120, 116, 32, 101, 109, 112, 116, 121, 32, 117, 110, 108, 105, 107, 101, 32, 117, 110, 100, 111, 32, 109, 97, 110, 121, 32, 118, 97, 108, 117, 101])) (gN 2)) (sRt (dMs opJoin (dC (.str [32])) (aC (dLc (lZipL (aC (dMs opSplit (dV 2) (aC (dC (.str [32])) (aN))) (aC (dV 1) (aN)))) (gT 2 (gsC (gN 3) (gsC (gN 4) (gsN)))) (dTr (dV 4)) (dV 3) [3, 4]) (aN)))))))))
def lbls : List Nat := [115, 116, 97, 110, 100, 115, 32, 119, 111, 114, 100, 32, 110, 117, 109, 98, 101, 114, 32, 98, 111, 111, 107, 32, 119, 101, 105, 103, 104, 116, 115, 32, 105, 110, 100, 101, 120, 32, 112, 114, 105, 99, 101, 115, 32, 99, 101, 108, 108, 32, 116, 101, 120, 116, 32, 101, 109, 112, 116, 121, 32, 117, 110, 108, 105, 107, 101, 32, 117, 110, 100, 111, 32, 109, 97, 110, 121, 32, 118, 97, 108, 117, 101]
def prL (i : Nat) : List (List Nat × Bool) := [(labelOf 1, i == 1), (labelOf 2, i == 2), (labelOf 3, i == 3), (labelOf 4, i == 4), (labelOf 5, i == 5), (labelOf 6, i == 6), (labelOf 7, i == 7), (labelOf 8, i == 8), (labelOf 9, i == 9), (labelOf 11, i == 11), (labelOf 10, i == 10), (labelOf 12, i == 12), (labelOf 13, i == 13), ([118, 97, 108, 117, 101], true)]
theorem d__law_names {i : Nat} {p : Addr × Obj} {ds : List D} {S : Sto} {Q : DK} {R : RK} (hi : i ∈ [1, 2, 3, 4, 5, 6, 7, 8, 9, 10, 11, 12, 13]) (h : ((spN i p.1).g S ds).wp S Q R) : u__law_names i p (dStart 5 ds) S (endF Q R) := by
  have hh := sp1_inv h
  clear h
  obtain ⟨d, rfl, h⟩ := hh
  cases d with
  | obj b =>
    obtain ⟨rfl, h⟩ := h
    replace h : Q (.str (nmOf i)) S := h
    show u__law_names i p [some (.obj p.1), none, none, none, none] S _
    have sp : splD 32 [] [115, 116, 97, 110, 100, 115, 32, 119, 111, 114, 100, 32, 110, 117, 109, 98, 101, 114, 32, 98, 111, 111, 107, 32, 119, 101, 105, 103, 104, 116, 115, 32, 105, 110, 100, 101, 120, 32, 112, 114, 105, 99, 101, 115, 32, 99, 101, 108, 108, 32, 116, 101, 120, 116, 32, 101, 109, 112, 116, 121, 32, 117, 110, 108, 105, 107, 101, 32, 117, 110, 100, 111, 32, 109, 97, 110, 121, 32, 118, 97, 108, 117, 101]
      = [labelOf 1, labelOf 2, labelOf 3, labelOf 4, labelOf 5, labelOf 6, labelOf 7, labelOf 8, labelOf 9, labelOf 11, labelOf 10, labelOf 12, labelOf 13, [118, 97, 108, 117, 101]] := by decide
    simp only [u__law_names, dIsE, lZipL, sC, sIf, sRt, sAs, sX, sN, sRtN, sRs, sBk, sPar, sPar3, sSub, DEnds.seq, DEnds.loop, endF, dAnd, dOr, dNot, dT, dTr, tru, dB, dCh, dC, dIsi, tyD_non, tyD_bl, tyD_int, tyD_str, tyD_tup, tyD_lst, isTN, dAndV, dOrV, dNotV, dIfE, aN, aC, dTup, dLst, dLstM, dCall, dCB, dU, dSl, slD, oN, oS, gN, gT, gsC, gsN, lAny, lRng1, lRng2, lZip, itemsOf, lstOf, seqOf, dLc, wipeD, bYes, dFor, dApp, dMs, dErr, opAdd, opSub, opMod, opDiv, opPow, opMul, opLt, opGt, opLe, opGe, opEq, opNe, opIn, opNi, opInB, opIs, opIsn, opIsB, isNon, opNeg, opIx, opAll, opSum, opMin, opMax, opInt, opLen, opTup, opList, opBool, opJoin, eqD_int, eqD_str, eqD_bl, eqD_non, eqD_tup, eqD_lst, eqD_tup0, eqD_lst0, der_int, der_str, der_bl, der_non, der_tup, der_lst, eqOk_int, eqOk_str, PR.wp, RS.wp, sp0, sp1, sp2, sp3, sp4, dV, List.getElem?_cons_zero, List.getElem?_cons_succ, List.getElem?_nil, List.set_cons_zero, List.set_cons_succ, List.length_cons, List.length_nil, Option.some.injEq, true_and, and_true, Bool.not_true, Bool.not_false, opSplit, sp, List.cons_append, List.nil_append, catL]
    have fin : joinD [32] (((prL i).filter (·.2)).map (·.1)) = nmOf i ∧ ((((prL i).filter (·.2)).map (·.1)).map fun z : List Nat => z.length).sum + (((prL i).filter (·.2)).map (·.1)).length * 1 ≤ 16777216 := by
      simp only [List.mem_cons, List.not_mem_nil, or_false] at hi
      rcases hi with rfl | rfl | rfl | rfl | rfl | rfl | rfl | rfl | rfl | rfl | rfl | rfl | rfl <;> exact ⟨by decide, by decide⟩
    have go : ∀ K : List D → Sto → Prop, K (((prL i).filter (·.2)).map fun q => D.str q.1) S → lcGo (gT 2 (gsC (gN 3) (gsC (gN 4) gsN))) (dTr (dV 4)) (dV 3) [some (.obj p.1), some (.lst ((prL i).map fun q => D.bl q.2)), some (.str lbls), none, none] (zipD ((prL i).map fun q => D.str q.1) ((prL i).map fun q => D.bl q.2)) [] S K := fun K k => by
      have ez : zipD ((prL i).map fun q => D.str q.1) ((prL i).map fun q => D.bl q.2) = (prL i).map fun q => D.tup [.str q.1, .bl q.2] := rfl
      rw [ez]
      refine lc_mf (fun q : List Nat × Bool => D.tup [.str q.1, .bl q.2]) (·.2) (fun q => .str q.1) (prL i) [] (fun q hq KN KY k => ?_) (by rw [List.nil_append]; exact k)
      obtain ⟨x, b⟩ := q
      cases b <;> exact ⟨rfl, k⟩
    repeat (first | (refine go _ ?_; rw [sts_map]; exact ⟨fin.2, by rw [fin.1]; exact h⟩) | refine ⟨by decide, ?_⟩ | refine ⟨rfl, ?_⟩)
  | _ => exact h.elim
end DL

namespace DL
open PySem L2
/-! ### books.py -/
def ascB (l : List (List Nat)) : Bool := (List.range (l.length - 1)).all fun i => ltL (l.getD i []) (l.getD (i + 1) [])
def bkL (s : Int) (l : List (List Nat)) : Bool := l.all (isWd s) && (l.all fun w => decide (w.length = (l.getD 0 []).length) && decide (w.length ≤ 12)) && ascB l
/-- a book -/
def isBk (v : D) : Bool := match v with
  | .tup [.int s, .tup ws] => decide (2 ≤ s) && decide (s ≤ 4) && decide (ws.length ≤ 40) && (match sts ws with | some l => bkL s l | none => false)
  | _ => false
def sp_fits_book : DSp := sp1 fun S v => .pre (dok 60 v = true) (.ret (.bl (isBk v)))
def firstB (l : List (List Nat)) (m : Option Int) : Option (List Nat × List Nat) := (l.flatMap fun a => l.map fun b => (a, b)).find? fun p => !decide (p.1 = p.2) && fitsS (lossW p.1 p.2) m
def pairD : Option (List Nat × List Nat) → D
  | some p => .tup [.str p.1, .str p.2]
  | none => .non
def sp_first_bad : DSp := sp2 fun _ v m => match v, optD m with
  | .tup ws, some k => (match sts ws with | some l => .pre (∀ w ∈ l, digs w) (.ret (pairD (firstB l k))) | none => .no)
  | _, _ => .no
def sp_need_book : DSp := sp1 fun S v => .pre (dok 60 v = true) (if isBk v = true then .ret .non else .err ⟨4, none⟩)
/-- the words of a book -/
def bkW (v : D) : List (List Nat) := match v with
  | .tup [_, .tup ws] => (sts ws).getD []
  | _ => []
def mostV (v : D) : Option Int := match v with
  | .int i => some i
  | _ => none
def sp_shows : DSp := sp2 fun S v m => .pre (dok 60 v = true ∧ dok 60 m = true) (if isBk v = true then (if okMost m = true then .ret (.bl (firstB (bkW v) (mostV m)).isNone) else .err ⟨3, none⟩) else .err ⟨4, none⟩)
def sp_bad_pair : DSp := sp2 fun S v m => .pre (dok 60 v = true ∧ dok 60 m = true) (if isBk v = true then (if okMost m = true then .ret (pairD (firstB (bkW v) (mostV m))) else .err ⟨3, none⟩) else .err ⟨4, none⟩)
/-- all losses between different words -/
def lossesB (l : List (List Nat)) : List Int := ((l.flatMap fun a => l.map fun b => (a, b)).filter fun p => !decide (p.1 = p.2)).filterMap fun p => lossW p.1 p.2
def sureB (l : List (List Nat)) : Option Int := if lossesB l = [] then none else some (mnL (lossesB l) - 1)
def sp_sure_steps : DSp := sp1 fun S v => .pre (dok 60 v = true) (if isBk v = true then .ret (optI (sureB (bkW v))) else .err ⟨4, none⟩)
def u_fits_book : DS := sC (sIf (dOr (dNot (dTr (dIsi .tup (dV 0)))) (dOr (dT (dB opNe (dCB opLen (aC (dV 0) (aN))) (dC (.int 2)))) (dNot (dTr (dCall sp_is_whole (aC (dB opIx (dV 0) (dC (.int 0))) (aC (dC (.int 2)) (aC (dC (.int 4)) (aN))))))))) (sRt (dC (.bl false))) (sN)) (sC (sAs (dB opIx (dV 0) (dC (.int 1))) (gN 1)) (sC (sIf (dOr (dNot (dTr (dIsi .tup (dV 1)))) (dOr (dT (dB opGt (dCB opLen (aC (dV 1) (aN))) (dC (.int 40)))) (dNot (dTr (dCB opAll (aC (dLc (lAny (dV 1)) (gN 3) (bYes) (dCall sp_fits_word (aC (dB opIx (dV 0) (dC (.int 0))) (aC (dV 3) (aN)))) [3]) (aN))))))) (sRt (dC (.bl false))) (sN)) (sC (sIf (dNot (dTr (dCB opAll (aC (dLc (lAny (dV 1)) (gN 3) (bYes) (dAndV (dB opEq (dCB opLen (aC (dV 3) (aN))) (dCB opLen (aC (dB opIx (dV 1) (dC (.int 0))) (aN)))) (dB opLe (dCB opLen (aC (dV 3) (aN))) (dC (.int 12)))) [3]) (aN))))) (sRt (dC (.bl false))) (sN)) (sRt (dCB opAll (aC (dLc (lRng1 (aC (dB opSub (dCB opLen (aC (dV 1) (aN))) (dC (.int 1))) (aN))) (gN 2) (bYes) (dB opLt (dB opIx (dV 1) (dV 2)) (dB opIx (dV 1) (dB opAdd (dV 2) (dC (.int 1))))) [2]) (aN)))))))
def u_first_bad : DS := sC (dFor (lAny (dV 0)) (gN 2) (dFor (lAny (dV 0)) (gN 3) (sIf (dAnd (dT (dB opNe (dV 2) (dV 3))) (dTr (dCall sp_fits_steps (aC (dCall sp_loss_of (aC (dV 2) (aC (dV 3) (aN)))) (aC (dV 1) (aN)))))) (sRt (dTup (aC (dV 2) (aC (dV 3) (aN))))) (sN)))) (sRt (dC .non))
def u_need_book : DS := sIf (dNot (dTr (dCall sp_fits_book (aC (dV 0) (aN))))) (sRs 4) (sN)
def u_shows : DS := sC (sX (dCall sp_need_book (aC (dV 0) (aN)))) (sC (sX (dCall sp_need_most (aC (dV 1) (aN)))) (sRt (dB opIs (dCall sp_first_bad (aC (dB opIx (dV 0) (dC (.int 1))) (aC (dV 1) (aN)))) (dC .non))))
def u_bad_pair : DS := sC (sX (dCall sp_need_book (aC (dV 0) (aN)))) (sC (sX (dCall sp_need_most (aC (dV 1) (aN)))) (sRt (dCall sp_first_bad (aC (dB opIx (dV 0) (dC (.int 1))) (aC (dV 1) (aN))))))
def u_sure_steps : DS := sC (sX (dCall sp_need_book (aC (dV 0) (aN)))) (sC (sAs (dLc2 (lAny (dB opIx (dV 0) (dC (.int 1)))) (gN 2) (bYes) (lAny (dB opIx (dV 0) (dC (.int 1)))) (gN 3) (dT (dB opNe (dV 2) (dV 3))) (dCall sp_loss_of (aC (dV 2) (aC (dV 3) (aN)))) [2, 3] [3]) (gN 1)) (sC (sAs (dLc (lAny (dV 1)) (gN 4) (dT (dB opIsn (dV 4) (dC .non))) (dV 4) [4]) (gN 1)) (sRt (dIfE (dT (dB opNe (dV 1) (dLst (aN)))) (dB opSub (dCB opMin (aC (dV 1) (aN))) (dC (.int 1))) (dC .non)))))
theorem sts_str {x : List Nat} {r : List D} : sts (.str x :: r) = (sts r).map (x :: ·) := by
  show (match D.str x, sts r with | .str b, some bs => some (b :: bs) | _, _ => none) = _
  cases sts r <;> rfl
theorem sts_no {x : D} {r : List D} (h : ∀ s, x ≠ .str s) : sts (x :: r) = none := by
  show (match x, sts r with | .str b, some bs => some (b :: bs) | _, _ => none) = _
  cases x with
  | str s => exact absurd rfl (h s)
  | _ => rfl
theorem all_wd {s : Int} {ws : List D} : ws.all (isWdD s) = (match sts ws with | some l => l.all (isWd s) | none => false) := by
  induction ws with
  | nil => rfl
  | cons w r ih =>
    rw [List.all_cons, ih]
    cases w with
    | str x =>
      rw [sts_str]
      cases sts r with
      | none => simp
      | some l => rfl
    | _ => rw [sts_no (fun _ z => by cases z)]; rfl
theorem lens_lt {l : List (List Nat)} : (l.map D.str).length = l.length := List.length_map _
theorem asc_go (l : List (List Nat)) {S : Sto} {Q : DK} {R : RK} (hl : l.length ≤ 40) (h : Q (.bl (ascB l)) S) (x y : Option D) :
    (sRt (dCB opAll (aC (dLc (lRng1 (aC (dB opSub (dCB opLen (aC (dV 1) (aN))) (dC (.int 1))) (aN))) (gN 2) (bYes) (dB opLt (dB opIx (dV 1) (dV 2)) (dB opIx (dV 1) (dB opAdd (dV 2) (dC (.int 1))))) [2]) (aN)))) [x, some (.tup (l.map D.str)), none, y] S (endF Q R) := by
  simp only [sC, sIf, sRt, sAs, sX, sN, sRtN, sRs, sBk, sPar, sPar3, sSub, DEnds.seq, DEnds.loop, endF, dAnd, dOr, dNot, dT, dTr, tru, dB, dCh, dC, dIsi, tyD_non, tyD_bl, tyD_int, tyD_str, tyD_tup, tyD_lst, isTN, dAndV, dOrV, dNotV, dIfE, aN, aC, dTup, dLst, dLstM, dCall, dCB, dU, dSl, slD, oN, oS, gN, gT, gsC, gsN, lAny, lRng1, lRng2, lZip, itemsOf, lstOf, seqOf, dLc, wipeD, bYes, dFor, dApp, dMs, dErr, opAdd, opSub, opMod, opDiv, opPow, opMul, opLt, opGt, opLe, opGe, opEq, opNe, opIn, opNi, opInB, opIs, opIsn, opIsB, isNon, opNeg, opIx, opAll, opSum, opMin, opMax, opInt, opLen, opTup, opList, opBool, opJoin, eqD_int, eqD_str, eqD_bl, eqD_non, eqD_tup, eqD_lst, eqD_tup0, eqD_lst0, der_int, der_str, der_bl, der_non, der_tup, der_lst, eqOk_int, eqOk_str, PR.wp, RS.wp, sp0, sp1, sp2, sp3, sp4, dV, List.getElem?_cons_zero, List.getElem?_cons_succ, List.getElem?_nil, List.set_cons_zero, List.set_cons_succ, List.length_cons, List.length_nil, Option.some.injEq, true_and, and_true, Bool.not_true, Bool.not_false, lens_lt]
  refine ⟨by omega, ?_⟩
  unfold rngL
  have e : ((l.length : Int) - 1).toNat = l.length - 1 := by omega
  rw [e]
  refine lc_map (fun i : Nat => .int (0 + (i : Nat))) (fun i => .bl (ltL (l.getD i []) (l.getD (i + 1) []))) (List.range (l.length - 1)) [] (fun i hi KN KY k => ?_) ?_
  · have hi : i < l.length - 1 := List.mem_range.mp hi
    have h1 : i < (l.map D.str).length := by rw [List.length_map]; omega
    have h2 : i + 1 < (l.map D.str).length := by rw [List.length_map]; omega
    have a1 : atI (l.map D.str) (0 + (i : Nat) : Int) = some (.str (l.getD i [])) := by
      rw [Int.zero_add, atI_nat h1, List.getElem_map, List.getD_eq_getElem?_getD, List.getElem?_eq_getElem (by omega)]; rfl
    have a2 : atI (l.map D.str) (0 + (i : Nat) + 1 : Int) = some (.str (l.getD (i + 1) [])) := by
      have : (0 + (i : Nat) + 1 : Int) = ((i + 1 : Nat) : Int) := by omega
      rw [this, atI_nat h2, List.getElem_map, List.getD_eq_getElem?_getD, List.getElem?_eq_getElem (by omega)]; rfl
    simp only [lcStep, sC, sIf, sRt, sAs, sX, sN, sRtN, sRs, sBk, sPar, sPar3, sSub, DEnds.seq, DEnds.loop, endF, dAnd, dOr, dNot, dT, dTr, tru, dB, dCh, dC, dIsi, tyD_non, tyD_bl, tyD_int, tyD_str, tyD_tup, tyD_lst, isTN, dAndV, dOrV, dNotV, dIfE, aN, aC, dTup, dLst, dLstM, dCall, dCB, dU, dSl, slD, oN, oS, gN, gT, gsC, gsN, lAny, lRng1, lRng2, lZip, itemsOf, lstOf, seqOf, dLc, wipeD, bYes, dFor, dApp, dMs, dErr, opAdd, opSub, opMod, opDiv, opPow, opMul, opLt, opGt, opLe, opGe, opEq, opNe, opIn, opNi, opInB, opIs, opIsn, opIsB, isNon, opNeg, opIx, opAll, opSum, opMin, opMax, opInt, opLen, opTup, opList, opBool, opJoin, eqD_int, eqD_str, eqD_bl, eqD_non, eqD_tup, eqD_lst, eqD_tup0, eqD_lst0, der_int, der_str, der_bl, der_non, der_tup, der_lst, eqOk_int, eqOk_str, PR.wp, RS.wp, sp0, sp1, sp2, sp3, sp4, dV, List.getElem?_cons_zero, List.getElem?_cons_succ, List.getElem?_nil, List.set_cons_zero, List.set_cons_succ, List.length_cons, List.length_nil, Option.some.injEq, true_and, and_true, Bool.not_true, Bool.not_false]
    rw [a1, a2]
    exact k
  · rw [List.nil_append, bls_map]
    show Q (.bl (((List.range (l.length - 1)).map _).all id)) S
    rw [List.all_map]
    exact h
theorem isBk_tup {s : Int} {ws : List D} {l : List (List Nat)} (e : sts ws = some l) : isBk (.tup [.int s, .tup ws]) = (decide (2 ≤ s) && decide (s ≤ 4) && decide (ws.length ≤ 40) && bkL s l) := by
  show (decide (2 ≤ s) && decide (s ≤ 4) && decide (ws.length ≤ 40) && (match sts ws with | some l => bkL s l | none => false)) = _
  rw [e]
theorem d_fits_book {ds : List D} {S : Sto} {Q : DK} {R : RK} (h : (sp_fits_book.g S ds).wp S Q R) : u_fits_book (dStart 4 ds) S (endF Q R) := by
  obtain ⟨v, rfl, hd, h⟩ := sp1_inv h
  have h : Q (.bl (isBk v)) S := h
  show u_fits_book [some v, none, none, none] S _
  cases v with
  | tup xs =>
    match xs, hd, h with
    | [x, y], hd, h =>
      have a0 : atI [x, y] (0 : Int) = some x := rfl
      have a1 : atI [x, y] (1 : Int) = some y := rfl
      have e2 : (decide (((0 + 1 + 1 : Nat) : Int) = 2)) = true := rfl
      simp only [u_fits_book, sC, sIf, sRt, sAs, sX, sN, sRtN, sRs, sBk, sPar, sPar3, sSub, DEnds.seq, DEnds.loop, endF, dAnd, dOr, dNot, dT, dTr, tru, dB, dCh, dC, dIsi, tyD_non, tyD_bl, tyD_int, tyD_str, tyD_tup, tyD_lst, isTN, dAndV, dOrV, dNotV, dIfE, aN, aC, dTup, dLst, dLstM, dCall, dCB, dU, dSl, slD, oN, oS, gN, gT, gsC, gsN, lAny, lRng1, lRng2, lZip, itemsOf, lstOf, seqOf, dLc, wipeD, bYes, dFor, dApp, dMs, dErr, opAdd, opSub, opMod, opDiv, opPow, opMul, opLt, opGt, opLe, opGe, opEq, opNe, opIn, opNi, opInB, opIs, opIsn, opIsB, isNon, opNeg, opIx, opAll, opSum, opMin, opMax, opInt, opLen, opTup, opList, opBool, opJoin, eqD_int, eqD_str, eqD_bl, eqD_non, eqD_tup, eqD_lst, eqD_tup0, eqD_lst0, der_int, der_str, der_bl, der_non, der_tup, der_lst, eqOk_int, eqOk_str, PR.wp, RS.wp, sp0, sp1, sp2, sp3, sp4, dV, List.getElem?_cons_zero, List.getElem?_cons_succ, List.getElem?_nil, List.set_cons_zero, List.set_cons_succ, List.length_cons, List.length_nil, Option.some.injEq, true_and, and_true, Bool.not_true, Bool.not_false, sp_is_whole, sp_fits_word, a0, a1, e2]
      have hx := ty_dok (S := S) (dok_tup hd x (by simp))
      have hy := dok_tup hd y (by simp)
      refine ⟨hx, ?_⟩
      cases x with
      | int s =>
        have e3 : isWh (.int s) 2 4 = (decide (2 ≤ s) && decide (s ≤ 4)) := rfl
        rw [e3]
        cases b1 : (decide (2 ≤ s) && decide (s ≤ 4)) with
        | false =>
          have : isBk (.tup [.int s, y]) = false := by
            cases y with
            | tup ws => show ((decide (2 ≤ s) && decide (s ≤ 4)) && _ && _) = false; rw [b1]; rfl
            | _ => rfl
          rw [this] at h
          exact h
        | true =>
          cases y with
          | tup ws =>
            have e4 : decide ((40 : Int) < (ws.length : Nat)) = !decide (ws.length ≤ 40) := by
              by_cases q : ws.length ≤ 40
              · rw [decide_eq_true q, decide_eq_false (by omega)]; rfl
              · rw [decide_eq_false q, decide_eq_true (by omega)]; rfl
            simp only [sC, sIf, sRt, sAs, sX, sN, sRtN, sRs, sBk, sPar, sPar3, sSub, DEnds.seq, DEnds.loop, endF, dAnd, dOr, dNot, dT, dTr, tru, dB, dCh, dC, dIsi, tyD_non, tyD_bl, tyD_int, tyD_str, tyD_tup, tyD_lst, isTN, dAndV, dOrV, dNotV, dIfE, aN, aC, dTup, dLst, dLstM, dCall, dCB, dU, dSl, slD, oN, oS, gN, gT, gsC, gsN, lAny, lRng1, lRng2, lZip, itemsOf, lstOf, seqOf, dLc, wipeD, bYes, dFor, dApp, dMs, dErr, opAdd, opSub, opMod, opDiv, opPow, opMul, opLt, opGt, opLe, opGe, opEq, opNe, opIn, opNi, opInB, opIs, opIsn, opIsB, isNon, opNeg, opIx, opAll, opSum, opMin, opMax, opInt, opLen, opTup, opList, opBool, opJoin, eqD_int, eqD_str, eqD_bl, eqD_non, eqD_tup, eqD_lst, eqD_tup0, eqD_lst0, der_int, der_str, der_bl, der_non, der_tup, der_lst, eqOk_int, eqOk_str, PR.wp, RS.wp, sp0, sp1, sp2, sp3, sp4, dV, List.getElem?_cons_zero, List.getElem?_cons_succ, List.getElem?_nil, List.set_cons_zero, List.set_cons_succ, List.length_cons, List.length_nil, Option.some.injEq, true_and, and_true, Bool.not_true, Bool.not_false, e4]
            cases b2 : decide (ws.length ≤ 40) with
            | false =>
              have : isBk (.tup [.int s, .tup ws]) = false := by show ((decide (2 ≤ s) && decide (s ≤ 4)) && decide (ws.length ≤ 40) && _) = false; rw [b2]; simp
              rw [this] at h
              exact h
            | true =>
              simp only [Bool.not_true]
              have em : ws = ws.map (fun w => w) := (List.map_id' ws).symm
              rw [show lcGo (gN 3) bYes = lcGo (gN 3) bYes from rfl]
              refine lc_same (fun w => .bl (isWdD s w)) ws [] (fun w hw KN KY k => ?_) ?_
              · simp only [lcStep, sC, sIf, sRt, sAs, sX, sN, sRtN, sRs, sBk, sPar, sPar3, sSub, DEnds.seq, DEnds.loop, endF, dAnd, dOr, dNot, dT, dTr, tru, dB, dCh, dC, dIsi, tyD_non, tyD_bl, tyD_int, tyD_str, tyD_tup, tyD_lst, isTN, dAndV, dOrV, dNotV, dIfE, aN, aC, dTup, dLst, dLstM, dCall, dCB, dU, dSl, slD, oN, oS, gN, gT, gsC, gsN, lAny, lRng1, lRng2, lZip, itemsOf, lstOf, seqOf, dLc, wipeD, bYes, dFor, dApp, dMs, dErr, opAdd, opSub, opMod, opDiv, opPow, opMul, opLt, opGt, opLe, opGe, opEq, opNe, opIn, opNi, opInB, opIs, opIsn, opIsB, isNon, opNeg, opIx, opAll, opSum, opMin, opMax, opInt, opLen, opTup, opList, opBool, opJoin, eqD_int, eqD_str, eqD_bl, eqD_non, eqD_tup, eqD_lst, eqD_tup0, eqD_lst0, der_int, der_str, der_bl, der_non, der_tup, der_lst, eqOk_int, eqOk_str, PR.wp, RS.wp, sp0, sp1, sp2, sp3, sp4, dV, List.getElem?_cons_zero, List.getElem?_cons_succ, List.getElem?_nil, List.set_cons_zero, List.set_cons_succ, List.length_cons, List.length_nil, Option.some.injEq, true_and, and_true, Bool.not_true, Bool.not_false, a0]
                exact ⟨ty_dok (n := 58) (dok_tup hy w hw), k⟩
              · rw [List.nil_append, bls_map]
                simp only [sC, sIf, sRt, sAs, sX, sN, sRtN, sRs, sBk, sPar, sPar3, sSub, DEnds.seq, DEnds.loop, endF, dAnd, dOr, dNot, dT, dTr, tru, dB, dCh, dC, dIsi, tyD_non, tyD_bl, tyD_int, tyD_str, tyD_tup, tyD_lst, isTN, dAndV, dOrV, dNotV, dIfE, aN, aC, dTup, dLst, dLstM, dCall, dCB, dU, dSl, slD, oN, oS, gN, gT, gsC, gsN, lAny, lRng1, lRng2, lZip, itemsOf, lstOf, seqOf, dLc, wipeD, bYes, dFor, dApp, dMs, dErr, opAdd, opSub, opMod, opDiv, opPow, opMul, opLt, opGt, opLe, opGe, opEq, opNe, opIn, opNi, opInB, opIs, opIsn, opIsB, isNon, opNeg, opIx, opAll, opSum, opMin, opMax, opInt, opLen, opTup, opList, opBool, opJoin, eqD_int, eqD_str, eqD_bl, eqD_non, eqD_tup, eqD_lst, eqD_tup0, eqD_lst0, der_int, der_str, der_bl, der_non, der_tup, der_lst, eqOk_int, eqOk_str, PR.wp, RS.wp, sp0, sp1, sp2, sp3, sp4, dV, List.getElem?_cons_zero, List.getElem?_cons_succ, List.getElem?_nil, List.set_cons_zero, List.set_cons_succ, List.length_cons, List.length_nil, Option.some.injEq, true_and, and_true, Bool.not_true, Bool.not_false]
                rw [List.all_map, show (id ∘ fun w => isWdD s w) = isWdD s from rfl, all_wd]
                cases e5 : sts ws with
                | none =>
                  have : isBk (.tup [.int s, .tup ws]) = false := by show (_ && (match sts ws with | some l => bkL s l | none => false)) = false; rw [e5]; simp
                  rw [this] at h
                  exact h
                | some l =>
                  rw [isBk_tup e5, b1, b2] at h
                  have e6 := sts_eq e5
                  subst e6
                  have hl : l.length ≤ 40 := by rw [lens_lt] at b2; exact of_decide_eq_true b2
                  unfold bkL at h
                  dsimp only
                  cases b3 : l.all (isWd s) with
                  | false => rw [b3] at h; exact h
                  | true =>
                    rw [b3] at h
                    refine lc_map D.str (fun w => .bl (decide (w.length = (l.getD 0 []).length) && decide (w.length ≤ 12))) l [] (fun w hw KN KY k => ?_) ?_
                    · have hne : 0 < (l.map D.str).length := by rw [lens_lt]; exact List.length_pos_of_mem hw
                      have a2 : atI (l.map D.str) (0 : Int) = some (.str (l.getD 0 [])) := by
                        have := atI_nat (xs := l.map D.str) (i := 0) hne
                        rw [show ((0 : Nat) : Int) = 0 from rfl] at this
                        rw [this, List.getElem_map, List.getD_eq_getElem?_getD, List.getElem?_eq_getElem (by rw [lens_lt] at hne; exact hne)]; rfl
                      simp only [lcStep, sC, sIf, sRt, sAs, sX, sN, sRtN, sRs, sBk, sPar, sPar3, sSub, DEnds.seq, DEnds.loop, endF, dAnd, dOr, dNot, dT, dTr, tru, dB, dCh, dC, dIsi, tyD_non, tyD_bl, tyD_int, tyD_str, tyD_tup, tyD_lst, isTN, dAndV, dOrV, dNotV, dIfE, aN, aC, dTup, dLst, dLstM, dCall, dCB, dU, dSl, slD, oN, oS, gN, gT, gsC, gsN, lAny, lRng1, lRng2, lZip, itemsOf, lstOf, seqOf, dLc, wipeD, bYes, dFor, dApp, dMs, dErr, opAdd, opSub, opMod, opDiv, opPow, opMul, opLt, opGt, opLe, opGe, opEq, opNe, opIn, opNi, opInB, opIs, opIsn, opIsB, isNon, opNeg, opIx, opAll, opSum, opMin, opMax, opInt, opLen, opTup, opList, opBool, opJoin, eqD_int, eqD_str, eqD_bl, eqD_non, eqD_tup, eqD_lst, eqD_tup0, eqD_lst0, der_int, der_str, der_bl, der_non, der_tup, der_lst, eqOk_int, eqOk_str, PR.wp, RS.wp, sp0, sp1, sp2, sp3, sp4, dV, List.getElem?_cons_zero, List.getElem?_cons_succ, List.getElem?_nil, List.set_cons_zero, List.set_cons_succ, List.length_cons, List.length_nil, Option.some.injEq, true_and, and_true, Bool.not_true, Bool.not_false, a2]
                      have e7 : decide (((w.length : Nat) : Int) = ((l.getD 0 []).length : Nat)) = decide (w.length = (l.getD 0 []).length) := by congr 1; exact propext (by omega)
                      have e8 : decide (((w.length : Nat) : Int) ≤ 12) = decide (w.length ≤ 12) := by congr 1; exact propext (by omega)
                      rw [e7, e8]
                      refine ch_int (Q := fun d _ => KY d S) (S := S) k
                    · rw [List.nil_append, bls_map]
                      simp only [sC, sIf, sRt, sAs, sX, sN, sRtN, sRs, sBk, sPar, sPar3, sSub, DEnds.seq, DEnds.loop, endF, dAnd, dOr, dNot, dT, dTr, tru, dB, dCh, dC, dIsi, tyD_non, tyD_bl, tyD_int, tyD_str, tyD_tup, tyD_lst, isTN, dAndV, dOrV, dNotV, dIfE, aN, aC, dTup, dLst, dLstM, dCall, dCB, dU, dSl, slD, oN, oS, gN, gT, gsC, gsN, lAny, lRng1, lRng2, lZip, itemsOf, lstOf, seqOf, dLc, wipeD, bYes, dFor, dApp, dMs, dErr, opAdd, opSub, opMod, opDiv, opPow, opMul, opLt, opGt, opLe, opGe, opEq, opNe, opIn, opNi, opInB, opIs, opIsn, opIsB, isNon, opNeg, opIx, opAll, opSum, opMin, opMax, opInt, opLen, opTup, opList, opBool, opJoin, eqD_int, eqD_str, eqD_bl, eqD_non, eqD_tup, eqD_lst, eqD_tup0, eqD_lst0, der_int, der_str, der_bl, der_non, der_tup, der_lst, eqOk_int, eqOk_str, PR.wp, RS.wp, sp0, sp1, sp2, sp3, sp4, dV, List.getElem?_cons_zero, List.getElem?_cons_succ, List.getElem?_nil, List.set_cons_zero, List.set_cons_succ, List.length_cons, List.length_nil, Option.some.injEq, true_and, and_true, Bool.not_true, Bool.not_false]
                      rw [List.all_map, show (id ∘ fun w : List Nat => decide (w.length = (l.getD 0 []).length) && decide (w.length ≤ 12)) = fun w : List Nat => decide (w.length = (l.getD 0 []).length) && decide (w.length ≤ 12) from rfl]
                      cases b4 : (l.all fun w => decide (w.length = (l.getD 0 []).length) && decide (w.length ≤ 12)) with
                      | false => rw [b4] at h; exact h
                      | true =>
                        rw [b4] at h
                        exact asc_go (R := R) l hl h _ _
          | obj a => simp [dok] at hy
          | cst _ => simp [dok] at hy
          | scr _ => simp [dok] at hy
          | _ => exact h
      | obj a => obtain ⟨_, hx⟩ := hx; cases tyD_obj hx; exact h
      | _ => exact h
    | [], hd, h => exact ⟨rfl, h⟩
    | [x], hd, h =>
      have q : isBk (.tup [x]) = false := by cases x <;> rfl
      rw [q] at h
      exact ⟨rfl, h⟩
    | a :: b :: c :: r, hd, h =>
      have e : decide ((((r.length + 1 + 1 + 1 : Nat)) : Int) = 2) = false := decide_eq_false (by omega)
      have q : isBk (.tup (a :: b :: c :: r)) = false := by cases a <;> cases b <;> rfl
      rw [q] at h
      simp only [u_fits_book, sC, sIf, sRt, sAs, sX, sN, sRtN, sRs, sBk, sPar, sPar3, sSub, DEnds.seq, DEnds.loop, endF, dAnd, dOr, dNot, dT, dTr, tru, dB, dCh, dC, dIsi, tyD_non, tyD_bl, tyD_int, tyD_str, tyD_tup, tyD_lst, isTN, dAndV, dOrV, dNotV, dIfE, aN, aC, dTup, dLst, dLstM, dCall, dCB, dU, dSl, slD, oN, oS, gN, gT, gsC, gsN, lAny, lRng1, lRng2, lZip, itemsOf, lstOf, seqOf, dLc, wipeD, bYes, dFor, dApp, dMs, dErr, opAdd, opSub, opMod, opDiv, opPow, opMul, opLt, opGt, opLe, opGe, opEq, opNe, opIn, opNi, opInB, opIs, opIsn, opIsB, isNon, opNeg, opIx, opAll, opSum, opMin, opMax, opInt, opLen, opTup, opList, opBool, opJoin, eqD_int, eqD_str, eqD_bl, eqD_non, eqD_tup, eqD_lst, eqD_tup0, eqD_lst0, der_int, der_str, der_bl, der_non, der_tup, der_lst, eqOk_int, eqOk_str, PR.wp, RS.wp, sp0, sp1, sp2, sp3, sp4, dV, List.getElem?_cons_zero, List.getElem?_cons_succ, List.getElem?_nil, List.set_cons_zero, List.set_cons_succ, List.length_cons, List.length_nil, Option.some.injEq, true_and, and_true, Bool.not_true, Bool.not_false, sp_is_whole, sp_fits_word, e]
      exact h
  | obj a => simp [dok] at hd
  | cst _ => simp [dok] at hd
  | scr _ => simp [dok] at hd
  | _ => exact h
theorem optD_V {m : D} {k : Option Int} (h : optD m = some k) : m = optI k := by
  cases m with
  | non => cases h; rfl
  | int i => cases h; rfl
  | _ => cases h
theorem optD_optI {k : Option Int} : optD (optI k) = some k := by cases k <;> rfl
def badC (m : Option Int) (p : List Nat × List Nat) : Bool := !decide (p.1 = p.2) && fitsS (lossW p.1 p.2) m
def ffB (l : List (List Nat)) (m : Option Int) (r : List (List Nat)) : Option (List Nat × List Nat) := (r.flatMap fun a => l.map fun b => (a, b)).find? (badC m)
theorem ffB_cons {l : List (List Nat)} {m : Option Int} {a : List Nat} {r : List (List Nat)} : ffB l m (a :: r) = ((l.map fun b => (a, b)).find? (badC m)).or (ffB l m r) := by
  unfold ffB
  rw [List.flatMap_cons, List.find?_append]
theorem d_first_bad {ds : List D} {S : Sto} {Q : DK} {R : RK} (h : (sp_first_bad.g S ds).wp S Q R) : u_first_bad (dStart 4 ds) S (endF Q R) := by
  have hh := sp2_inv h
  clear h
  obtain ⟨v, m, rfl, h⟩ := hh
  cases v with
  | tup ws =>
    replace h : (match optD m with | some k => (match sts ws with | some l => RS.pre (∀ w ∈ l, digs w) (.ret (pairD (firstB l k))) | none => .no) | none => .no).wp S Q R := by
      cases e : optD m <;> rw [e] at h <;> exact h
    cases e : optD m with
    | none => rw [e] at h; exact h.elim
    | some k =>
      rw [e] at h
      have em := optD_V e
      subst em
      replace h : (match sts ws with | some l => RS.pre (∀ w ∈ l, digs w) (.ret (pairD (firstB l k))) | none => .no).wp S Q R := h
      cases e5 : sts ws with
      | none => rw [e5] at h; exact h.elim
      | some l =>
        rw [e5] at h
        obtain ⟨hd, h⟩ := h
        replace h : Q (pairD (ffB l k l)) S := h
        have e6 := sts_eq e5
        subst e6
        show u_first_bad [some (.tup (l.map D.str)), some (optI k), none, none] S _
        simp only [u_first_bad, sC, dFor, lAny, dV, itemsOf, List.getElem?_cons_zero]
        refine for_inv (fun rest env S1 => S1 = S ∧ ∃ r x y, rest = r.map D.str ∧ (∀ w ∈ r, w ∈ l) ∧ env = [some (.tup (l.map D.str)), some (optI k), x, y] ∧ Q (pairD (ffB l k r)) S) ?_ ?_ _ _ _ ⟨rfl, l, none, none, rfl, fun _ w => w, rfl, h⟩
        · rintro d rest env S1 ⟨rfl, r, x, y, er, hr, rfl, hq⟩ K hK
          cases r with
          | nil => cases er
          | cons a r =>
            obtain ⟨rfl, rfl⟩ := List.cons.inj er
            have ha := hr a List.mem_cons_self
            simp only [sC, sIf, sRt, sAs, sX, sN, sRtN, sRs, sBk, sPar, sPar3, sSub, DEnds.seq, DEnds.loop, endF, dAnd, dOr, dNot, dT, dTr, tru, dB, dCh, dC, dIsi, tyD_non, tyD_bl, tyD_int, tyD_str, tyD_tup, tyD_lst, isTN, dAndV, dOrV, dNotV, dIfE, aN, aC, dTup, dLst, dLstM, dCall, dCB, dU, dSl, slD, oN, oS, gN, gT, gsC, gsN, lAny, lRng1, lRng2, lZip, itemsOf, lstOf, seqOf, dLc, wipeD, bYes, dFor, dApp, dMs, dErr, opAdd, opSub, opMod, opDiv, opPow, opMul, opLt, opGt, opLe, opGe, opEq, opNe, opIn, opNi, opInB, opIs, opIsn, opIsB, isNon, opNeg, opIx, opAll, opSum, opMin, opMax, opInt, opLen, opTup, opList, opBool, opJoin, eqD_int, eqD_str, eqD_bl, eqD_non, eqD_tup, eqD_lst, eqD_tup0, eqD_lst0, der_int, der_str, der_bl, der_non, der_tup, der_lst, eqOk_int, eqOk_str, PR.wp, RS.wp, sp0, sp1, sp2, sp3, sp4, dV, List.getElem?_cons_zero, List.getElem?_cons_succ, List.getElem?_nil, List.set_cons_zero, List.set_cons_succ, List.length_cons, List.length_nil, Option.some.injEq, true_and, and_true, Bool.not_true, Bool.not_false]
            refine for_inv (fun rest2 env S2 => S2 = S1 ∧ ∃ r2 z, rest2 = r2.map D.str ∧ (∀ w ∈ r2, w ∈ l) ∧ env = [some (.tup (l.map D.str)), some (optI k), some (.str a), z] ∧ Q (pairD (((r2.map fun b => (a, b)).find? (badC k)).or (ffB l k r))) S1) ?_ ?_ _ _ _ ⟨rfl, l, y, rfl, fun _ w => w, rfl, by rw [ffB_cons] at hq; exact hq⟩
            · rintro d2 rest2 env2 S2 ⟨rfl, r2, z, er2, hr2, rfl, hq2⟩ K2 hK2
              cases r2 with
              | nil => cases er2
              | cons b r2 =>
                obtain ⟨rfl, rfl⟩ := List.cons.inj er2
                have hb := hr2 b List.mem_cons_self
                simp only [sC, sIf, sRt, sAs, sX, sN, sRtN, sRs, sBk, sPar, sPar3, sSub, DEnds.seq, DEnds.loop, endF, dAnd, dOr, dNot, dT, dTr, tru, dB, dCh, dC, dIsi, tyD_non, tyD_bl, tyD_int, tyD_str, tyD_tup, tyD_lst, isTN, dAndV, dOrV, dNotV, dIfE, aN, aC, dTup, dLst, dLstM, dCall, dCB, dU, dSl, slD, oN, oS, gN, gT, gsC, gsN, lAny, lRng1, lRng2, lZip, itemsOf, lstOf, seqOf, dLc, wipeD, bYes, dFor, dApp, dMs, dErr, opAdd, opSub, opMod, opDiv, opPow, opMul, opLt, opGt, opLe, opGe, opEq, opNe, opIn, opNi, opInB, opIs, opIsn, opIsB, isNon, opNeg, opIx, opAll, opSum, opMin, opMax, opInt, opLen, opTup, opList, opBool, opJoin, eqD_int, eqD_str, eqD_bl, eqD_non, eqD_tup, eqD_lst, eqD_tup0, eqD_lst0, der_int, der_str, der_bl, der_non, der_tup, der_lst, eqOk_int, eqOk_str, PR.wp, RS.wp, sp0, sp1, sp2, sp3, sp4, dV, List.getElem?_cons_zero, List.getElem?_cons_succ, List.getElem?_nil, List.set_cons_zero, List.set_cons_succ, List.length_cons, List.length_nil, Option.some.injEq, true_and, and_true, Bool.not_true, Bool.not_false, sp_loss_of, sp_fits_steps]
                have go : badC k (a, b) = false → K2 [some (.tup (l.map D.str)), some (optI k), some (.str a), some (.str b)] S2 := fun eb => by
                  refine hK2 _ _ ⟨rfl, r2, some (.str b), rfl, fun w hw => hr2 w (List.mem_cons_of_mem _ hw), rfl, ?_⟩
                  rw [List.map_cons, List.find?_cons, eb] at hq2
                  exact hq2
                have eb : badC k (a, b) = (!decide (a = b) && fitsS (lossW a b) k) := rfl
                cases b1 : decide (a = b) with
                | true => exact go (by rw [eb, b1]; rfl)
                | false =>
                  simp only [Bool.not_false]
                  refine ⟨⟨hd a ha, hd b hb⟩, ?_⟩
                  rw [optD_optI, optD_optI]
                  simp only [sC, sIf, sRt, sAs, sX, sN, sRtN, sRs, sBk, sPar, sPar3, sSub, DEnds.seq, DEnds.loop, endF, dAnd, dOr, dNot, dT, dTr, tru, dB, dCh, dC, dIsi, tyD_non, tyD_bl, tyD_int, tyD_str, tyD_tup, tyD_lst, isTN, dAndV, dOrV, dNotV, dIfE, aN, aC, dTup, dLst, dLstM, dCall, dCB, dU, dSl, slD, oN, oS, gN, gT, gsC, gsN, lAny, lRng1, lRng2, lZip, itemsOf, lstOf, seqOf, dLc, wipeD, bYes, dFor, dApp, dMs, dErr, opAdd, opSub, opMod, opDiv, opPow, opMul, opLt, opGt, opLe, opGe, opEq, opNe, opIn, opNi, opInB, opIs, opIsn, opIsB, isNon, opNeg, opIx, opAll, opSum, opMin, opMax, opInt, opLen, opTup, opList, opBool, opJoin, eqD_int, eqD_str, eqD_bl, eqD_non, eqD_tup, eqD_lst, eqD_tup0, eqD_lst0, der_int, der_str, der_bl, der_non, der_tup, der_lst, eqOk_int, eqOk_str, PR.wp, RS.wp, sp0, sp1, sp2, sp3, sp4, dV, List.getElem?_cons_zero, List.getElem?_cons_succ, List.getElem?_nil, List.set_cons_zero, List.set_cons_succ, List.length_cons, List.length_nil, Option.some.injEq, true_and, and_true, Bool.not_true, Bool.not_false]
                  cases b2 : fitsS (lossW a b) k with
                  | false => exact go (by rw [eb, b1, b2]; rfl)
                  | true =>
                    rw [List.map_cons, List.find?_cons, eb, b1, b2] at hq2
                    exact ⟨by decide, hq2⟩
            · rintro env2 S2 ⟨rfl, r2, z, er2, hr2, rfl, hq2⟩
              cases r2 with
              | cons _ _ => cases er2
              | nil => exact hK _ _ ⟨rfl, r, some (.str a), z, rfl, fun w hw => hr w (List.mem_cons_of_mem _ hw), rfl, hq2⟩
        · rintro env S1 ⟨rfl, r, x, y, er, hr, rfl, hq⟩
          cases r with
          | cons _ _ => cases er
          | nil => exact hq
  | _ => exact h.elim
theorem d_need_book {ds : List D} {S : Sto} {Q : DK} {R : RK} (h : (sp_need_book.g S ds).wp S Q R) : u_need_book (dStart 1 ds) S (endF Q R) := by
  obtain ⟨v, rfl, hd, h⟩ := sp1_inv h
  have h : (if isBk v = true then RS.ret .non else .err ⟨4, none⟩).wp S Q R := h
  show u_need_book [some v] S _
  simp only [u_need_book, sC, sIf, sRt, sAs, sX, sN, sRtN, sRs, sBk, sPar, sPar3, sSub, DEnds.seq, DEnds.loop, endF, dAnd, dOr, dNot, dT, dTr, tru, dB, dCh, dC, dIsi, tyD_non, tyD_bl, tyD_int, tyD_str, tyD_tup, tyD_lst, isTN, dAndV, dOrV, dNotV, dIfE, aN, aC, dTup, dLst, dLstM, dCall, dCB, dU, dSl, slD, oN, oS, gN, gT, gsC, gsN, lAny, lRng1, lRng2, lZip, itemsOf, lstOf, seqOf, dLc, wipeD, bYes, dFor, dApp, dMs, dErr, opAdd, opSub, opMod, opDiv, opPow, opMul, opLt, opGt, opLe, opGe, opEq, opNe, opIn, opNi, opInB, opIs, opIsn, opIsB, isNon, opNeg, opIx, opAll, opSum, opMin, opMax, opInt, opLen, opTup, opList, opBool, opJoin, eqD_int, eqD_str, eqD_bl, eqD_non, eqD_tup, eqD_lst, eqD_tup0, eqD_lst0, der_int, der_str, der_bl, der_non, der_tup, der_lst, eqOk_int, eqOk_str, PR.wp, RS.wp, sp0, sp1, sp2, sp3, sp4, dV, List.getElem?_cons_zero, List.getElem?_cons_succ, List.getElem?_nil, List.set_cons_zero, List.set_cons_succ, List.length_cons, List.length_nil, Option.some.injEq, true_and, and_true, Bool.not_true, Bool.not_false, sp_fits_book]
  refine ⟨hd, ?_⟩
  cases e : isBk v with
  | true => rw [e] at h; exact h
  | false => rw [e] at h; exact h
theorem isWd_digs {s : Int} {w : List Nat} (h : isWd s w = true) : digs w := fun c hc => by
  unfold isWd at h
  rw [Bool.and_eq_true] at h
  have h2 := of_decide_eq_true (List.all_eq_true.mp h.2 c hc)
  have h3 : c ∈ [48, 49, 50, 51] := cut_mem h2
  simp only [List.mem_cons, List.not_mem_nil, or_false] at h3
  omega
/-- a book, taken apart -/
theorem isBk_inv {v : D} (h : isBk v = true) : ∃ s l, v = .tup [.int s, .tup (l.map D.str)] ∧ 2 ≤ s ∧ s ≤ 4 ∧ l.length ≤ 40 ∧ bkL s l = true ∧ bkW v = l := by
  unfold isBk at h
  split at h
  · rename_i s ws
    simp only [Bool.and_eq_true, decide_eq_true_eq] at h
    obtain ⟨⟨⟨h1, h2⟩, h3⟩, h4⟩ := h
    cases e : sts ws with
    | none => rw [e] at h4; cases h4
    | some l =>
      rw [e] at h4
      have e6 := sts_eq e
      subst e6
      refine ⟨s, l, rfl, h1, h2, by rw [lens_lt] at h3; exact h3, h4, ?_⟩
      show (sts (l.map D.str)).getD [] = l
      rw [e]; rfl
  · cases h
theorem bkL_digs {s : Int} {l : List (List Nat)} (h : bkL s l = true) : ∀ w ∈ l, digs w := fun w hw => by
  unfold bkL at h
  simp only [Bool.and_eq_true] at h
  exact isWd_digs (List.all_eq_true.mp h.1.1 w hw)
theorem sts_of {l : List (List Nat)} : sts (l.map D.str) = some l := by
  have := sts_map (fun w : List Nat => w) l
  rwa [List.map_id'] at this
theorem okMost_V {m : D} (h : okMost m = true) : optD m = some (mostV m) := by
  cases m with
  | non => rfl
  | int i => rfl
  | _ => cases h
theorem d_bad_pair {ds : List D} {S : Sto} {Q : DK} {R : RK} (h : (sp_bad_pair.g S ds).wp S Q R) : u_bad_pair (dStart 2 ds) S (endF Q R) := by
  obtain ⟨v, m, rfl, ⟨hd, hm⟩, h⟩ := sp2_inv h
  have h : (if isBk v = true then (if okMost m = true then RS.ret (pairD (firstB (bkW v) (mostV m))) else .err ⟨3, none⟩) else .err ⟨4, none⟩).wp S Q R := h
  show u_bad_pair [some v, some m] S _
  simp only [u_bad_pair, sC, sIf, sRt, sAs, sX, sN, sRtN, sRs, sBk, sPar, sPar3, sSub, DEnds.seq, DEnds.loop, endF, dAnd, dOr, dNot, dT, dTr, tru, dB, dCh, dC, dIsi, tyD_non, tyD_bl, tyD_int, tyD_str, tyD_tup, tyD_lst, isTN, dAndV, dOrV, dNotV, dIfE, aN, aC, dTup, dLst, dLstM, dCall, dCB, dU, dSl, slD, oN, oS, gN, gT, gsC, gsN, lAny, lRng1, lRng2, lZip, itemsOf, lstOf, seqOf, dLc, wipeD, bYes, dFor, dApp, dMs, dErr, opAdd, opSub, opMod, opDiv, opPow, opMul, opLt, opGt, opLe, opGe, opEq, opNe, opIn, opNi, opInB, opIs, opIsn, opIsB, isNon, opNeg, opIx, opAll, opSum, opMin, opMax, opInt, opLen, opTup, opList, opBool, opJoin, eqD_int, eqD_str, eqD_bl, eqD_non, eqD_tup, eqD_lst, eqD_tup0, eqD_lst0, der_int, der_str, der_bl, der_non, der_tup, der_lst, eqOk_int, eqOk_str, PR.wp, RS.wp, sp0, sp1, sp2, sp3, sp4, dV, List.getElem?_cons_zero, List.getElem?_cons_succ, List.getElem?_nil, List.set_cons_zero, List.set_cons_succ, List.length_cons, List.length_nil, Option.some.injEq, true_and, and_true, Bool.not_true, Bool.not_false, sp_need_book, sp_need_most]
  refine ⟨hd, ?_⟩
  cases e : isBk v with
  | false => rw [e] at h; exact h
  | true =>
    rw [e, if_pos rfl] at h
    refine ⟨ty_dok hm, ?_⟩
    cases e2 : okMost m with
    | false => rw [e2] at h; exact h
    | true =>
      rw [e2, if_pos rfl] at h
      obtain ⟨s, l, rfl, h1, h2, h3, h4, h5⟩ := isBk_inv e
      rw [h5] at h
      have a1 : atI [D.int s, .tup (l.map D.str)] (1 : Int) = some (.tup (l.map D.str)) := rfl
      simp only [sC, sIf, sRt, sAs, sX, sN, sRtN, sRs, sBk, sPar, sPar3, sSub, DEnds.seq, DEnds.loop, endF, dAnd, dOr, dNot, dT, dTr, tru, dB, dCh, dC, dIsi, tyD_non, tyD_bl, tyD_int, tyD_str, tyD_tup, tyD_lst, isTN, dAndV, dOrV, dNotV, dIfE, aN, aC, dTup, dLst, dLstM, dCall, dCB, dU, dSl, slD, oN, oS, gN, gT, gsC, gsN, lAny, lRng1, lRng2, lZip, itemsOf, lstOf, seqOf, dLc, wipeD, bYes, dFor, dApp, dMs, dErr, opAdd, opSub, opMod, opDiv, opPow, opMul, opLt, opGt, opLe, opGe, opEq, opNe, opIn, opNi, opInB, opIs, opIsn, opIsB, isNon, opNeg, opIx, opAll, opSum, opMin, opMax, opInt, opLen, opTup, opList, opBool, opJoin, eqD_int, eqD_str, eqD_bl, eqD_non, eqD_tup, eqD_lst, eqD_tup0, eqD_lst0, der_int, der_str, der_bl, der_non, der_tup, der_lst, eqOk_int, eqOk_str, PR.wp, RS.wp, sp0, sp1, sp2, sp3, sp4, dV, List.getElem?_cons_zero, List.getElem?_cons_succ, List.getElem?_nil, List.set_cons_zero, List.set_cons_succ, List.length_cons, List.length_nil, Option.some.injEq, true_and, and_true, Bool.not_true, Bool.not_false, a1, sp_first_bad, okMost_V e2, sts_of]
      exact ⟨bkL_digs h4, h⟩
theorem d_shows {ds : List D} {S : Sto} {Q : DK} {R : RK} (h : (sp_shows.g S ds).wp S Q R) : u_shows (dStart 2 ds) S (endF Q R) := by
  obtain ⟨v, m, rfl, ⟨hd, hm⟩, h⟩ := sp2_inv h
  have h : (if isBk v = true then (if okMost m = true then RS.ret (.bl (firstB (bkW v) (mostV m)).isNone) else .err ⟨3, none⟩) else .err ⟨4, none⟩).wp S Q R := h
  show u_shows [some v, some m] S _
  simp only [u_shows, sC, sIf, sRt, sAs, sX, sN, sRtN, sRs, sBk, sPar, sPar3, sSub, DEnds.seq, DEnds.loop, endF, dAnd, dOr, dNot, dT, dTr, tru, dB, dCh, dC, dIsi, tyD_non, tyD_bl, tyD_int, tyD_str, tyD_tup, tyD_lst, isTN, dAndV, dOrV, dNotV, dIfE, aN, aC, dTup, dLst, dLstM, dCall, dCB, dU, dSl, slD, oN, oS, gN, gT, gsC, gsN, lAny, lRng1, lRng2, lZip, itemsOf, lstOf, seqOf, dLc, wipeD, bYes, dFor, dApp, dMs, dErr, opAdd, opSub, opMod, opDiv, opPow, opMul, opLt, opGt, opLe, opGe, opEq, opNe, opIn, opNi, opInB, opIs, opIsn, opIsB, isNon, opNeg, opIx, opAll, opSum, opMin, opMax, opInt, opLen, opTup, opList, opBool, opJoin, eqD_int, eqD_str, eqD_bl, eqD_non, eqD_tup, eqD_lst, eqD_tup0, eqD_lst0, der_int, der_str, der_bl, der_non, der_tup, der_lst, eqOk_int, eqOk_str, PR.wp, RS.wp, sp0, sp1, sp2, sp3, sp4, dV, List.getElem?_cons_zero, List.getElem?_cons_succ, List.getElem?_nil, List.set_cons_zero, List.set_cons_succ, List.length_cons, List.length_nil, Option.some.injEq, true_and, and_true, Bool.not_true, Bool.not_false, sp_need_book, sp_need_most]
  refine ⟨hd, ?_⟩
  cases e : isBk v with
  | false => rw [e] at h; exact h
  | true =>
    rw [e, if_pos rfl] at h
    refine ⟨ty_dok hm, ?_⟩
    cases e2 : okMost m with
    | false => rw [e2] at h; exact h
    | true =>
      rw [e2, if_pos rfl] at h
      obtain ⟨s, l, rfl, h1, h2, h3, h4, h5⟩ := isBk_inv e
      rw [h5] at h
      have a1 : atI [D.int s, .tup (l.map D.str)] (1 : Int) = some (.tup (l.map D.str)) := rfl
      simp only [sC, sIf, sRt, sAs, sX, sN, sRtN, sRs, sBk, sPar, sPar3, sSub, DEnds.seq, DEnds.loop, endF, dAnd, dOr, dNot, dT, dTr, tru, dB, dCh, dC, dIsi, tyD_non, tyD_bl, tyD_int, tyD_str, tyD_tup, tyD_lst, isTN, dAndV, dOrV, dNotV, dIfE, aN, aC, dTup, dLst, dLstM, dCall, dCB, dU, dSl, slD, oN, oS, gN, gT, gsC, gsN, lAny, lRng1, lRng2, lZip, itemsOf, lstOf, seqOf, dLc, wipeD, bYes, dFor, dApp, dMs, dErr, opAdd, opSub, opMod, opDiv, opPow, opMul, opLt, opGt, opLe, opGe, opEq, opNe, opIn, opNi, opInB, opIs, opIsn, opIsB, isNon, opNeg, opIx, opAll, opSum, opMin, opMax, opInt, opLen, opTup, opList, opBool, opJoin, eqD_int, eqD_str, eqD_bl, eqD_non, eqD_tup, eqD_lst, eqD_tup0, eqD_lst0, der_int, der_str, der_bl, der_non, der_tup, der_lst, eqOk_int, eqOk_str, PR.wp, RS.wp, sp0, sp1, sp2, sp3, sp4, dV, List.getElem?_cons_zero, List.getElem?_cons_succ, List.getElem?_nil, List.set_cons_zero, List.set_cons_succ, List.length_cons, List.length_nil, Option.some.injEq, true_and, and_true, Bool.not_true, Bool.not_false, a1, sp_first_bad, okMost_V e2, sts_of]
      refine ⟨bkL_digs h4, ?_⟩
      cases e7 : firstB l (mostV m) with
      | none => rw [e7] at h; exact h
      | some p => rw [e7] at h; exact h
theorem lossesB_eq (l : List (List Nat)) : lossesB l = (((l.flatMap fun a => (l.filter fun b => !decide (a = b)).map fun b => lossW a b)).filter Option.isSome).filterMap id := by
  unfold lossesB
  have e1 : ((l.flatMap fun a => l.map fun b => (a, b)).filter fun p => !decide (p.1 = p.2)) = l.flatMap fun a => (l.filter fun b => !decide (a = b)).map fun b => (a, b) := by
    rw [List.filter_flatMap]
    congr 1
    funext a
    rw [List.filter_map]
    rfl
  rw [e1, List.filterMap_flatMap]
  generalize hk : (fun a => List.filterMap (fun p : List Nat × List Nat => lossW p.1 p.2) (List.map (fun b => (a, b)) (List.filter (fun b => !decide (a = b)) l))) = f1
  have e2 : ∀ (o : List (Option Int)), (o.filter Option.isSome).filterMap id = o.filterMap id := by
    intro o
    induction o with
    | nil => rfl
    | cons x r ih =>
      cases x with
      | none => rw [List.filter_cons_of_neg (by simp), ih]; rfl
      | some i => rw [List.filter_cons_of_pos (by simp), List.filterMap_cons, List.filterMap_cons, ih]
  rw [e2, List.filterMap_flatMap]
  congr 1
  rw [← hk]
  funext a
  rw [List.filterMap_map, List.filterMap_map]
  rfl
theorem optI_some : ∀ (o : List (Option Int)), ((o.filter Option.isSome).map optI) = ((o.filter Option.isSome).filterMap id).map D.int
  | [] => rfl
  | none :: r => by rw [List.filter_cons_of_neg (by simp)]; exact optI_some r
  | some i :: r => by
    rw [List.filter_cons_of_pos (by simp), List.map_cons, List.filterMap_cons, optI_some r]
    rfl
theorem nts_map' (l : List Int) : nts (l.map D.int) = some l := by
  have := nts_map (fun i : Int => i) l
  rwa [List.map_id'] at this
theorem d_sure_steps {ds : List D} {S : Sto} {Q : DK} {R : RK} (h : (sp_sure_steps.g S ds).wp S Q R) : u_sure_steps (dStart 5 ds) S (endF Q R) := by
  obtain ⟨v, rfl, hd, h⟩ := sp1_inv h
  have h : (if isBk v = true then RS.ret (optI (sureB (bkW v))) else .err ⟨4, none⟩).wp S Q R := h
  show u_sure_steps [some v, none, none, none, none] S _
  simp only [u_sure_steps, sC, sIf, sRt, sAs, sX, sN, sRtN, sRs, sBk, sPar, sPar3, sSub, DEnds.seq, DEnds.loop, endF, dAnd, dOr, dNot, dT, dTr, tru, dB, dCh, dC, dIsi, tyD_non, tyD_bl, tyD_int, tyD_str, tyD_tup, tyD_lst, isTN, dAndV, dOrV, dNotV, dIfE, aN, aC, dTup, dLst, dLstM, dCall, dCB, dU, dSl, slD, oN, oS, gN, gT, gsC, gsN, lAny, lRng1, lRng2, lZip, itemsOf, lstOf, seqOf, dLc, wipeD, bYes, dFor, dApp, dMs, dErr, opAdd, opSub, opMod, opDiv, opPow, opMul, opLt, opGt, opLe, opGe, opEq, opNe, opIn, opNi, opInB, opIs, opIsn, opIsB, isNon, opNeg, opIx, opAll, opSum, opMin, opMax, opInt, opLen, opTup, opList, opBool, opJoin, eqD_int, eqD_str, eqD_bl, eqD_non, eqD_tup, eqD_lst, eqD_tup0, eqD_lst0, der_int, der_str, der_bl, der_non, der_tup, der_lst, eqOk_int, eqOk_str, PR.wp, RS.wp, sp0, sp1, sp2, sp3, sp4, dV, List.getElem?_cons_zero, List.getElem?_cons_succ, List.getElem?_nil, List.set_cons_zero, List.set_cons_succ, List.length_cons, List.length_nil, Option.some.injEq, true_and, and_true, Bool.not_true, Bool.not_false, sp_need_book]
  refine ⟨hd, ?_⟩
  cases e : isBk v with
  | false => rw [e] at h; exact h
  | true =>
    rw [e, if_pos rfl] at h
    obtain ⟨s, l, rfl, h1, h2, h3, h4, h5⟩ := isBk_inv e
    rw [h5] at h
    have a1 : atI [D.int s, .tup (l.map D.str)] (1 : Int) = some (.tup (l.map D.str)) := rfl
    have hg := bkL_digs h4
    simp only [sC, sIf, sRt, sAs, sX, sN, sRtN, sRs, sBk, sPar, sPar3, sSub, DEnds.seq, DEnds.loop, endF, dAnd, dOr, dNot, dT, dTr, tru, dB, dCh, dC, dIsi, tyD_non, tyD_bl, tyD_int, tyD_str, tyD_tup, tyD_lst, isTN, dAndV, dOrV, dNotV, dIfE, aN, aC, dTup, dLst, dLstM, dCall, dCB, dU, dSl, slD, oN, oS, gN, gT, gsC, gsN, lAny, lRng1, lRng2, lZip, itemsOf, lstOf, seqOf, dLc, wipeD, bYes, dFor, dApp, dMs, dErr, opAdd, opSub, opMod, opDiv, opPow, opMul, opLt, opGt, opLe, opGe, opEq, opNe, opIn, opNi, opInB, opIs, opIsn, opIsB, isNon, opNeg, opIx, opAll, opSum, opMin, opMax, opInt, opLen, opTup, opList, opBool, opJoin, eqD_int, eqD_str, eqD_bl, eqD_non, eqD_tup, eqD_lst, eqD_tup0, eqD_lst0, der_int, der_str, der_bl, der_non, der_tup, der_lst, eqOk_int, eqOk_str, PR.wp, RS.wp, sp0, sp1, sp2, sp3, sp4, dV, List.getElem?_cons_zero, List.getElem?_cons_succ, List.getElem?_nil, List.set_cons_zero, List.set_cons_succ, List.length_cons, List.length_nil, Option.some.injEq, true_and, and_true, Bool.not_true, Bool.not_false, dLc2, a1]
    refine ⟨by rw [lens_lt]; omega, lc2_mf D.str (fun _ => l) D.str (fun a b => !decide (a = b)) (fun a b => optI (lossW a b)) l [] (fun a ha => ⟨_, fun K k => k, fun K k => k, fun K k => ?_, by omega, fun b hb KN KY k => ?_⟩) ?_⟩
    · simp only [sC, sIf, sRt, sAs, sX, sN, sRtN, sRs, sBk, sPar, sPar3, sSub, DEnds.seq, DEnds.loop, endF, dAnd, dOr, dNot, dT, dTr, tru, dB, dCh, dC, dIsi, tyD_non, tyD_bl, tyD_int, tyD_str, tyD_tup, tyD_lst, isTN, dAndV, dOrV, dNotV, dIfE, aN, aC, dTup, dLst, dLstM, dCall, dCB, dU, dSl, slD, oN, oS, gN, gT, gsC, gsN, lAny, lRng1, lRng2, lZip, itemsOf, lstOf, seqOf, dLc, wipeD, bYes, dFor, dApp, dMs, dErr, opAdd, opSub, opMod, opDiv, opPow, opMul, opLt, opGt, opLe, opGe, opEq, opNe, opIn, opNi, opInB, opIs, opIsn, opIsB, isNon, opNeg, opIx, opAll, opSum, opMin, opMax, opInt, opLen, opTup, opList, opBool, opJoin, eqD_int, eqD_str, eqD_bl, eqD_non, eqD_tup, eqD_lst, eqD_tup0, eqD_lst0, der_int, der_str, der_bl, der_non, der_tup, der_lst, eqOk_int, eqOk_str, PR.wp, RS.wp, sp0, sp1, sp2, sp3, sp4, dV, List.getElem?_cons_zero, List.getElem?_cons_succ, List.getElem?_nil, List.set_cons_zero, List.set_cons_succ, List.length_cons, List.length_nil, Option.some.injEq, true_and, and_true, Bool.not_true, Bool.not_false, a1]
      exact k
    · simp only [lcStep, sC, sIf, sRt, sAs, sX, sN, sRtN, sRs, sBk, sPar, sPar3, sSub, DEnds.seq, DEnds.loop, endF, dAnd, dOr, dNot, dT, dTr, tru, dB, dCh, dC, dIsi, tyD_non, tyD_bl, tyD_int, tyD_str, tyD_tup, tyD_lst, isTN, dAndV, dOrV, dNotV, dIfE, aN, aC, dTup, dLst, dLstM, dCall, dCB, dU, dSl, slD, oN, oS, gN, gT, gsC, gsN, lAny, lRng1, lRng2, lZip, itemsOf, lstOf, seqOf, dLc, wipeD, bYes, dFor, dApp, dMs, dErr, opAdd, opSub, opMod, opDiv, opPow, opMul, opLt, opGt, opLe, opGe, opEq, opNe, opIn, opNi, opInB, opIs, opIsn, opIsB, isNon, opNeg, opIx, opAll, opSum, opMin, opMax, opInt, opLen, opTup, opList, opBool, opJoin, eqD_int, eqD_str, eqD_bl, eqD_non, eqD_tup, eqD_lst, eqD_tup0, eqD_lst0, der_int, der_str, der_bl, der_non, der_tup, der_lst, eqOk_int, eqOk_str, PR.wp, RS.wp, sp0, sp1, sp2, sp3, sp4, dV, List.getElem?_cons_zero, List.getElem?_cons_succ, List.getElem?_nil, List.set_cons_zero, List.set_cons_succ, List.length_cons, List.length_nil, Option.some.injEq, true_and, and_true, Bool.not_true, Bool.not_false, sp_loss_of]
      cases b1 : decide (a = b) with
      | true => rw [b1] at k; exact k
      | false => rw [b1] at k; exact ⟨⟨hg a ha, hg b hb⟩, k⟩
    · rw [List.nil_append]
      have em : (l.flatMap fun a => (l.filter fun b => !decide (a = b)).map fun b => optI (lossW a b)) = (l.flatMap fun a => (l.filter fun b => !decide (a = b)).map fun b => lossW a b).map optI := by
        rw [List.map_flatMap]
        congr 1
        funext a
        rw [List.map_map]
        rfl
      rw [em]
      refine lc_mf optI Option.isSome optI _ [] (fun o ho KN KY k => ?_) ?_
      · cases o with
        | none => exact k
        | some i => exact k
      · rw [List.nil_append, optI_some, ← lossesB_eq]
        have h : Q (optI (sureB l)) S := h
        unfold sureB at h
        cases e9 : lossesB l with
        | nil =>
          rw [e9] at h
          exact ⟨Nat.zero_le _, rfl, h⟩
        | cons x r =>
          rw [e9] at h
          have e10 : eqD (.lst ((x :: r).map D.int)) (.lst []) = false := rfl
          rw [e10]
          refine ⟨Nat.zero_le _, ?_, ?_⟩
          · have : dok 60 (.lst ((x :: r).map D.int)) = true := by
              show dokL 59 _ = true
              exact dokL_of fun d hd => by obtain ⟨i, _, rfl⟩ := List.mem_map.mp hd; rfl
            show (dok 60 (.lst ((x :: r).map D.int)) && dok 60 (.lst [])) = true
            rw [this]; rfl
          · simp only [Bool.not_false]
            rw [nts_map' (x :: r)]
            exact ⟨by simp, h⟩
end DL

namespace DL
open PySem PySem.Spec PyProof.Rows L2
/-! ### a law's random numbers -/
def sp__law_drumR : DSp := sp2 fun _ c t => match c, t with
  | .int c, .int t => .pre (0 ≤ t ∧ t ≤ 1000) (.new (.lst [.int (if 10 ^ 18 ≤ c then c / 7 + 61 * t else 0), .int ((c * 97 + 1087 * t) % 2077504273 + 71)]))
  | _, _ => .no
def sp__law_drum : DSp := sp2 fun _ c t => match c, t with
  | .int _, .int t => .pre (0 ≤ t ∧ t ≤ 1000) (.new .drum)
  | _, _ => .no
def okMany (k : Int) : Prop := 0 < k ∧ k < 2 ^ 1000
def sp__law_rollR : DSp := sp2 fun S d m => match d, m with
  | .obj a, .int k => (match S a with
    | some (.lst l) => (match l with
      | [.int g, .int n] => .pre (okMany k ∧ 0 ≤ n ∧ n < 4294967296) (if 0 < g then .put a (.lst [.int (g / k), .int n]) (.int (g % k)) else
          .put a (.lst [.int g, .int ((n * 30671 + 8807) % 2147483549)]) (.int (((((n * 30671 + 8807) % 2147483549) * ((n * 30671 + 8807) % 2147483549 + 101)) % 2147483587 / 613) % k)))
      | _ => .no)
    | _ => .no)
  | _, _ => .no
def rolled (k : Int) (d : D) : Prop := ∃ i : Int, d = .int i ∧ 0 ≤ i ∧ i < k
def sp__law_roll : DSp := sp2 fun S d m => match d, m with
  | .obj a, .int k => .pre (S a = some .drum ∧ okMany k) (.any (rolled k))
  | _, _ => .no
def u__law_drum : DS := sC (sAs (dIfE (dT (dB opGe (dV 0) (dB opPow (dC (.int 10)) (dC (.int 18))))) (dB opAdd (dB opDiv (dV 0) (dC (.int 7))) (dB opMul (dC (.int 61)) (dV 1))) (dC (.int 0))) (gN 2)) (sRt (dLstM (aC (dV 2) (aC (dB opAdd (dB opMod (dCB opInt (aC (dB opAdd (dB opMul (dV 0) (dC (.int 97))) (dB opMul (dC (.int 1087)) (dV 1))) (aN))) (dC (.int 2077504273))) (dC (.int 71))) (aN)))))
def u__law_roll : DS := sC (sIf (dT (dB opGt (dB opIx (dV 0) (dC (.int 0))) (dC (.int 0)))) (sC (sAs (dB opMod (dCB opInt (aC (dB opIx (dV 0) (dC (.int 0))) (aN))) (dV 1)) (gN 3)) (sC (sSub (dB opDiv (dB opIx (dV 0) (dC (.int 0))) (dV 1)) (dV 0) (dC (.int 0))) (sRt (dV 3)))) (sN)) (sC (sSub (dB opMod (dCB opInt (aC (dB opAdd (dB opMul (dB opIx (dV 0) (dC (.int 1))) (dC (.int 30671))) (dC (.int 8807))) (aN))) (dC (.int 2147483549))) (dV 0) (dC (.int 1))) (sC (sAs (dB opMod (dCB opInt (aC (dB opMul (dB opIx (dV 0) (dC (.int 1))) (dB opAdd (dB opIx (dV 0) (dC (.int 1))) (dC (.int 101)))) (aN))) (dC (.int 2147483587))) (gN 2)) (sRt (dB opMod (dCB opInt (aC (dB opDiv (dV 2) (dC (.int 613))) (aN))) (dV 1)))))
theorem d__law_drum {ds : List D} {S : Sto} {Q : DK} {R : RK} (h : (sp__law_drumR.g S ds).wp S Q R) : u__law_drum (dStart 3 ds) S (endF Q R) := by
  have hh := sp2_inv h
  clear h
  obtain ⟨c, t, rfl, h⟩ := hh
  cases c with
  | int c =>
    cases t with
    | int t =>
      obtain ⟨⟨h1, h2⟩, h⟩ := h
      replace h : ∀ a, S a = none → Q (.obj a) (put S a (.lst [.int (if 10 ^ 18 ≤ c then c / 7 + 61 * t else 0), .int ((c * 97 + 1087 * t) % 2077504273 + 71)])) := h
      show u__law_drum [some (.int c), some (.int t), none] S _
      have e18 : (10 : Int) ^ (18 : Int).toNat = 10 ^ 18 := rfl
      simp only [u__law_drum, sC, sIf, sRt, sAs, sX, sN, sRtN, sRs, sBk, sPar, sPar3, sSub, DEnds.seq, DEnds.loop, endF, dAnd, dOr, dNot, dT, dTr, tru, dB, dCh, dC, dIsi, tyD_non, tyD_bl, tyD_int, tyD_str, tyD_tup, tyD_lst, isTN, dAndV, dOrV, dNotV, dIfE, aN, aC, dTup, dLst, dLstM, dCall, dCB, dU, dSl, slD, oN, oS, gN, gT, gsC, gsN, lAny, lRng1, lRng2, lZip, itemsOf, lstOf, seqOf, dLc, wipeD, bYes, dFor, dApp, dMs, dErr, opAdd, opSub, opMod, opDiv, opPow, opMul, opLt, opGt, opLe, opGe, opEq, opNe, opIn, opNi, opInB, opIs, opIsn, opIsB, isNon, opNeg, opIx, opAll, opSum, opMin, opMax, opInt, opLen, opTup, opList, opBool, opJoin, eqD_int, eqD_str, eqD_bl, eqD_non, eqD_tup, eqD_lst, eqD_tup0, eqD_lst0, der_int, der_str, der_bl, der_non, der_tup, der_lst, eqOk_int, eqOk_str, PR.wp, RS.wp, sp0, sp1, sp2, sp3, sp4, dV, List.getElem?_cons_zero, List.getElem?_cons_succ, List.getElem?_nil, List.set_cons_zero, List.set_cons_succ, List.length_cons, List.length_nil, Option.some.injEq, true_and, and_true, Bool.not_true, Bool.not_false, e18]
      refine ⟨by decide, ?_⟩
      have q1 : ∀ x : Int, (((-2 ^ 64 < x ∧ x < 2 ^ 64) ∨ (-2 ^ 64 < (97 : Int) ∧ (97 : Int) < 2 ^ 64))) := fun x => .inr (by decide)
      by_cases hc : (10 : Int) ^ 18 ≤ c
      · rw [decide_eq_true hc]
        rw [if_pos hc] at h
        refine ⟨by decide, .inl (by decide), .inr (by decide), .inl (by decide), by decide, by decide, fun a ha => ?_⟩
        exact h a ha
      · rw [decide_eq_false hc]
        rw [if_neg hc] at h
        exact ⟨.inr (by decide), .inl (by decide), by decide, by decide, fun a ha => h a ha⟩
    | _ => exact h.elim
  | _ => exact h.elim
theorem many_log {k : Int} (h : okMany k) : k.natAbs.log2 < 9000 := by
  obtain ⟨h0, h1⟩ := h
  have h2 : k.natAbs < 2 ^ 1000 := by
    have : (k.natAbs : Int) = k := Int.natAbs_of_nonneg (by omega)
    have h3 : ((k.natAbs : Nat) : Int) < ((2 ^ 1000 : Nat) : Int) := by rw [this]; exact h1
    exact Int.ofNat_lt.mp h3
  have h4 : k.natAbs ≠ 0 := by omega
  have := (Nat.log2_lt h4).mpr h2
  omega
theorem d__law_roll {ds : List D} {S : Sto} {Q : DK} {R : RK} (h : (sp__law_rollR.g S ds).wp S Q R) : u__law_roll (dStart 4 ds) S (endF Q R) := by
  have hh := sp2_inv h
  clear h
  obtain ⟨d, m, rfl, h⟩ := hh
  cases d with
  | obj a =>
    cases m with
    | int k =>
      replace h : (match S a with
        | some (.lst l) => (match l with
          | [.int g, .int n] => RS.pre (okMany k ∧ 0 ≤ n ∧ n < 4294967296) (if 0 < g then .put a (.lst [.int (g / k), .int n]) (.int (g % k)) else
              .put a (.lst [.int g, .int ((n * 30671 + 8807) % 2147483549)]) (.int (((((n * 30671 + 8807) % 2147483549) * ((n * 30671 + 8807) % 2147483549 + 101)) % 2147483587 / 613) % k)))
          | _ => .no)
        | _ => .no).wp S Q R := h
      split at h
      · rename_i l hS
        split at h
        · rename_i g n
          obtain ⟨⟨hk, hn, hn2⟩, h⟩ := h
          have a0 : ∀ x y : D, atI [x, y] (0 : Int) = some x := fun _ _ => rfl
          have a1 : ∀ x y : D, atI [x, y] (1 : Int) = some y := fun _ _ => rfl
          show u__law_roll [some (.obj a), some (.int k), none, none] S _
          simp only [u__law_roll, sC, sIf, sRt, sAs, sX, sN, sRtN, sRs, sBk, sPar, sPar3, sSub, DEnds.seq, DEnds.loop, endF, dAnd, dOr, dNot, dT, dTr, tru, dB, dCh, dC, dIsi, tyD_non, tyD_bl, tyD_int, tyD_str, tyD_tup, tyD_lst, isTN, dAndV, dOrV, dNotV, dIfE, aN, aC, dTup, dLst, dLstM, dCall, dCB, dU, dSl, slD, oN, oS, gN, gT, gsC, gsN, lAny, lRng1, lRng2, lZip, itemsOf, lstOf, seqOf, dLc, wipeD, bYes, dFor, dApp, dMs, dErr, opAdd, opSub, opMod, opDiv, opPow, opMul, opLt, opGt, opLe, opGe, opEq, opNe, opIn, opNi, opInB, opIs, opIsn, opIsB, isNon, opNeg, opIx, opAll, opSum, opMin, opMax, opInt, opLen, opTup, opList, opBool, opJoin, eqD_int, eqD_str, eqD_bl, eqD_non, eqD_tup, eqD_lst, eqD_tup0, eqD_lst0, der_int, der_str, der_bl, der_non, der_tup, der_lst, eqOk_int, eqOk_str, PR.wp, RS.wp, sp0, sp1, sp2, sp3, sp4, dV, List.getElem?_cons_zero, List.getElem?_cons_succ, List.getElem?_nil, List.set_cons_zero, List.set_cons_succ, List.length_cons, List.length_nil, Option.some.injEq, true_and, and_true, Bool.not_true, Bool.not_false, hS, a0, a1]
          have hl := many_log hk
          by_cases hg : 0 < g
          · rw [decide_eq_true hg]
            rw [if_pos hg] at h
            simp only [sC, sIf, sRt, sAs, sX, sN, sRtN, sRs, sBk, sPar, sPar3, sSub, DEnds.seq, DEnds.loop, endF, dAnd, dOr, dNot, dT, dTr, tru, dB, dCh, dC, dIsi, tyD_non, tyD_bl, tyD_int, tyD_str, tyD_tup, tyD_lst, isTN, dAndV, dOrV, dNotV, dIfE, aN, aC, dTup, dLst, dLstM, dCall, dCB, dU, dSl, slD, oN, oS, gN, gT, gsC, gsN, lAny, lRng1, lRng2, lZip, itemsOf, lstOf, seqOf, dLc, wipeD, bYes, dFor, dApp, dMs, dErr, opAdd, opSub, opMod, opDiv, opPow, opMul, opLt, opGt, opLe, opGe, opEq, opNe, opIn, opNi, opInB, opIs, opIsn, opIsB, isNon, opNeg, opIx, opAll, opSum, opMin, opMax, opInt, opLen, opTup, opList, opBool, opJoin, eqD_int, eqD_str, eqD_bl, eqD_non, eqD_tup, eqD_lst, eqD_tup0, eqD_lst0, der_int, der_str, der_bl, der_non, der_tup, der_lst, eqOk_int, eqOk_str, PR.wp, RS.wp, sp0, sp1, sp2, sp3, sp4, dV, List.getElem?_cons_zero, List.getElem?_cons_succ, List.getElem?_nil, List.set_cons_zero, List.set_cons_succ, List.length_cons, List.length_nil, Option.some.injEq, true_and, and_true, Bool.not_true, Bool.not_false, hS, a0, a1]
            refine ⟨hk.1, ⟨hk.1, hl⟩, a, _, 0, 0, rfl, hS, rfl, rfl, ?_⟩
            exact h
          · rw [decide_eq_false hg]
            rw [if_neg hg] at h
            simp only [sC, sIf, sRt, sAs, sX, sN, sRtN, sRs, sBk, sPar, sPar3, sSub, DEnds.seq, DEnds.loop, endF, dAnd, dOr, dNot, dT, dTr, tru, dB, dCh, dC, dIsi, tyD_non, tyD_bl, tyD_int, tyD_str, tyD_tup, tyD_lst, isTN, dAndV, dOrV, dNotV, dIfE, aN, aC, dTup, dLst, dLstM, dCall, dCB, dU, dSl, slD, oN, oS, gN, gT, gsC, gsN, lAny, lRng1, lRng2, lZip, itemsOf, lstOf, seqOf, dLc, wipeD, bYes, dFor, dApp, dMs, dErr, opAdd, opSub, opMod, opDiv, opPow, opMul, opLt, opGt, opLe, opGe, opEq, opNe, opIn, opNi, opInB, opIs, opIsn, opIsB, isNon, opNeg, opIx, opAll, opSum, opMin, opMax, opInt, opLen, opTup, opList, opBool, opJoin, eqD_int, eqD_str, eqD_bl, eqD_non, eqD_tup, eqD_lst, eqD_tup0, eqD_lst0, der_int, der_str, der_bl, der_non, der_tup, der_lst, eqOk_int, eqOk_str, PR.wp, RS.wp, sp0, sp1, sp2, sp3, sp4, dV, List.getElem?_cons_zero, List.getElem?_cons_succ, List.getElem?_nil, List.set_cons_zero, List.set_cons_succ, List.length_cons, List.length_nil, Option.some.injEq, true_and, and_true, Bool.not_true, Bool.not_false, hS, a0, a1]
            refine ⟨.inr (by decide), by decide, a, _, 1, 1, rfl, hS, rfl, rfl, ?_⟩
            have b1 := Int.emod_nonneg (n * 30671 + 8807) (show (2147483549 : Int) ≠ 0 by decide)
            have b2 := Int.emod_lt_of_pos (n * 30671 + 8807) (show (0 : Int) < 2147483549 by decide)
            simp only [put_same, List.set_cons_succ, List.set_cons_zero, a1, sC, sIf, sRt, sAs, sX, sN, sRtN, sRs, sBk, sPar, sPar3, sSub, DEnds.seq, DEnds.loop, endF, dAnd, dOr, dNot, dT, dTr, tru, dB, dCh, dC, dIsi, tyD_non, tyD_bl, tyD_int, tyD_str, tyD_tup, tyD_lst, isTN, dAndV, dOrV, dNotV, dIfE, aN, aC, dTup, dLst, dLstM, dCall, dCB, dU, dSl, slD, oN, oS, gN, gT, gsC, gsN, lAny, lRng1, lRng2, lZip, itemsOf, lstOf, seqOf, dLc, wipeD, bYes, dFor, dApp, dMs, dErr, opAdd, opSub, opMod, opDiv, opPow, opMul, opLt, opGt, opLe, opGe, opEq, opNe, opIn, opNi, opInB, opIs, opIsn, opIsB, isNon, opNeg, opIx, opAll, opSum, opMin, opMax, opInt, opLen, opTup, opList, opBool, opJoin, eqD_int, eqD_str, eqD_bl, eqD_non, eqD_tup, eqD_lst, eqD_tup0, eqD_lst0, der_int, der_str, der_bl, der_non, der_tup, der_lst, eqOk_int, eqOk_str, PR.wp, RS.wp, sp0, sp1, sp2, sp3, sp4, dV, List.getElem?_cons_zero, List.getElem?_cons_succ, List.getElem?_nil, List.set_cons_zero, List.set_cons_succ, List.length_cons, List.length_nil, Option.some.injEq, true_and, and_true, Bool.not_true, Bool.not_false]
            refine ⟨.inl (by omega), by decide, ⟨by decide, by decide⟩, hk.1, ?_⟩
            exact h
        · exact h.elim
      · exact h.elim
    | _ => exact h.elim
  | _ => exact h.elim
theorem put_self {S : Sto} {a : Addr} {m : MO} (h : S a = some m) : put S a m = S := by
  funext b
  by_cases e : b = a
  · rw [e, put_same, h]
  · rw [put_ne e]
section
variable {T : Tp} {F F' : Fz} {S S' : Sto} {H H' : Hp}
/-- the numbers within are forgotten -/
theorem Ok.drum {a : Addr} {g n : Int} (hn : 0 ≤ n ∧ n < 4294967296) (hg : 0 ≤ g) (ok : Ok T F (put S a (.lst [.int g, .int n])) H) : Ok T F (put S a .drum) H := by
  refine ⟨ok.cv, fun b f => ?_, fun b m e => ?_, ok.tb⟩
  · obtain ⟨h1, h2⟩ := ok.fz b f
    refine ⟨?_, h2⟩
    by_cases e : b = a
    · rw [e, put_same] at h1; cases h1
    · rw [put_ne e] at h1 ⊢; exact h1
  · by_cases q : b = a
    · subst q
      rw [put_same] at e
      cases e
      obtain ⟨xs, h1, h2, _⟩ := ok.st b _ put_same
      cases h2 with
      | cons r1 r2 =>
        cases r2 with
        | cons r2 r3 =>
          cases r3
          cases r1
          cases r2
          exact ⟨g, n, h1, hg, hn.1, hn.2⟩
    · rw [put_ne q] at e
      exact ok.st b m (by rw [put_ne q]; exact e)
theorem Ext.drum {a : Addr} {m m' : MO} (e : Ext F S H F' (put S' a m) H') : Ext F S H F' (put S' a m') H' := ⟨e.keep, fun b o h n z => by
  have q := e.mt b o h n z
  by_cases na : b = a
  · rw [na, put_same] at q; cases q
  · rw [put_ne na] at q ⊢; exact q, e.new, e.sub, e.cv⟩
theorem okK.drum {Q : VK} {d : D} {a : Addr} {g n : Int} (hn : 0 ≤ n ∧ n < 4294967296) (hg : 0 ≤ g) (h : okK T F S H Q d (put S' a .drum)) : okK T F S H Q d (put S' a (.lst [.int g, .int n])) := fun v H' F' ok ex r => h v H' F' (ok.drum hn hg) ex.drum r
theorem Ok.open {a : Addr} (hS : S a = some .drum) (ok : Ok T F S H) : ∃ g n : Int, 0 ≤ g ∧ 0 ≤ n ∧ n < 4294967296 ∧ Ok T F (put S a (.lst [.int g, .int n])) H := by
  obtain ⟨g, n, h1, h2, h3, h4⟩ := ok.st a _ hS
  refine ⟨g, n, h2, h3, h4, ok.cv, fun b f => ?_, fun b m e => ?_, ok.tb⟩
  · obtain ⟨q1, q2⟩ := ok.fz b f
    have na : b ≠ a := fun e => by rw [e, hS] at q1; cases q1
    exact ⟨by rw [put_ne na]; exact q1, q2⟩
  · by_cases q : b = a
    · subst q
      rw [put_same] at e
      cases e
      exact ⟨_, h1, .cons (.int g) (.cons (.int n) .nil), by show (2 : Nat) ≤ 16777216; decide⟩
    · rw [put_ne q] at e
      exact ok.st b m e
theorem Ext.open {a : Addr} {m m' : MO} (hS : S a = some m) (e : Ext F (put S a m') H F' S' H') : Ext F S H F' S' H' := by
  have na : ∀ b, S b = none → put S a m' b = none := fun b z => by rw [put_ne (fun q => by rw [q, hS] at z; cases z)]; exact z
  exact ⟨fun b o h n z => e.keep b o h n (na b z), fun b o h n z => e.mt b o h n (na b z), fun b o h n z => e.new b o h n (na b z), e.sub, e.cv⟩
end
theorem w__law_drum (T : Tp) : ∀ vs H Q E, upSp T sp__law_drum vs H Q E → upSp T sp__law_drumR vs H Q E := by
  rintro vs H Q E ⟨ds, S, F, r, ok, h⟩
  refine ⟨ds, S, F, r, ok, ?_⟩
  have hh := sp2_inv h
  clear h
  obtain ⟨c, t, rfl, h⟩ := hh
  cases c with
  | int c =>
    cases t with
    | int t =>
      obtain ⟨ht, h⟩ := h
      refine ⟨ht, fun a ha => okK.drum ?_ ?_ (h a ha)⟩
      · have b1 := Int.emod_nonneg (c * 97 + 1087 * t) (show (2077504273 : Int) ≠ 0 by decide)
        have b2 := Int.emod_lt_of_pos (c * 97 + 1087 * t) (show (0 : Int) < 2077504273 by decide)
        omega
      · split
        · omega
        · omega
    | _ => exact h.elim
  | _ => exact h.elim
theorem w__law_roll (T : Tp) : ∀ vs H Q E, upSp T sp__law_roll vs H Q E → upSp T sp__law_rollR vs H Q E := by
  rintro vs H Q E ⟨ds, S, F, r, ok, h⟩
  have hh := sp2_inv h
  clear h
  obtain ⟨d, m, rfl, h⟩ := hh
  cases d with
  | obj a =>
    cases m with
    | int k =>
      obtain ⟨⟨hS, hk⟩, h⟩ := h
      replace h : ∀ d, rolled k d → okK T F S H Q d S := h
      obtain ⟨g, n, hg, hn, hn2, ok2⟩ := ok.open hS
      refine ⟨_, put S a (.lst [.int g, .int n]), F, r, ok2, ?_⟩
      show (match put S a (.lst [.int g, .int n]) a with
        | some (.lst l) => (match l with
          | [.int g, .int n] => RS.pre (okMany k ∧ 0 ≤ n ∧ n < 4294967296) (if 0 < g then .put a (.lst [.int (g / k), .int n]) (.int (g % k)) else
              .put a (.lst [.int g, .int ((n * 30671 + 8807) % 2147483549)]) (.int (((((n * 30671 + 8807) % 2147483549) * ((n * 30671 + 8807) % 2147483549 + 101)) % 2147483587 / 613) % k)))
          | _ => .no)
        | _ => .no).wp _ _ _
      rw [put_same]
      refine ⟨⟨hk, hn, hn2⟩, ?_⟩
      have fin : ∀ g' n' i : Int, 0 ≤ g' → 0 ≤ n' ∧ n' < 4294967296 → 0 ≤ i ∧ i < k → okK T F (put S a (.lst [.int g, .int n])) H Q (.int i) (put (put S a (.lst [.int g, .int n])) a (.lst [.int g', .int n'])) := fun g' n' i h1 h2 h3 v H' F' ok3 ex3 r3 => by
        rw [put_put] at ok3 ex3
        have ok4 := ok3.drum h2 h1
        rw [put_self hS] at ok4
        have ex4 : Ext F (put S a (.lst [.int g, .int n])) H F' (put S a .drum) H' := ex3.drum
        rw [put_self hS] at ex4
        exact h (.int i) ⟨i, rfl, h3⟩ v H' F' ok4 (ex4.open hS) r3
      split
      · exact fin _ _ _ (Int.ediv_nonneg hg (by have := hk.1; omega)) ⟨hn, hn2⟩ ⟨Int.emod_nonneg _ (by have := hk.1; omega), Int.emod_lt_of_pos _ hk.1⟩
      · have b1 := Int.emod_nonneg (n * 30671 + 8807) (show (2147483549 : Int) ≠ 0 by decide)
        have b2 := Int.emod_lt_of_pos (n * 30671 + 8807) (show (0 : Int) < 2147483549 by decide)
        exact fin _ _ _ hg ⟨b1, by omega⟩ ⟨Int.emod_nonneg _ (by have := hk.1; omega), Int.emod_lt_of_pos _ hk.1⟩
    | _ => exact h.elim
  | _ => exact h.elim
end DL

namespace DL
open PySem PySem.Spec PyProof.Rows L2
/-! ### what the laws share -/
theorem opLen_seq {S : Sto} {x : D} {l : List D} (h : seqOf S x = some l) : opLen S [x] = .ok (.int (l.length : Nat)) := by
  cases x with
  | tup ds => cases h; rfl
  | lst ds => cases h; rfl
  | obj a => show (match seqOf S (.obj a) with | some l => PR.ok (.int (l.length : Nat)) | none => .no) = _; rw [h]
  | _ => cases h
theorem opIx_seq {S : Sto} {x : D} {l : List D} {i : Int} {d : D} (h : seqOf S x = some l) (e : atI l i = some d) : opIx S x (.int i) = .ok d := by
  cases x with
  | tup ds => cases h; show (match atI l i with | some d => PR.ok d | none => .no) = _; rw [e]
  | lst ds => cases h; show (match atI l i with | some d => PR.ok d | none => .no) = _; rw [e]
  | obj a => show (match seqOf S (.obj a) with | some ds => (match atI ds i with | some d => PR.ok d | none => .no) | none => .no) = _; rw [h]; dsimp only; rw [e]
  | _ => cases h
theorem opIx_str {S : Sto} {s : List Nat} {i : Int} {c : Nat} (e : atI s i = some c) : opIx S (.str s) (.int i) = .ok (.str [c]) := by
  show (match atI s i with | some c => PR.ok (.str [c]) | none => .no) = _
  rw [e]
theorem atI_in {α : Type} {l : List α} {i : Int} (h0 : 0 ≤ i) (h1 : i < (l.length : Nat)) : ∃ d, atI l i = some d ∧ l[i.toNat]? = some d ∧ d ∈ l := by
  have h : i.toNat < l.length := by omega
  have e : i = ((i.toNat : Nat) : Int) := by omega
  refine ⟨l[i.toNat], ?_, List.getElem?_eq_getElem h, List.getElem_mem h⟩
  have := atI_nat h
  rw [← e] at this
  exact this
theorem many_of {k : Int} (h0 : 0 < k) (h1 : k ≤ 100000000) : okMany k := ⟨h0, Int.lt_of_le_of_lt h1 (by decide)⟩
def sp__law_some : DSp := sp2 fun S d x => match d, seqOf S x with
  | .obj a, some l => .pre (S a = some .drum ∧ l ≠ [] ∧ l.length ≤ 100000) (.any fun z => z ∈ l)
  | _, _ => .no
def sp__law_weight : DSp := sp_weight_of
def lawIn (a b : List Nat) : Bool := decide (a.length = b.length) && inW a b
def sp__law_in : DSp := sp2 fun _ v u => match v, u with
  | .str a, .str b => .pre (digs a ∧ digs b ∧ a.length ≤ 1000) (.ret (.bl (lawIn a b)))
  | _, _ => .no
def lawLoss (a b : List Nat) : Option Int := if lawIn b a = true then some (wt a - wt b) else none
def sp__law_loss : DSp := sp2 fun _ v u => match v, u with
  | .str a, .str b => .pre (digs a ∧ digs b ∧ b.length ≤ 1000) (.ret (optI (lawLoss a b)))
  | _, _ => .no
def sp__law_fits : DSp := sp_fits_steps
/-- a random word: figures below s -/
def figW (s : Int) (n : Nat) (w : List Nat) : Prop := w.length = n ∧ ∀ c ∈ w, 48 ≤ c ∧ (c : Int) < 48 + s
def sp__law_word : DSp := sp3 fun S d s n => match d, s, n with
  | .obj a, .int s, .int n => .pre (S a = some .drum ∧ 1 ≤ s ∧ s ≤ 4 ∧ 0 ≤ n ∧ n ≤ 1000) (.any fun z => ∃ w, z = .str w ∧ figW s n.toNat w)
  | _, _, _ => .no
def sp__law_near : DSp := sp3 fun S d s t => match d, s, t with
  | .obj a, .int s, .str t => .pre (S a = some .drum ∧ 1 ≤ s ∧ s ≤ 4 ∧ 1 ≤ t.length ∧ t.length ≤ 1000 ∧ figW s t.length t) (.any fun z => ∃ w, z = .str w ∧ figW s t.length w)
  | _, _, _ => .no
def u__law_some : DS := sRt (dB opIx (dV 1) (dCall sp__law_roll (aC (dV 0) (aC (dCB opLen (aC (dV 1) (aN))) (aN)))))
def u__law_weight : DS := sRt (dCB opSum (aC (dLc (lAny (dV 0)) (gN 1) (bYes) (dCB opInt (aC (dV 1) (aN))) [1]) (aN)))
def u__law_in : DS := sRt (dAndV (dB opEq (dCB opLen (aC (dV 0) (aN))) (dCB opLen (aC (dV 1) (aN)))) (dB opEq (dLc (lRng1 (aC (dCB opLen (aC (dV 0) (aN))) (aN))) (gN 2) (dT (dB opGt (dCB opInt (aC (dB opIx (dV 0) (dV 2)) (aN))) (dCB opInt (aC (dB opIx (dV 1) (dV 2)) (aN))))) (dV 2) [2]) (dLst (aN))))
def u__law_loss : DS := sRt (dIfE (dTr (dCall sp__law_in (aC (dV 1) (aC (dV 0) (aN))))) (dB opSub (dCall sp__law_weight (aC (dV 0) (aN))) (dCall sp__law_weight (aC (dV 1) (aN)))) (dC .non))
def u__law_fits : DS := sRt (dAndV (dB opIsn (dV 0) (dC .non)) (dOrV (dB opIs (dV 1) (dC .non)) (dB opLe (dV 0) (dV 1))))
def u__law_word : DS := sRt (dMs opJoin (dC (.str [])) (aC (dLc (lRng1 (aC (dV 2) (aN))) (gN 3) (bYes) (dB opIx (dC (.str [48, 49, 50, 51])) (dCall sp__law_roll (aC (dV 0) (aC (dV 1) (aN))))) [3]) (aN)))
def u__law_near : DS := sC (dFor (lRng1 (aC (dB opAdd (dC (.int 1)) (dCall sp__law_roll (aC (dV 0) (aC (dC (.int 3)) (aN))))) (aN))) (gN 3) (sC (sAs (dCall sp__law_roll (aC (dV 0) (aC (dCB opLen (aC (dV 2) (aN))) (aN)))) (gN 4)) (sAs (dB opAdd (dB opAdd (dSl (dV 2) (oN) (oS (dV 4))) (dB opIx (dC (.str [48, 49, 50, 51])) (dCall sp__law_roll (aC (dV 0) (aC (dV 1) (aN)))))) (dSl (dV 2) (oS (dB opAdd (dV 4) (dC (.int 1)))) (oN))) (gN 2)))) (sRt (dV 2))
theorem d__law_some {ds : List D} {S : Sto} {Q : DK} {R : RK} (h : (sp__law_some.g S ds).wp S Q R) : u__law_some (dStart 2 ds) S (endF Q R) := by
  have hh := sp2_inv h
  clear h
  obtain ⟨d, x, rfl, h⟩ := hh
  cases d with
  | obj a =>
    cases e : seqOf S x with
    | none => rw [e] at h; exact h.elim
    | some l =>
      rw [e] at h
      obtain ⟨⟨h1, h2, h3⟩, h⟩ := h
      replace h : ∀ z, z ∈ l → Q z S := h
      have hl : 0 < l.length := List.length_pos_iff.mpr h2
      show u__law_some [some (.obj a), some x] S _
      simp only [u__law_some, sRt, dB, dV, dCall, dCB, aC, aN, sp__law_roll, sp2, RS.wp, PR.wp, endF, List.getElem?_cons_zero, List.getElem?_cons_succ, opLen_seq e]
      refine ⟨⟨h1, many_of (by omega) (by omega)⟩, ?_⟩
      rintro _ ⟨i, rfl, i0, i1⟩
      obtain ⟨z, ez, _, hz⟩ := atI_in i0 i1
      rw [opIx_seq e ez]
      exact h z hz
  | _ => exact h.elim
theorem d__law_weight {ds : List D} {S : Sto} {Q : DK} {R : RK} (h : (sp__law_weight.g S ds).wp S Q R) : u__law_weight (dStart 2 ds) S (endF Q R) := d_weight_of h
theorem d__law_fits {ds : List D} {S : Sto} {Q : DK} {R : RK} (h : (sp__law_fits.g S ds).wp S Q R) : u__law_fits (dStart 2 ds) S (endF Q R) := d_fits_steps h
theorem inW_range {a b : List Nat} (h : a.length = b.length) : inW a b = ((List.range a.length).all fun i => decide (a.getD i 0 ≤ b.getD i 0)) := by
  rw [Bool.eq_iff_iff]
  unfold inW
  rw [List.all_eq_true, List.all_eq_true]
  constructor
  · intro h1 i hi
    have hi : i < a.length := List.mem_range.mp hi
    have := h1 (decide (a[i] ≤ b[i])) (List.mem_iff_getElem?.mpr ⟨i, by rw [List.getElem?_zipWith, List.getElem?_eq_getElem hi, List.getElem?_eq_getElem (by omega)]⟩)
    simp only [List.getD_eq_getElem?_getD, List.getElem?_eq_getElem hi, List.getElem?_eq_getElem (show i < b.length by omega), Option.getD_some]
    exact this
  · intro h1 x hx
    obtain ⟨i, hi⟩ := List.mem_iff_getElem?.mp hx
    have hl := (List.getElem?_eq_some_iff.mp hi).1
    rw [List.length_zipWith] at hl
    have h2 := h1 i (List.mem_range.mpr (by omega))
    rw [List.getElem?_zipWith, List.getElem?_eq_getElem (by omega), List.getElem?_eq_getElem (by omega)] at hi
    simp only [List.getD_eq_getElem?_getD, List.getElem?_eq_getElem (show i < a.length by omega), List.getElem?_eq_getElem (show i < b.length by omega), Option.getD_some] at h2
    cases hi
    exact h2
theorem all_filter {α : Type} (p : α → Bool) (l : List α) : (l.filter fun x => !p x).isEmpty = l.all p := by
  induction l with
  | nil => rfl
  | cons x r ih =>
    rw [List.all_cons]
    cases e : p x with
    | true => rw [List.filter_cons_of_neg (by simp [e]), ih]; rfl
    | false => rw [List.filter_cons_of_pos (by simp [e])]; rfl
theorem eqD_nil {l : List D} : eqD (.lst l) (.lst []) = l.isEmpty := by cases l <;> rfl
theorem d__law_in {ds : List D} {S : Sto} {Q : DK} {R : RK} (h : (sp__law_in.g S ds).wp S Q R) : u__law_in (dStart 3 ds) S (endF Q R) := by
  have hh := sp2_inv h
  clear h
  obtain ⟨v, u, rfl, h⟩ := hh
  cases v with
  | str a =>
    cases u with
    | str b =>
      obtain ⟨⟨ha, hb, hl⟩, h⟩ := h
      replace h : Q (.bl (lawIn a b)) S := h
      unfold lawIn at h
      show u__law_in [some (.str a), some (.str b), none] S _
      have e1 : decide (((a.length : Nat) : Int) = (b.length : Nat)) = decide (a.length = b.length) := by congr 1; exact propext (by omega)
      simp only [u__law_in, sC, sIf, sRt, sAs, sX, sN, sRtN, sRs, sBk, sPar, sPar3, sSub, DEnds.seq, DEnds.loop, endF, dAnd, dOr, dNot, dT, dTr, tru, dB, dCh, dC, dIsi, tyD_non, tyD_bl, tyD_int, tyD_str, tyD_tup, tyD_lst, isTN, dAndV, dOrV, dNotV, dIfE, aN, aC, dTup, dLst, dLstM, dCall, dCB, dU, dSl, slD, oN, oS, gN, gT, gsC, gsN, lAny, lRng1, lRng2, lZip, itemsOf, lstOf, seqOf, dLc, wipeD, bYes, dFor, dApp, dMs, dErr, opAdd, opSub, opMod, opDiv, opPow, opMul, opLt, opGt, opLe, opGe, opEq, opNe, opIn, opNi, opInB, opIs, opIsn, opIsB, isNon, opNeg, opIx, opAll, opSum, opMin, opMax, opInt, opLen, opTup, opList, opBool, opJoin, eqD_int, eqD_str, eqD_bl, eqD_non, eqD_tup, eqD_lst, eqD_tup0, eqD_lst0, der_int, der_str, der_bl, der_non, der_tup, der_lst, eqOk_int, eqOk_str, PR.wp, RS.wp, sp0, sp1, sp2, sp3, sp4, dV, List.getElem?_cons_zero, List.getElem?_cons_succ, List.getElem?_nil, List.set_cons_zero, List.set_cons_succ, List.length_cons, List.length_nil, Option.some.injEq, true_and, and_true, Bool.not_true, Bool.not_false, e1]
      cases b1 : decide (a.length = b.length) with
      | false => rw [b1] at h; exact h
      | true =>
        rw [b1] at h
        have hab := of_decide_eq_true b1
        rw [inW_range hab] at h
        refine ⟨⟨by omega, by omega⟩, ?_⟩
        unfold rngL
        rw [Int.toNat_natCast]
        refine lc_mf (fun i : Nat => .int (0 + (i : Nat))) (fun i => !decide (a.getD i 0 ≤ b.getD i 0)) (fun i => .int (0 + (i : Nat))) (List.range a.length) [] (fun i hi KN KY k => ?_) ?_
        · have hi : i < a.length := List.mem_range.mp hi
          have a1 : atI a (0 + (i : Nat) : Int) = some (a.getD i 0) := by rw [Int.zero_add, atI_nat hi, List.getD_eq_getElem?_getD, List.getElem?_eq_getElem hi]; rfl
          have a2 : atI b (0 + (i : Nat) : Int) = some (b.getD i 0) := by rw [Int.zero_add, atI_nat (by omega), List.getD_eq_getElem?_getD, List.getElem?_eq_getElem (by omega)]; rfl
          have m1 : a.getD i 0 ∈ a := by rw [List.getD_eq_getElem?_getD, List.getElem?_eq_getElem hi]; exact List.getElem_mem hi
          have m2 : b.getD i 0 ∈ b := by rw [List.getD_eq_getElem?_getD, List.getElem?_eq_getElem (show i < b.length by omega)]; exact List.getElem_mem _
          have d1 := ha _ m1
          have d2 := hb _ m2
          simp only [lcStep, sC, sIf, sRt, sAs, sX, sN, sRtN, sRs, sBk, sPar, sPar3, sSub, DEnds.seq, DEnds.loop, endF, dAnd, dOr, dNot, dT, dTr, tru, dB, dCh, dC, dIsi, tyD_non, tyD_bl, tyD_int, tyD_str, tyD_tup, tyD_lst, isTN, dAndV, dOrV, dNotV, dIfE, aN, aC, dTup, dLst, dLstM, dCall, dCB, dU, dSl, slD, oN, oS, gN, gT, gsC, gsN, lAny, lRng1, lRng2, lZip, itemsOf, lstOf, seqOf, dLc, wipeD, bYes, dFor, dApp, dMs, dErr, opAdd, opSub, opMod, opDiv, opPow, opMul, opLt, opGt, opLe, opGe, opEq, opNe, opIn, opNi, opInB, opIs, opIsn, opIsB, isNon, opNeg, opIx, opAll, opSum, opMin, opMax, opInt, opLen, opTup, opList, opBool, opJoin, eqD_int, eqD_str, eqD_bl, eqD_non, eqD_tup, eqD_lst, eqD_tup0, eqD_lst0, der_int, der_str, der_bl, der_non, der_tup, der_lst, eqOk_int, eqOk_str, PR.wp, RS.wp, sp0, sp1, sp2, sp3, sp4, dV, List.getElem?_cons_zero, List.getElem?_cons_succ, List.getElem?_nil, List.set_cons_zero, List.set_cons_succ, List.length_cons, List.length_nil, Option.some.injEq, true_and, and_true, Bool.not_true, Bool.not_false, a1, a2]
          refine ⟨d1, d2, ?_⟩
          have e3 : decide (((b.getD i 0 : Nat) : Int) - 48 < ((a.getD i 0 : Nat) : Int) - 48) = !decide (a.getD i 0 ≤ b.getD i 0) := by
            by_cases q : a.getD i 0 ≤ b.getD i 0
            · rw [decide_eq_true q, decide_eq_false (by omega)]; rfl
            · rw [decide_eq_false q, decide_eq_true (by omega)]; rfl
          rw [e3]
          cases q : decide (a.getD i 0 ≤ b.getD i 0) with
          | true => rw [q] at k; exact k
          | false => rw [q] at k; exact k
        · rw [List.nil_append]
          refine ⟨Nat.zero_le _, ?_, ?_⟩
          · show (dok 60 (.lst _) && dok 60 (.lst [])) = true
            have : dok 60 (.lst (((List.range a.length).filter fun i => !decide (a.getD i 0 ≤ b.getD i 0)).map fun i : Nat => D.int (0 + (i : Nat)))) = true := by
              show dokL 59 _ = true
              exact dokL_of fun d hd => by obtain ⟨i, _, rfl⟩ := List.mem_map.mp hd; rfl
            rw [this]; rfl
          · rw [eqD_nil, List.isEmpty_map, all_filter]
            exact h
    | _ => exact h.elim
  | _ => exact h.elim
theorem d__law_loss {ds : List D} {S : Sto} {Q : DK} {R : RK} (h : (sp__law_loss.g S ds).wp S Q R) : u__law_loss (dStart 2 ds) S (endF Q R) := by
  have hh := sp2_inv h
  clear h
  obtain ⟨v, u, rfl, h⟩ := hh
  cases v with
  | str a =>
    cases u with
    | str b =>
      obtain ⟨⟨h1, h2, h3⟩, h⟩ := h
      replace h : Q (optI (lawLoss a b)) S := h
      show u__law_loss [some (.str a), some (.str b)] S _
      unfold lawLoss at h
      simp only [u__law_loss, sC, sIf, sRt, sAs, sX, sN, sRtN, sRs, sBk, sPar, sPar3, sSub, DEnds.seq, DEnds.loop, endF, dAnd, dOr, dNot, dT, dTr, tru, dB, dCh, dC, dIsi, tyD_non, tyD_bl, tyD_int, tyD_str, tyD_tup, tyD_lst, isTN, dAndV, dOrV, dNotV, dIfE, aN, aC, dTup, dLst, dLstM, dCall, dCB, dU, dSl, slD, oN, oS, gN, gT, gsC, gsN, lAny, lRng1, lRng2, lZip, itemsOf, lstOf, seqOf, dLc, wipeD, bYes, dFor, dApp, dMs, dErr, opAdd, opSub, opMod, opDiv, opPow, opMul, opLt, opGt, opLe, opGe, opEq, opNe, opIn, opNi, opInB, opIs, opIsn, opIsB, isNon, opNeg, opIx, opAll, opSum, opMin, opMax, opInt, opLen, opTup, opList, opBool, opJoin, eqD_int, eqD_str, eqD_bl, eqD_non, eqD_tup, eqD_lst, eqD_tup0, eqD_lst0, der_int, der_str, der_bl, der_non, der_tup, der_lst, eqOk_int, eqOk_str, PR.wp, RS.wp, sp0, sp1, sp2, sp3, sp4, dV, List.getElem?_cons_zero, List.getElem?_cons_succ, List.getElem?_nil, List.set_cons_zero, List.set_cons_succ, List.length_cons, List.length_nil, Option.some.injEq, true_and, and_true, Bool.not_true, Bool.not_false, sp__law_in, sp__law_weight, sp_weight_of]
      refine ⟨⟨h2, h1, h3⟩, ?_⟩
      cases e : lawIn b a with
      | true => rw [e] at h; exact ⟨h1, h2, h⟩
      | false => rw [e] at h; exact h
    | _ => exact h.elim
  | _ => exact h.elim
theorem figs_at {s i : Int} (h1 : s ≤ 4) (h0 : 0 ≤ i) (hi : i < s) : ∃ c : Nat, atI [48, 49, 50, 51] i = some c ∧ 48 ≤ c ∧ (c : Int) < 48 + s := by
  have : i = 0 ∨ i = 1 ∨ i = 2 ∨ i = 3 := by omega
  rcases this with rfl | rfl | rfl | rfl
  · exact ⟨48, rfl, by omega, by omega⟩
  · exact ⟨49, rfl, by omega, by omega⟩
  · exact ⟨50, rfl, by omega, by omega⟩
  · exact ⟨51, rfl, by omega, by omega⟩
theorem figW_digs {s : Int} {n : Nat} {w : List Nat} (h : s ≤ 4) (f : figW s n w) : digs w := fun c hc => by
  have := f.2 c hc
  omega
/-- texts of one sign each, joined -/
theorem join_ones : ∀ {ys : List D} {P : Nat → Prop}, (∀ y ∈ ys, ∃ c, y = .str [c] ∧ P c) → ∃ w : List Nat, sts ys = some (w.map fun c => [c]) ∧ w.length = ys.length ∧ ∀ c ∈ w, P c
  | [], P, _ => ⟨[], rfl, rfl, fun _ h => by cases h⟩
  | y :: r, P, h => by
    obtain ⟨c, rfl, hc⟩ := h y List.mem_cons_self
    obtain ⟨w, h1, h2, h3⟩ := join_ones (ys := r) (P := P) fun z hz => h z (List.mem_cons_of_mem _ hz)
    refine ⟨c :: w, by rw [sts_str, h1]; rfl, by rw [List.length_cons, h2, List.length_cons], fun z hz => ?_⟩
    rcases List.mem_cons.mp hz with rfl | hz
    · exact hc
    · exact h3 z hz
theorem joinD_ones : ∀ w : List Nat, joinD [] (w.map fun c => [c]) = w
  | [] => rfl
  | [c] => rfl
  | c :: d :: r => by
    show [c] ++ ([] ++ joinD [] ((d :: r).map fun c => [c])) = _
    rw [joinD_ones (d :: r)]; rfl
theorem ones_len : ∀ w : List Nat, ((w.map fun c => [c]).map fun z : List Nat => z.length).sum = w.length
  | [] => rfl
  | c :: r => by
    show 1 + ((r.map fun c => [c]).map fun z : List Nat => z.length).sum = r.length + 1
    rw [ones_len r]; omega
theorem d__law_word {ds : List D} {S : Sto} {Q : DK} {R : RK} (h : (sp__law_word.g S ds).wp S Q R) : u__law_word (dStart 4 ds) S (endF Q R) := by
  have hh := sp3_inv h
  clear h
  obtain ⟨d, s, n, rfl, h⟩ := hh
  cases d with
  | obj a =>
    cases s with
    | int s =>
      cases n with
      | int n =>
        obtain ⟨⟨hS, h1, h2, h3, h4⟩, h⟩ := h
        replace h : ∀ z, (∃ w, z = .str w ∧ figW s n.toNat w) → Q z S := h
        show u__law_word [some (.obj a), some (.int s), some (.int n), none] S _
        simp only [u__law_word, sC, sIf, sRt, sAs, sX, sN, sRtN, sRs, sBk, sPar, sPar3, sSub, DEnds.seq, DEnds.loop, endF, dAnd, dOr, dNot, dT, dTr, tru, dB, dCh, dC, dIsi, tyD_non, tyD_bl, tyD_int, tyD_str, tyD_tup, tyD_lst, isTN, dAndV, dOrV, dNotV, dIfE, aN, aC, dTup, dLst, dLstM, dCall, dCB, dU, dSl, slD, oN, oS, gN, gT, gsC, gsN, lAny, lRng1, lRng2, lZip, itemsOf, lstOf, seqOf, dLc, wipeD, bYes, dFor, dApp, dMs, dErr, opAdd, opSub, opMod, opDiv, opPow, opMul, opLt, opGt, opLe, opGe, opEq, opNe, opIn, opNi, opInB, opIs, opIsn, opIsB, isNon, opNeg, opIx, opAll, opSum, opMin, opMax, opInt, opLen, opTup, opList, opBool, opJoin, eqD_int, eqD_str, eqD_bl, eqD_non, eqD_tup, eqD_lst, eqD_tup0, eqD_lst0, der_int, der_str, der_bl, der_non, der_tup, der_lst, eqOk_int, eqOk_str, PR.wp, RS.wp, sp0, sp1, sp2, sp3, sp4, dV, List.getElem?_cons_zero, List.getElem?_cons_succ, List.getElem?_nil, List.set_cons_zero, List.set_cons_succ, List.length_cons, List.length_nil, Option.some.injEq, true_and, and_true, Bool.not_true, Bool.not_false]
        refine ⟨⟨by omega, by omega⟩, ?_⟩
        refine lc_any (fun y => ∃ c : Nat, y = .str [c] ∧ (48 ≤ c ∧ (c : Int) < 48 + s)) (rngL 0 n.toNat) [] (fun x hx KN KY k => ?_) fun ys hl hy => ?_
        · simp only [lcStep, sC, sIf, sRt, sAs, sX, sN, sRtN, sRs, sBk, sPar, sPar3, sSub, DEnds.seq, DEnds.loop, endF, dAnd, dOr, dNot, dT, dTr, tru, dB, dCh, dC, dIsi, tyD_non, tyD_bl, tyD_int, tyD_str, tyD_tup, tyD_lst, isTN, dAndV, dOrV, dNotV, dIfE, aN, aC, dTup, dLst, dLstM, dCall, dCB, dU, dSl, slD, oN, oS, gN, gT, gsC, gsN, lAny, lRng1, lRng2, lZip, itemsOf, lstOf, seqOf, dLc, wipeD, bYes, dFor, dApp, dMs, dErr, opAdd, opSub, opMod, opDiv, opPow, opMul, opLt, opGt, opLe, opGe, opEq, opNe, opIn, opNi, opInB, opIs, opIsn, opIsB, isNon, opNeg, opIx, opAll, opSum, opMin, opMax, opInt, opLen, opTup, opList, opBool, opJoin, eqD_int, eqD_str, eqD_bl, eqD_non, eqD_tup, eqD_lst, eqD_tup0, eqD_lst0, der_int, der_str, der_bl, der_non, der_tup, der_lst, eqOk_int, eqOk_str, PR.wp, RS.wp, sp0, sp1, sp2, sp3, sp4, dV, List.getElem?_cons_zero, List.getElem?_cons_succ, List.getElem?_nil, List.set_cons_zero, List.set_cons_succ, List.length_cons, List.length_nil, Option.some.injEq, true_and, and_true, Bool.not_true, Bool.not_false, sp__law_roll]
          refine ⟨⟨hS, many_of (by omega) (by omega)⟩, ?_⟩
          rintro _ ⟨i, rfl, i0, i1⟩
          obtain ⟨c, ec, hc⟩ := figs_at h2 i0 i1
          dsimp only
          rw [ec]
          exact k _ ⟨c, rfl, hc⟩
        · rw [List.nil_append]
          obtain ⟨w, e1, e2, e3⟩ := join_ones hy
          have hr : (rngL 0 n.toNat).length = n.toNat := by unfold rngL; rw [List.length_map, List.length_range]
          rw [hr] at hl
          rw [e1]
          refine ⟨?_, ?_⟩
          · rw [ones_len, List.length_map]
            show w.length + w.length * 0 ≤ _
            omega
          · rw [joinD_ones]
            exact h _ ⟨w, rfl, by omega, e3⟩
      | _ => exact h.elim
    | _ => exact h.elim
  | _ => exact h.elim
theorem sIx0 {n : Nat} {i : Int} (h0 : 0 ≤ i) (h1 : i ≤ (n : Nat)) (b : Nat) : HT.sIx n b (some i) = i.toNat := by
  have e : i = ((i.toNat : Nat) : Int) := by omega
  rw [e, HT.sIx_nat]
  omega
theorem cut_to {α : Type} {xs : List α} {i : Int} (h0 : 0 ≤ i) (h1 : i ≤ (xs.length : Nat)) : cut xs none (some i) = xs.take i.toNat := by
  unfold cut
  rw [sIx0 h0 h1, HT.sIx_none]
  simp
theorem cut_from {α : Type} {xs : List α} {i : Int} (h0 : 0 ≤ i) (h1 : i ≤ (xs.length : Nat)) : cut xs (some i) none = xs.drop i.toNat := by
  unfold cut
  rw [sIx0 h0 h1, HT.sIx_none]
  exact List.take_of_length_le (by rw [List.length_drop]; exact Nat.le_refl _)
theorem d__law_near {ds : List D} {S : Sto} {Q : DK} {R : RK} (h : (sp__law_near.g S ds).wp S Q R) : u__law_near (dStart 5 ds) S (endF Q R) := by
  have hh := sp3_inv h
  clear h
  obtain ⟨d, s, t, rfl, h⟩ := hh
  cases d with
  | obj a =>
    cases s with
    | int s =>
      cases t with
      | str t =>
        obtain ⟨⟨hS, h1, h2, h3, h4, h5⟩, h⟩ := h
        replace h : ∀ z, (∃ w, z = .str w ∧ figW s t.length w) → Q z S := h
        show u__law_near [some (.obj a), some (.int s), some (.str t), none, none] S _
        simp only [u__law_near, sC, sIf, sRt, sAs, sX, sN, sRtN, sRs, sBk, sPar, sPar3, sSub, DEnds.seq, DEnds.loop, endF, dAnd, dOr, dNot, dT, dTr, tru, dB, dCh, dC, dIsi, tyD_non, tyD_bl, tyD_int, tyD_str, tyD_tup, tyD_lst, isTN, dAndV, dOrV, dNotV, dIfE, aN, aC, dTup, dLst, dLstM, dCall, dCB, dU, dSl, slD, oN, oS, gN, gT, gsC, gsN, lAny, lRng1, lRng2, lZip, itemsOf, lstOf, seqOf, dLc, wipeD, bYes, dFor, dApp, dMs, dErr, opAdd, opSub, opMod, opDiv, opPow, opMul, opLt, opGt, opLe, opGe, opEq, opNe, opIn, opNi, opInB, opIs, opIsn, opIsB, isNon, opNeg, opIx, opAll, opSum, opMin, opMax, opInt, opLen, opTup, opList, opBool, opJoin, eqD_int, eqD_str, eqD_bl, eqD_non, eqD_tup, eqD_lst, eqD_tup0, eqD_lst0, der_int, der_str, der_bl, der_non, der_tup, der_lst, eqOk_int, eqOk_str, PR.wp, RS.wp, sp0, sp1, sp2, sp3, sp4, dV, List.getElem?_cons_zero, List.getElem?_cons_succ, List.getElem?_nil, List.set_cons_zero, List.set_cons_succ, List.length_cons, List.length_nil, Option.some.injEq, true_and, and_true, Bool.not_true, Bool.not_false, sp__law_roll]
        refine ⟨⟨hS, many_of (by decide) (by decide)⟩, ?_⟩
        rintro _ ⟨k, rfl, k0, k1⟩
        refine ⟨⟨by omega, by omega⟩, ?_⟩
        refine for_inv (fun _ env S1 => S1 = S ∧ ∃ w x y, env = [some (.obj a), some (.int s), some (.str w), x, y] ∧ figW s t.length w) ?_ ?_ _ _ _ ⟨rfl, t, none, none, rfl, h5⟩
        · rintro d r env S1 ⟨rfl, w, x, y, rfl, hw⟩ K hK
          have hwl := hw.1
          simp only [sC, sIf, sRt, sAs, sX, sN, sRtN, sRs, sBk, sPar, sPar3, sSub, DEnds.seq, DEnds.loop, endF, dAnd, dOr, dNot, dT, dTr, tru, dB, dCh, dC, dIsi, tyD_non, tyD_bl, tyD_int, tyD_str, tyD_tup, tyD_lst, isTN, dAndV, dOrV, dNotV, dIfE, aN, aC, dTup, dLst, dLstM, dCall, dCB, dU, dSl, slD, oN, oS, gN, gT, gsC, gsN, lAny, lRng1, lRng2, lZip, itemsOf, lstOf, seqOf, dLc, wipeD, bYes, dFor, dApp, dMs, dErr, opAdd, opSub, opMod, opDiv, opPow, opMul, opLt, opGt, opLe, opGe, opEq, opNe, opIn, opNi, opInB, opIs, opIsn, opIsB, isNon, opNeg, opIx, opAll, opSum, opMin, opMax, opInt, opLen, opTup, opList, opBool, opJoin, eqD_int, eqD_str, eqD_bl, eqD_non, eqD_tup, eqD_lst, eqD_tup0, eqD_lst0, der_int, der_str, der_bl, der_non, der_tup, der_lst, eqOk_int, eqOk_str, PR.wp, RS.wp, sp0, sp1, sp2, sp3, sp4, dV, List.getElem?_cons_zero, List.getElem?_cons_succ, List.getElem?_nil, List.set_cons_zero, List.set_cons_succ, List.length_cons, List.length_nil, Option.some.injEq, true_and, and_true, Bool.not_true, Bool.not_false, sp__law_roll]
          refine ⟨⟨hS, many_of (by omega) (by omega)⟩, ?_⟩
          rintro _ ⟨i, rfl, i0, i1⟩
          simp only [sC, sIf, sRt, sAs, sX, sN, sRtN, sRs, sBk, sPar, sPar3, sSub, DEnds.seq, DEnds.loop, endF, dAnd, dOr, dNot, dT, dTr, tru, dB, dCh, dC, dIsi, tyD_non, tyD_bl, tyD_int, tyD_str, tyD_tup, tyD_lst, isTN, dAndV, dOrV, dNotV, dIfE, aN, aC, dTup, dLst, dLstM, dCall, dCB, dU, dSl, slD, oN, oS, gN, gT, gsC, gsN, lAny, lRng1, lRng2, lZip, itemsOf, lstOf, seqOf, dLc, wipeD, bYes, dFor, dApp, dMs, dErr, opAdd, opSub, opMod, opDiv, opPow, opMul, opLt, opGt, opLe, opGe, opEq, opNe, opIn, opNi, opInB, opIs, opIsn, opIsB, isNon, opNeg, opIx, opAll, opSum, opMin, opMax, opInt, opLen, opTup, opList, opBool, opJoin, eqD_int, eqD_str, eqD_bl, eqD_non, eqD_tup, eqD_lst, eqD_tup0, eqD_lst0, der_int, der_str, der_bl, der_non, der_tup, der_lst, eqOk_int, eqOk_str, PR.wp, RS.wp, sp0, sp1, sp2, sp3, sp4, dV, List.getElem?_cons_zero, List.getElem?_cons_succ, List.getElem?_nil, List.set_cons_zero, List.set_cons_succ, List.length_cons, List.length_nil, Option.some.injEq, true_and, and_true, Bool.not_true, Bool.not_false, sp__law_roll]
          refine ⟨⟨hS, many_of (by omega) (by omega)⟩, ?_⟩
          rintro _ ⟨j, rfl, j0, j1⟩
          obtain ⟨c, ec, hc⟩ := figs_at h2 j0 j1
          dsimp only
          rw [ec]
          rw [cut_to i0 (by omega), cut_from (by omega) (by omega)]
          have l1 : (w.take i.toNat).length = i.toNat := by rw [List.length_take]; omega
          have l2 : (w.drop (i + 1).toNat).length = w.length - (i + 1).toNat := List.length_drop
          refine ⟨by rw [l1]; show i.toNat + 1 ≤ _; omega, by rw [List.length_append, l1, l2]; show i.toNat + 1 + _ ≤ _; omega, ?_⟩
          refine hK _ _ ⟨rfl, _, _, _, rfl, ?_, fun z hz => ?_⟩
          · rw [List.length_append, List.length_append, l1, l2]
            show i.toNat + 1 + _ = _
            omega
          · rcases List.mem_append.mp hz with hz | hz
            · rcases List.mem_append.mp hz with hz | hz
              · exact hw.2 z (List.mem_of_mem_take hz)
              · rw [List.mem_singleton.mp hz]; exact hc
            · exact hw.2 z (List.mem_of_mem_drop hz)
        · rintro env S1 ⟨rfl, w, x, y, rfl, hw⟩
          exact h _ ⟨w, rfl, hw⟩
      | _ => exact h.elim
    | _ => exact h.elim
  | _ => exact h.elim
end DL

namespace DL
open PySem PySem.Spec PyProof.Rows L2
theorem ascB_iff {l : List (List Nat)} : ascB l = true ↔ Asc l := by
  unfold ascB
  rw [List.all_eq_true]
  constructor
  · intro h
    have step : ∀ i, i + 1 < l.length → ltL (l.getD i []) (l.getD (i + 1) []) = true := fun i hi => h i (List.mem_range.mpr (by omega))
    have far : ∀ k i, i + (k + 1) < l.length → ltL (l.getD i []) (l.getD (i + (k + 1)) []) = true := by
      intro k
      induction k with
      | zero => exact fun i hi => step i hi
      | succ k ih => exact fun i hi => ltL_trans (ih i (by omega)) (step (i + (k + 1)) (by omega))
    refine List.pairwise_iff_getElem.mpr fun i j hi hj hij => ?_
    have := far (j - i - 1) i (by omega)
    rw [show i + (j - i - 1 + 1) = j by omega] at this
    simpa [List.getD_eq_getElem?_getD, List.getElem?_eq_getElem hi, List.getElem?_eq_getElem hj] using this
  · intro h i hi
    have hi : i + 1 < l.length := by have := List.mem_range.mp hi; omega
    have := List.pairwise_iff_getElem.mp h i (i + 1) (by omega) hi (by omega)
    simpa [List.getD_eq_getElem?_getD, List.getElem?_eq_getElem hi, List.getElem?_eq_getElem (show i < l.length by omega)] using this
/-! ### a random book -/
def bookOk (m c : Int) (z : D) : Prop := ∃ (s : Int) (l : List (List Nat)), z = .tup [.int s, .tup (l.map D.str)] ∧ 2 ≤ s ∧ s ≤ 4 ∧ bkL s l = true ∧ (l.length : Int) ≤ max m 3 ∧ ∀ w ∈ l, (w.length : Int) ≤ max c 4
def sp__law_book : DSp := sp3 fun S d m c => match d, m, c with
  | .obj a, .int m, .int c => .pre (S a = some .drum ∧ 0 ≤ m ∧ m ≤ 40 ∧ 1 ≤ c ∧ c ≤ 12) (.any (bookOk m c))
  | _, _, _ => .no
def u__law_book : DS := sC (sIf (dT (dB opEq (dCall sp__law_roll (aC (dV 0) (aC (dC (.int 8)) (aN)))) (dC (.int 0)))) (sC (sAs (dLst (aC (dTup (aC (dC (.int 2)) (aC (dTup (aC (dC (.str [48, 48, 49, 49])) (aC (dC (.str [48, 49, 48, 49])) (aC (dC (.str [49, 49, 48, 48])) (aN))))) (aN)))) (aC (dTup (aC (dC (.int 2)) (aC (dTup (aC (dC (.str [48, 48, 49])) (aC (dC (.str [48, 49, 49])) (aC (dC (.str [49, 49, 48])) (aN))))) (aN)))) (aC (dTup (aC (dC (.int 3)) (aC (dTup (aC (dC (.str [48, 50])) (aC (dC (.str [49, 49])) (aC (dC (.str [50, 50])) (aN))))) (aN)))) (aN))))) (gN 4)) (sRt (dCall sp__law_some (aC (dV 0) (aC (dB opAdd (dV 4) (dLst (aC (dTup (aC (dC (.int 2)) (aC (dTup (aN)) (aN)))) (aC (dTup (aC (dC (.int 4)) (aC (dTup (aC (dC (.str [51])) (aN))) (aN)))) (aN))))) (aN)))))) (sN)) (sC (sPar3 5 6 7 (aC (dCall sp__law_some (aC (dV 0) (aC (dLst (aC (dC (.int 2)) (aC (dC (.int 2)) (aC (dC (.int 3)) (aC (dC (.int 4)) (aN)))))) (aN)))) (aC (dB opAdd (dC (.int 1)) (dCall sp__law_roll (aC (dV 0) (aC (dV 2) (aN))))) (aC (dLstM (aN)) (aN))))) (sC (dFor (lRng1 (aC (dCall sp__law_roll (aC (dV 0) (aC (dB opAdd (dV 1) (dC (.int 1))) (aN)))) (aN))) (gN 3) (sIf (dAnd (dT (dB opNe (dV 7) (dLst (aN)))) (dT (dB opEq (dCall sp__law_roll (aC (dV 0) (aC (dC (.int 2)) (aN)))) (dC (.int 0))))) (sX (dApp (dV 7) (aC (dCall sp__law_near (aC (dV 0) (aC (dV 5) (aC (dCall sp__law_some (aC (dV 0) (aC (dV 7) (aN)))) (aN))))) (aN)))) (sX (dApp (dV 7) (aC (dCall sp__law_word (aC (dV 0) (aC (dV 5) (aC (dV 6) (aN))))) (aN)))))) (sRt (dTup (aC (dV 5) (aC (dCB opTup (aC (dU opSset (dV 7)) (aN))) (aN)))))))
theorem figs_mem {s : Int} (h2 : 2 ≤ s) (h4 : s ≤ 4) {c : Nat} (hc : 48 ≤ c ∧ (c : Int) < 48 + s) : c ∈ figs s := by
  have : s = 2 ∨ s = 3 ∨ s = 4 := by omega
  rcases this with rfl | rfl | rfl
  · show c ∈ [48, 49]
    simp only [List.mem_cons, List.not_mem_nil, or_false]; omega
  · show c ∈ [48, 49, 50]
    simp only [List.mem_cons, List.not_mem_nil, or_false]; omega
  · show c ∈ [48, 49, 50, 51]
    simp only [List.mem_cons, List.not_mem_nil, or_false]; omega
theorem bkL_sset {s : Int} {n : Nat} {l : List (List Nat)} (h2 : 2 ≤ s) (h4 : s ≤ 4) (hn : 1 ≤ n) (hn2 : n ≤ 12) (hl : ∀ w ∈ l, figW s n w) : bkL s (ssetD l) = true := by
  unfold bkL
  simp only [Bool.and_eq_true, List.all_eq_true, decide_eq_true_eq]
  refine ⟨⟨fun w hw => ?_, fun w hw => ?_⟩, ascB_iff.mpr (ssetD_asc l)⟩
  · have f := hl w (ssetD_mem.mp hw)
    unfold isWd
    simp only [Bool.and_eq_true, List.all_eq_true, decide_eq_true_eq]
    refine ⟨⟨by rw [f.1]; exact hn, by rw [f.1]; omega⟩, fun c hc => figs_mem h2 h4 (f.2 c hc)⟩
  · have f := hl w (ssetD_mem.mp hw)
    have hne : 0 < (ssetD l).length := List.length_pos_of_mem hw
    have f0 := hl _ (ssetD_mem.mp (List.getElem_mem hne))
    rw [List.getD_eq_getElem?_getD, List.getElem?_eq_getElem hne]
    show w.length = (ssetD l)[0].length ∧ _
    rw [f.1, f0.1]
    exact ⟨rfl, hn2⟩
theorem der_obj {S : Sto} {a : Addr} {l : List D} (h : S a = some (.lst l)) : der S (.obj a) = .lst l := by
  show (match S a with | some (.lst ds) => D.lst ds | _ => .obj a) = _
  rw [h]
theorem dok_strs {l : List (List Nat)} {n : Nat} : dokL n (l.map D.str) = true := dokL_of fun d hd => by obtain ⟨w, _, rfl⟩ := List.mem_map.mp hd; cases n <;> rfl
theorem seqOf_obj {S : Sto} {a : Addr} {l : List D} (h : S a = some (.lst l)) : seqOf S (.obj a) = some l := by
  show (match S a with | some (.lst ds) => some ds | _ => none) = _
  rw [h]
theorem opSset_str {S : Sto} {x : D} {l : List (List Nat)} (h : seqOf S x = some (l.map D.str)) : opSset S x = .pre (l.length < 60) (.lst ((ssetD l).map D.str)) := by
  unfold opSset
  rw [h]
  dsimp only
  rw [sts_of]
section
variable {S : Sto} {Q : DK} {R : RK} {a b : Addr}
theorem dLstM_eq {t : AT} {env : DEnv} : dLstM t env S Q R = t env S (fun ds S1 => ds.length ≤ 16777216 ∧ ∀ a, S1 a = none → Q (.obj a) (put S1 a (.lst ds))) R := rfl
theorem roll_wp {k : Int} : (sp__law_roll.g S [.obj a, .int k]).wp S Q R = ((S a = some .drum ∧ okMany k) ∧ ∀ d, rolled k d → Q d S) := rfl
theorem some_lst {l : List D} : (sp__law_some.g S [.obj a, .lst l]).wp S Q R = ((S a = some .drum ∧ l ≠ [] ∧ l.length ≤ 100000) ∧ ∀ z, z ∈ l → Q z S) := rfl
theorem some_tup {l : List D} : (sp__law_some.g S [.obj a, .tup l]).wp S Q R = ((S a = some .drum ∧ l ≠ [] ∧ l.length ≤ 100000) ∧ ∀ z, z ∈ l → Q z S) := rfl
theorem some_obj {l : List D} (h : S b = some (.lst l)) : (sp__law_some.g S [.obj a, .obj b]).wp S Q R = ((S a = some .drum ∧ l ≠ [] ∧ l.length ≤ 100000) ∧ ∀ z, z ∈ l → Q z S) := by
  have : sp__law_some.g S [.obj a, .obj b] = (match D.obj a, seqOf S (.obj b) with | .obj a, some l => RS.pre (S a = some .drum ∧ l ≠ [] ∧ l.length ≤ 100000) (.any fun z => z ∈ l) | _, _ => .no) := rfl
  rw [this, seqOf_obj h]
  rfl
theorem word_wp {s n : Int} : (sp__law_word.g S [.obj a, .int s, .int n]).wp S Q R = ((S a = some .drum ∧ 1 ≤ s ∧ s ≤ 4 ∧ 0 ≤ n ∧ n ≤ 1000) ∧ ∀ z, (∃ w, z = .str w ∧ figW s n.toNat w) → Q z S) := rfl
theorem near_wp {s : Int} {t : List Nat} : (sp__law_near.g S [.obj a, .int s, .str t]).wp S Q R = ((S a = some .drum ∧ 1 ≤ s ∧ s ≤ 4 ∧ 1 ≤ t.length ∧ t.length ≤ 1000 ∧ figW s t.length t) ∧ ∀ z, (∃ w, z = .str w ∧ figW s t.length w) → Q z S) := rfl
end
theorem d__law_book {ds : List D} {S : Sto} {Q : DK} {R : RK} (qm : QMono Q) (rm : RMono R) (h : (sp__law_book.g S ds).wp S Q R) : u__law_book (dStart 8 ds) S (endF Q R) := by
  have hh := sp3_inv h
  clear h
  obtain ⟨d, m, c, rfl, h⟩ := hh
  cases d with
  | obj a =>
    cases m with
    | int m =>
      cases c with
      | int c =>
        obtain ⟨⟨hS, m0, m1, c0, c1⟩, h⟩ := h
        replace h : ∀ z, bookOk m c z → Q z S := h
        show u__law_book [some (.obj a), some (.int m), some (.int c), none, none, none, none, none] S _
        simp only [u__law_book, sC, sIf, sRt, sAs, sX, sN, sRtN, sRs, sBk, sPar, sPar3, sSub, DEnds.seq, DEnds.loop, endF, dAnd, dOr, dNot, dT, dTr, tru, dB, dCh, dC, dIsi, tyD_non, tyD_bl, tyD_int, tyD_str, tyD_tup, tyD_lst, isTN, dAndV, dOrV, dNotV, dIfE, aN, aC, dTup, dLst, dLstM_eq, dCall, dCB, dU, dSl, slD, oN, oS, gN, gT, gsC, gsN, lAny, lRng1, lRng2, lZip, itemsOf, lstOf, seqOf, dLc, wipeD, bYes, dFor, dApp, dMs, dErr, opAdd, opSub, opMod, opDiv, opPow, opMul, opLt, opGt, opLe, opGe, opEq, opNe, opIn, opNi, opInB, opIs, opIsn, opIsB, isNon, opNeg, opIx, opAll, opSum, opMin, opMax, opInt, opLen, opTup, opList, opBool, opJoin, eqD_int, eqD_str, eqD_bl, eqD_non, eqD_tup, eqD_lst, eqD_tup0, eqD_lst0, der_int, der_str, der_bl, der_non, der_tup, der_lst, eqOk_int, eqOk_str, PR.wp, RS.wp, dV, List.getElem?_cons_zero, List.getElem?_cons_succ, List.getElem?_nil, List.set_cons_zero, List.set_cons_succ, List.length_cons, List.length_nil, Option.some.injEq, true_and, and_true, Bool.not_true, Bool.not_false, roll_wp]
        refine ⟨⟨hS, many_of (by decide) (by decide)⟩, ?_⟩
        rintro _ ⟨i, rfl, i0, i1⟩
        simp only [sC, sIf, sRt, sAs, sX, sN, sRtN, sRs, sBk, sPar, sPar3, sSub, DEnds.seq, DEnds.loop, endF, dAnd, dOr, dNot, dT, dTr, tru, dB, dCh, dC, dIsi, tyD_non, tyD_bl, tyD_int, tyD_str, tyD_tup, tyD_lst, isTN, dAndV, dOrV, dNotV, dIfE, aN, aC, dTup, dLst, dLstM_eq, dCall, dCB, dU, dSl, slD, oN, oS, gN, gT, gsC, gsN, lAny, lRng1, lRng2, lZip, itemsOf, lstOf, seqOf, dLc, wipeD, bYes, dFor, dApp, dMs, dErr, opAdd, opSub, opMod, opDiv, opPow, opMul, opLt, opGt, opLe, opGe, opEq, opNe, opIn, opNi, opInB, opIs, opIsn, opIsB, isNon, opNeg, opIx, opAll, opSum, opMin, opMax, opInt, opLen, opTup, opList, opBool, opJoin, eqD_int, eqD_str, eqD_bl, eqD_non, eqD_tup, eqD_lst, eqD_tup0, eqD_lst0, der_int, der_str, der_bl, der_non, der_tup, der_lst, eqOk_int, eqOk_str, PR.wp, RS.wp, dV, List.getElem?_cons_zero, List.getElem?_cons_succ, List.getElem?_nil, List.set_cons_zero, List.set_cons_succ, List.length_cons, List.length_nil, Option.some.injEq, true_and, and_true, Bool.not_true, Bool.not_false]
        cases b1 : decide (i = 0) with
        | true =>
          simp only [some_lst, sC, sIf, sRt, sAs, sX, sN, sRtN, sRs, sBk, sPar, sPar3, sSub, DEnds.seq, DEnds.loop, endF, dAnd, dOr, dNot, dT, dTr, tru, dB, dCh, dC, dIsi, tyD_non, tyD_bl, tyD_int, tyD_str, tyD_tup, tyD_lst, isTN, dAndV, dOrV, dNotV, dIfE, aN, aC, dTup, dLst, dLstM_eq, dCall, dCB, dU, dSl, slD, oN, oS, gN, gT, gsC, gsN, lAny, lRng1, lRng2, lZip, itemsOf, lstOf, seqOf, dLc, wipeD, bYes, dFor, dApp, dMs, dErr, opAdd, opSub, opMod, opDiv, opPow, opMul, opLt, opGt, opLe, opGe, opEq, opNe, opIn, opNi, opInB, opIs, opIsn, opIsB, isNon, opNeg, opIx, opAll, opSum, opMin, opMax, opInt, opLen, opTup, opList, opBool, opJoin, eqD_int, eqD_str, eqD_bl, eqD_non, eqD_tup, eqD_lst, eqD_tup0, eqD_lst0, der_int, der_str, der_bl, der_non, der_tup, der_lst, eqOk_int, eqOk_str, PR.wp, RS.wp, dV, List.getElem?_cons_zero, List.getElem?_cons_succ, List.getElem?_nil, List.set_cons_zero, List.set_cons_succ, List.length_cons, List.length_nil, Option.some.injEq, true_and, and_true, Bool.not_true, Bool.not_false, catL, List.cons_append, List.nil_append]
          refine ⟨by decide, by decide, by decide, by decide, by decide, by decide, by decide, by decide, by decide, by decide, by decide, by decide, by decide, ⟨hS, by simp, by decide⟩, ?_⟩
          intro z hz
          refine h z ?_
          simp only [List.mem_cons, List.not_mem_nil, or_false] at hz
          rcases hz with rfl | rfl | rfl | rfl | rfl
          · exact ⟨2, [[48, 48, 49, 49], [48, 49, 48, 49], [49, 49, 48, 48]], rfl, by decide, by decide, by decide +kernel, by show (3 : Int) ≤ _; omega, by intro w hw; simp at hw; rcases hw with rfl | rfl | rfl <;> (show (4 : Int) ≤ _; omega)⟩
          · exact ⟨2, [[48, 48, 49], [48, 49, 49], [49, 49, 48]], rfl, by decide, by decide, by decide +kernel, by show (3 : Int) ≤ _; omega, by intro w hw; simp at hw; rcases hw with rfl | rfl | rfl <;> (show (3 : Int) ≤ _; omega)⟩
          · exact ⟨3, [[48, 50], [49, 49], [50, 50]], rfl, by decide, by decide, by decide +kernel, by show (3 : Int) ≤ _; omega, by intro w hw; simp at hw; rcases hw with rfl | rfl | rfl <;> (show (2 : Int) ≤ _; omega)⟩
          · exact ⟨2, [], rfl, by decide, by decide, by decide +kernel, by show (0 : Int) ≤ _; omega, by intro w hw; cases hw⟩
          · exact ⟨4, [[51]], rfl, by decide, by decide, by decide +kernel, by show (1 : Int) ≤ _; omega, by intro w hw; simp at hw; rw [hw]; show (1 : Int) ≤ _; omega⟩
        | false =>
          simp only [some_lst, sC, sIf, sRt, sAs, sX, sN, sRtN, sRs, sBk, sPar, sPar3, sSub, DEnds.seq, DEnds.loop, endF, dAnd, dOr, dNot, dT, dTr, tru, dB, dCh, dC, dIsi, tyD_non, tyD_bl, tyD_int, tyD_str, tyD_tup, tyD_lst, isTN, dAndV, dOrV, dNotV, dIfE, aN, aC, dTup, dLst, dLstM_eq, dCall, dCB, dU, dSl, slD, oN, oS, gN, gT, gsC, gsN, lAny, lRng1, lRng2, lZip, itemsOf, lstOf, seqOf, dLc, wipeD, bYes, dFor, dApp, dMs, dErr, opAdd, opSub, opMod, opDiv, opPow, opMul, opLt, opGt, opLe, opGe, opEq, opNe, opIn, opNi, opInB, opIs, opIsn, opIsB, isNon, opNeg, opIx, opAll, opSum, opMin, opMax, opInt, opLen, opTup, opList, opBool, opJoin, eqD_int, eqD_str, eqD_bl, eqD_non, eqD_tup, eqD_lst, eqD_tup0, eqD_lst0, der_int, der_str, der_bl, der_non, der_tup, der_lst, eqOk_int, eqOk_str, PR.wp, RS.wp, dV, List.getElem?_cons_zero, List.getElem?_cons_succ, List.getElem?_nil, List.set_cons_zero, List.set_cons_succ, List.length_cons, List.length_nil, Option.some.injEq, true_and, and_true, Bool.not_true, Bool.not_false]
          refine ⟨by decide, ⟨hS, by simp, by decide⟩, ?_⟩
          intro z hz
          obtain ⟨s, rfl, s2, s4⟩ : ∃ s : Int, z = .int s ∧ 2 ≤ s ∧ s ≤ 4 := by
            simp only [List.mem_cons, List.not_mem_nil, or_false] at hz
            rcases hz with rfl | rfl | rfl | rfl
            · exact ⟨2, rfl, by decide, by decide⟩
            · exact ⟨2, rfl, by decide, by decide⟩
            · exact ⟨3, rfl, by decide, by decide⟩
            · exact ⟨4, rfl, by decide, by decide⟩
          refine ⟨⟨hS, many_of (by omega) (by omega)⟩, ?_⟩
          rintro _ ⟨j, rfl, j0, j1⟩
          try simp only [roll_wp, sC, sIf, sRt, sAs, sX, sN, sRtN, sRs, sBk, sPar, sPar3, sSub, DEnds.seq, DEnds.loop, endF, dAnd, dOr, dNot, dT, dTr, tru, dB, dCh, dC, dIsi, tyD_non, tyD_bl, tyD_int, tyD_str, tyD_tup, tyD_lst, isTN, dAndV, dOrV, dNotV, dIfE, aN, aC, dTup, dLst, dLstM_eq, dCall, dCB, dU, dSl, slD, oN, oS, gN, gT, gsC, gsN, lAny, lRng1, lRng2, lZip, itemsOf, lstOf, seqOf, dLc, wipeD, bYes, dFor, dApp, dMs, dErr, opAdd, opSub, opMod, opDiv, opPow, opMul, opLt, opGt, opLe, opGe, opEq, opNe, opIn, opNi, opInB, opIs, opIsn, opIsB, isNon, opNeg, opIx, opAll, opSum, opMin, opMax, opInt, opLen, opTup, opList, opBool, opJoin, eqD_int, eqD_str, eqD_bl, eqD_non, eqD_tup, eqD_lst, eqD_tup0, eqD_lst0, der_int, der_str, der_bl, der_non, der_tup, der_lst, eqOk_int, eqOk_str, PR.wp, RS.wp, dV, List.getElem?_cons_zero, List.getElem?_cons_succ, List.getElem?_nil, List.set_cons_zero, List.set_cons_succ, List.length_cons, List.length_nil, Option.some.injEq, true_and, and_true, Bool.not_true, Bool.not_false]
          refine ⟨by decide, fun b hb => ?_⟩
          have hab : a ≠ b := fun e => by rw [e, hb] at hS; cases hS
          have hD : ∀ m, put S b m a = some .drum := fun m => by rw [put_ne hab]; exact hS
          refine ⟨⟨hD _, many_of (by omega) (by omega)⟩, ?_⟩
          rintro _ ⟨k, rfl, k0, k1⟩
          refine ⟨⟨by omega, by omega⟩, ?_⟩
          have hL : (rngL 0 k.toNat).length = k.toNat := by unfold rngL; rw [List.length_map, List.length_range]
          refine for_inv (fun rest env S1 => ∃ (l : List (List Nat)) (x y : Option D), S1 = put S b (.lst (l.map D.str)) ∧ (∀ w ∈ l, figW s (1 + j).toNat w) ∧ l.length + rest.length ≤ m.toNat ∧ env = [some (.obj a), some (.int m), some (.int c), x, y, some (.int s), some (.int (1 + j)), some (.obj b)]) ?_ ?_ _ _ _ ⟨[], none, none, rfl, (fun w hw => by cases hw), by rw [hL]; show 0 + k.toNat ≤ _; omega, rfl⟩
          · rintro d rest env S1 ⟨l, x, y, rfl, hl, hm, rfl⟩ K hK
            have hbl : put S b (.lst (l.map D.str)) b = some (.lst (l.map D.str)) := put_same
            have fin : ∀ w, figW s (1 + j).toNat w → (l.map D.str).length < 16777216 ∧ K [some (.obj a), some (.int m), some (.int c), some d, y, some (.int s), some (.int (1 + j)), some (.obj b)] (put (put S b (.lst (l.map D.str))) b (.lst (l.map D.str ++ [D.str w]))) := fun w hw => by
              rw [List.length_cons] at hm
              refine ⟨by rw [List.length_map]; omega, hK _ _ ⟨l ++ [w], some d, y, ?_, ?_, ?_, rfl⟩⟩
              · rw [put_put, List.map_append]; rfl
              · intro v hv
                rcases List.mem_append.mp hv with hv | hv
                · exact hl v hv
                · rw [List.mem_singleton.mp hv]; exact hw
              · rw [List.length_append]; show l.length + 1 + _ ≤ _; omega
            simp only [sC, sIf, sRt, sAs, sX, sN, sRtN, sRs, sBk, sPar, sPar3, sSub, DEnds.seq, DEnds.loop, endF, dAnd, dOr, dNot, dT, dTr, tru, dB, dCh, dC, dIsi, tyD_non, tyD_bl, tyD_int, tyD_str, tyD_tup, tyD_lst, isTN, dAndV, dOrV, dNotV, dIfE, aN, aC, dTup, dLst, dLstM_eq, dCall, dCB, dU, dSl, slD, oN, oS, gN, gT, gsC, gsN, lAny, lRng1, lRng2, lZip, itemsOf, lstOf, seqOf, dLc, wipeD, bYes, dFor, dApp, dMs, dErr, opAdd, opSub, opMod, opDiv, opPow, opMul, opLt, opGt, opLe, opGe, opEq, opNe, opIn, opNi, opInB, opIs, opIsn, opIsB, isNon, opNeg, opIx, opAll, opSum, opMin, opMax, opInt, opLen, opTup, opList, opBool, opJoin, eqD_int, eqD_str, eqD_bl, eqD_non, eqD_tup, eqD_lst, eqD_tup0, eqD_lst0, der_int, der_str, der_bl, der_non, der_tup, der_lst, eqOk_int, eqOk_str, PR.wp, RS.wp, dV, List.getElem?_cons_zero, List.getElem?_cons_succ, List.getElem?_nil, List.set_cons_zero, List.set_cons_succ, List.length_cons, List.length_nil, Option.some.injEq, true_and, and_true, Bool.not_true, Bool.not_false, der_obj hbl, roll_wp, eqD_nil]
            refine ⟨Nat.zero_le _, ?_, ?_⟩
            · show (dok 60 (der _ (.obj b)) && dok 60 (.lst [])) = true
              rw [der_obj hbl]
              show (dokL 59 (l.map D.str) && true) = true
              rw [dok_strs]; rfl
            · have put_it : ∀ w, figW s (1 + j).toNat w → (match put S b (.lst (l.map D.str)) b with
                  | some (.lst l') => l'.length < 16777216 ∧ K [some (.obj a), some (.int m), some (.int c), some d, y, some (.int s), some (.int (1 + j)), some (.obj b)] (put (put S b (.lst (l.map D.str))) b (.lst (l' ++ [D.str w])))
                  | _ => False) := fun w hw => by rw [hbl]; exact fin w hw
              have word : (∃ l_1, put S b (.lst (l.map D.str)) b = some (.lst l_1)) ∧ (sp__law_word.g (put S b (.lst (l.map D.str))) [.obj a, .int s, .int (1 + j)]).wp (put S b (.lst (l.map D.str))) (fun x S1 => match S1 b with
                  | some (.lst l') => l'.length < 16777216 ∧ K [some (.obj a), some (.int m), some (.int c), some d, y, some (.int s), some (.int (1 + j)), some (.obj b)] (put S1 b (.lst (l' ++ [x])))
                  | _ => False) (fun e S1 => R e S1) := by
                refine ⟨⟨_, hbl⟩, ?_⟩
                rw [word_wp]
                refine ⟨⟨hD _, by omega, by omega, by omega, by omega⟩, ?_⟩
                rintro _ ⟨w, rfl, hw⟩
                exact put_it w hw
              cases b2 : (l.map D.str).isEmpty with
              | true => exact word
              | false =>
                refine ⟨⟨hD _, many_of (by decide) (by decide)⟩, ?_⟩
                rintro _ ⟨q, rfl, q0, q1⟩
                refine ⟨rfl, ?_⟩
                simp only [der_int, eqD_int]
                cases b3 : decide (q = 0) with
                | false => exact word
                | true =>
                  refine ⟨⟨_, hbl⟩, ?_⟩
                  rw [some_obj hbl]
                  refine ⟨⟨hD _, (fun e => by rw [e] at b2; cases b2), by rw [List.length_map]; omega⟩, fun z hz => ?_⟩
                  obtain ⟨w, hw, rfl⟩ := List.mem_map.mp hz
                  have f := hl w hw
                  rw [near_wp]
                  refine ⟨⟨hD _, by omega, by omega, by rw [f.1]; omega, by rw [f.1]; omega, by rw [f.1]; exact f⟩, ?_⟩
                  rintro _ ⟨v, rfl, hv⟩
                  rw [f.1] at hv
                  exact put_it v hv
          · rintro env S1 ⟨l, x, y, rfl, hl, hm, rfl⟩
            have hbl : put S b (.lst (l.map D.str)) b = some (.lst (l.map D.str)) := put_same
            rw [List.length_nil] at hm
            simp only [DEnds.seq, sC, sIf, sRt, sAs, sX, sN, sRtN, sRs, sBk, sPar, sPar3, sSub, DEnds.seq, DEnds.loop, endF, dAnd, dOr, dNot, dT, dTr, tru, dB, dCh, dC, dIsi, tyD_non, tyD_bl, tyD_int, tyD_str, tyD_tup, tyD_lst, isTN, dAndV, dOrV, dNotV, dIfE, aN, aC, dTup, dLst, dLstM_eq, dCall, dCB, dU, dSl, slD, oN, oS, gN, gT, gsC, gsN, lAny, lRng1, lRng2, lZip, itemsOf, lstOf, seqOf, dLc, wipeD, bYes, dFor, dApp, dMs, dErr, opAdd, opSub, opMod, opDiv, opPow, opMul, opLt, opGt, opLe, opGe, opEq, opNe, opIn, opNi, opInB, opIs, opIsn, opIsB, isNon, opNeg, opIx, opAll, opSum, opMin, opMax, opInt, opLen, opTup, opList, opBool, opJoin, eqD_int, eqD_str, eqD_bl, eqD_non, eqD_tup, eqD_lst, eqD_tup0, eqD_lst0, der_int, der_str, der_bl, der_non, der_tup, der_lst, eqOk_int, eqOk_str, PR.wp, RS.wp, dV, List.getElem?_cons_zero, List.getElem?_cons_succ, List.getElem?_nil, List.set_cons_zero, List.set_cons_succ, List.length_cons, List.length_nil, Option.some.injEq, true_and, and_true, Bool.not_true, Bool.not_false, opSset_str (seqOf_obj hbl)]
            refine ⟨by omega, by decide, ?_⟩
            refine qm _ _ _ (SLe.put hb) (h _ ⟨s, ssetD l, rfl, s2, s4, bkL_sset s2 s4 (by omega) (by omega) hl, ?_, ?_⟩)
            · have := ssetD_len l
              omega
            · intro w hw
              rw [(hl w (ssetD_mem.mp hw)).1]
              omega
      | _ => exact h.elim
    | _ => exact h.elim
  | _ => exact h.elim
end DL

namespace DL
open PySem PySem.Spec PyProof.Rows L2
/-! ### law k03 -/
def prC (p : List Nat × List Nat) : Bool := !decide (p.1 = p.2) && lawIn p.2 p.1
def pr1 (a : List Nat) (r : List (List Nat)) : List (List Nat × List Nat) := (r.map fun b => (a, b)).filter prC
def prs (l : List (List Nat)) : List (List Nat × List Nat) := l.flatMap fun a => pr1 a l
def pD (p : List Nat × List Nat) : D := .tup [.str p.1, .str p.2, .int (wt p.1 - wt p.2)]
def sp__law_pairs : DSp := sp1 fun _ z => .pre (isBk z = true) (.ret (.lst ((prs (bkW z)).map pD)))
def sp_law : DSp := sp1 fun _ x => match x with | .scr ns => .pre (ns.length ≤ 63) (.all (.bl true)) | _ => .no
/-- _law_pairs: 0 one, 1 found, 2 first, 3 second, -/
def u__law_pairs : DS := sC (sAs (dLstM (aN)) (gN 1)) (sC (dFor (lAny (dB opIx (dV 0) (dC (.int 1)))) (gN 2) (dFor (lAny (dB opIx (dV 0) (dC (.int 1)))) (gN 3) (sIf (dAnd (dT (dB opNe (dV 2) (dV 3))) (dTr (dCall sp__law_in (aC (dV 3) (aC (dV 2) (aN)))))) (sX (dApp (dV 1) (aC (dTup (aC (dV 2) (aC (dV 3) (aC (dCall sp__law_loss (aC (dV 2) (aC (dV 3) (aN)))) (aN))))) (aN)))) (sN)))) (sRt (dCB opSorted (aC (dV 1) (aN)))))
theorem prs_len {l : List (List Nat)} (h : l.length ≤ 40) : (prs l).length ≤ 1600 := by
  unfold prs
  rw [List.length_flatMap]
  have : ∀ r : List (List Nat), (r.map fun a => (pr1 a l).length).sum ≤ r.length * 40 := by
    intro r
    induction r with
    | nil => exact Nat.zero_le _
    | cons a r ih =>
      rw [List.map_cons, List.sum_cons, List.length_cons, Nat.succ_mul]
      have : (pr1 a l).length ≤ l.length := by unfold pr1; exact Nat.le_trans (List.length_filter_le _ _) (by rw [List.length_map]; exact Nat.le_refl _)
      omega
  have := this l
  omega
theorem toks_pD (p : List Nat × List Nat) : PySem.W.keyToks (toPy (pD p)) = [.inl 1, .inr p.1, .inl 1, .inr p.2, .inl 1, .inl (wt p.1 - wt p.2), .inl 0] := by
  have e : ∀ s : List Nat, (sOf s).cps.toList = s := sOf_toL
  show PySem.W.keyToksAll [.str (sOf p.1), .str (sOf p.2), .int _] = _
  simp only [PySem.W.keyToksAll, PySem.W.keyToks, e, List.cons_append, List.nil_append]
theorem lx (x y : Int ⊕ List Nat) (r t : List (Int ⊕ List Nat)) : lexLt itemOrd (x :: r) (y :: t) = (itemLt x y || (!itemLt y x && lexLt itemOrd r t)) := lex_cons (O := itemOrd) x y r t
theorem blt_inr (a b : List Nat) : itemLt (.inr a) (.inr b) = ltL a b := rfl
theorem blt_one : itemLt (.inl 1) (.inl 1) = false := rfl
theorem ltL_asym {a b : List Nat} (h : ltL a b = true) : ltL b a = false := by
  cases e : ltL b a with
  | false => rfl
  | true => have := ltL_trans h e; rw [ltL_irr] at this; cases this
theorem le_pD {p q : List Nat × List Nat} (h : ltL p.1 q.1 = true ∨ (p.1 = q.1 ∧ ltL p.2 q.2 = true)) : PySem.W.dataLe false toPy (pD p) (pD q) = true := by
  show (!lexLt itemOrd (PySem.W.keyToks (toPy (pD q))) (PySem.W.keyToks (toPy (pD p)))) = true
  rw [toks_pD, toks_pD]
  rw [lx, lx, lx, lx]
  simp only [blt_inr, blt_one, Bool.false_or, Bool.not_false, Bool.true_and]
  rcases h with h | ⟨h1, h2⟩
  · rw [ltL_asym h, h]; rfl
  · rw [h1, ltL_irr, ltL_asym h2, h2]; rfl
theorem pr_asc {l : List (List Nat)} (h : Asc l) : (prs l).Pairwise fun p q => ltL p.1 q.1 = true ∨ (p.1 = q.1 ∧ ltL p.2 q.2 = true) := by
  unfold prs
  rw [List.pairwise_flatMap]
  refine ⟨fun a ha => ?_, ?_⟩
  · unfold pr1
    refine List.Pairwise.filter _ ?_
    rw [List.pairwise_map]
    exact h.imp fun hab => .inr ⟨rfl, hab⟩
  · refine h.imp fun {a b} hab => ?_
    intro p hp q hq
    unfold pr1 at hp hq
    obtain ⟨_, _, rfl⟩ := List.mem_map.mp (List.mem_filter.mp hp).1
    obtain ⟨_, _, rfl⟩ := List.mem_map.mp (List.mem_filter.mp hq).1
    exact .inl hab
theorem sort_prs {l : List (List Nat)} (h : Asc l) : sortD ((prs l).map pD) = (prs l).map pD := by
  unfold sortD
  refine List.mergeSort_of_pairwise ?_
  rw [List.pairwise_map]
  exact (pr_asc h).imp le_pD
theorem pr_alike (l : List (List Nat × List Nat)) : alikeB (l.map pD) = true := by
  unfold alikeB
  rw [List.all_eq_true]
  intro a ha
  rw [List.all_eq_true]
  intro b hb
  obtain ⟨p, _, rfl⟩ := List.mem_map.mp ha
  obtain ⟨q, _, rfl⟩ := List.mem_map.mp hb
  rfl
theorem pr_sortB (l : List (List Nat × List Nat)) : sortB (l.map pD) = true := by
  unfold sortB
  rw [Bool.or_eq_true]
  left
  rw [List.all_eq_true]
  intro a ha
  obtain ⟨p, _, rfl⟩ := List.mem_map.mp ha
  rfl
theorem pr_dok (l : List (List Nat × List Nat)) {n : Nat} : (l.map pD).all (dok (n + 1)) = true := by
  rw [List.all_eq_true]
  intro a ha
  obtain ⟨p, _, rfl⟩ := List.mem_map.mp ha
  rfl
theorem in_wp {S : Sto} {Q : DK} {R : RK} {a b : List Nat} : (sp__law_in.g S [.str a, .str b]).wp S Q R = ((digs a ∧ digs b ∧ a.length ≤ 1000) ∧ Q (.bl (lawIn a b)) S) := rfl
theorem loss_wp {S : Sto} {Q : DK} {R : RK} {a b : List Nat} : (sp__law_loss.g S [.str a, .str b]).wp S Q R = ((digs a ∧ digs b ∧ b.length ≤ 1000) ∧ Q (optI (lawLoss a b)) S) := rfl
theorem bk_len {s : Int} {l : List (List Nat)} (h : bkL s l = true) : ∀ w ∈ l, w.length = (l.getD 0 []).length ∧ w.length ≤ 12 := fun w hw => by
  unfold bkL at h
  simp only [Bool.and_eq_true] at h
  have := List.all_eq_true.mp h.1.2 w hw
  simpa using this
theorem bk_asc {s : Int} {l : List (List Nat)} (h : bkL s l = true) : Asc l := by
  unfold bkL at h
  simp only [Bool.and_eq_true] at h
  exact ascB_iff.mp h.2
theorem d__law_pairs {ds : List D} {S : Sto} {Q : DK} {R : RK} (qm : QMono Q) (rm : RMono R) (h : (sp__law_pairs.g S ds).wp S Q R) : u__law_pairs (dStart 4 ds) S (endF Q R) := by
  have hh := sp1_inv h
  clear h
  obtain ⟨z, rfl, hz, h⟩ := hh
  replace h : Q (.lst ((prs (bkW z)).map pD)) S := h
  obtain ⟨s, l, rfl, h1, h2, h3, h4, h5⟩ := isBk_inv hz
  rw [h5] at h
  have hd := bkL_digs h4
  have hlen := bk_len h4
  have a1 : atI [D.int s, .tup (l.map D.str)] (1 : Int) = some (.tup (l.map D.str)) := rfl
  show u__law_pairs [some (.tup [.int s, .tup (l.map D.str)]), none, none, none] S _
  simp only [u__law_pairs, sC, sIf, sRt, sAs, sX, sN, sRtN, sRs, sBk, sPar, sPar3, sSub, DEnds.seq, DEnds.loop, endF, dAnd, dOr, dNot, dT, dTr, tru, dB, dCh, dC, dIsi, tyD_non, tyD_bl, tyD_int, tyD_str, tyD_tup, tyD_lst, isTN, dAndV, dOrV, dNotV, dIfE, aN, aC, dTup, dLst, dLstM_eq, dCall, dCB, dU, dSl, slD, oN, oS, gN, gT, gsC, gsN, lAny, lRng1, lRng2, lZip, itemsOf, lstOf, seqOf, dLc, wipeD, bYes, dFor, dApp, dMs, dErr, opAdd, opSub, opMod, opDiv, opPow, opMul, opLt, opGt, opLe, opGe, opEq, opNe, opIn, opNi, opInB, opIs, opIsn, opIsB, isNon, opNeg, opIx, opAll, opSum, opMin, opMax, opInt, opLen, opTup, opList, opBool, opJoin, eqD_int, eqD_str, eqD_bl, eqD_non, eqD_tup, eqD_lst, eqD_tup0, eqD_lst0, der_int, der_str, der_bl, der_non, der_tup, der_lst, eqOk_int, eqOk_str, PR.wp, RS.wp, dV, List.getElem?_cons_zero, List.getElem?_cons_succ, List.getElem?_nil, List.set_cons_zero, List.set_cons_succ, List.length_cons, List.length_nil, Option.some.injEq, true_and, and_true, Bool.not_true, Bool.not_false, a1]
  refine ⟨by decide, fun b hb => ?_⟩
  have hp := prs_len h3
  refine for_inv (fun rest env S1 => ∃ (r : List (List Nat)) (done : List (List Nat × List Nat)) (x y : Option D), rest = r.map D.str ∧ (∀ w ∈ r, w ∈ l) ∧ S1 = put S b (.lst (done.map pD)) ∧ done ++ r.flatMap (fun a => pr1 a l) = prs l ∧ env = [some (.tup [.int s, .tup (l.map D.str)]), some (.obj b), x, y]) ?_ ?_ _ _ _ ⟨l, [], none, none, rfl, fun _ w => w, rfl, rfl, rfl⟩
  · rintro d rest env S1 ⟨r, done, x, y, er, hr, rfl, hdone, rfl⟩ K hK
    cases r with
    | nil => cases er
    | cons a r =>
      obtain ⟨rfl, rfl⟩ := List.cons.inj er
      have ha := hr a List.mem_cons_self
      rw [List.flatMap_cons] at hdone
      simp only [sC, sIf, sRt, sAs, sX, sN, sRtN, sRs, sBk, sPar, sPar3, sSub, DEnds.seq, DEnds.loop, endF, dAnd, dOr, dNot, dT, dTr, tru, dB, dCh, dC, dIsi, tyD_non, tyD_bl, tyD_int, tyD_str, tyD_tup, tyD_lst, isTN, dAndV, dOrV, dNotV, dIfE, aN, aC, dTup, dLst, dLstM_eq, dCall, dCB, dU, dSl, slD, oN, oS, gN, gT, gsC, gsN, lAny, lRng1, lRng2, lZip, itemsOf, lstOf, seqOf, dLc, wipeD, bYes, dFor, dApp, dMs, dErr, opAdd, opSub, opMod, opDiv, opPow, opMul, opLt, opGt, opLe, opGe, opEq, opNe, opIn, opNi, opInB, opIs, opIsn, opIsB, isNon, opNeg, opIx, opAll, opSum, opMin, opMax, opInt, opLen, opTup, opList, opBool, opJoin, eqD_int, eqD_str, eqD_bl, eqD_non, eqD_tup, eqD_lst, eqD_tup0, eqD_lst0, der_int, der_str, der_bl, der_non, der_tup, der_lst, eqOk_int, eqOk_str, PR.wp, RS.wp, dV, List.getElem?_cons_zero, List.getElem?_cons_succ, List.getElem?_nil, List.set_cons_zero, List.set_cons_succ, List.length_cons, List.length_nil, Option.some.injEq, true_and, and_true, Bool.not_true, Bool.not_false, a1]
      refine for_inv (fun rest2 env S2 => ∃ (r2 : List (List Nat)) (done2 : List (List Nat × List Nat)) (z : Option D), rest2 = r2.map D.str ∧ (∀ w ∈ r2, w ∈ l) ∧ S2 = put S b (.lst (done2.map pD)) ∧ done2 ++ (pr1 a r2 ++ r.flatMap (fun a => pr1 a l)) = prs l ∧ env = [some (.tup [.int s, .tup (l.map D.str)]), some (.obj b), some (.str a), z]) ?_ ?_ _ _ _ ⟨l, done, y, rfl, fun _ w => w, rfl, hdone, rfl⟩
      · rintro d2 rest2 env2 S2 ⟨r2, done2, z, er2, hr2, rfl, hd2, rfl⟩ K2 hK2
        cases r2 with
        | nil => cases er2
        | cons c r2 =>
          obtain ⟨rfl, rfl⟩ := List.cons.inj er2
          have hc := hr2 c List.mem_cons_self
          have hbl : put S b (.lst (done2.map pD)) b = some (.lst (done2.map pD)) := put_same
          have skip : prC (a, c) = false → K2 [some (.tup [.int s, .tup (l.map D.str)]), some (.obj b), some (.str a), some (.str c)] (put S b (.lst (done2.map pD))) := fun e => by
            refine hK2 _ _ ⟨r2, done2, some (.str c), rfl, fun w hw => hr2 w (List.mem_cons_of_mem _ hw), rfl, ?_, rfl⟩
            rw [show pr1 a (c :: r2) = pr1 a r2 from by unfold pr1; rw [List.map_cons, List.filter_cons_of_neg (by rw [e]; exact Bool.false_ne_true)]] at hd2
            exact hd2
          have ec : prC (a, c) = (!decide (a = c) && lawIn c a) := rfl
          simp only [sC, sIf, sRt, sAs, sX, sN, sRtN, sRs, sBk, sPar, sPar3, sSub, DEnds.seq, DEnds.loop, endF, dAnd, dOr, dNot, dT, dTr, tru, dB, dCh, dC, dIsi, tyD_non, tyD_bl, tyD_int, tyD_str, tyD_tup, tyD_lst, isTN, dAndV, dOrV, dNotV, dIfE, aN, aC, dTup, dLst, dLstM_eq, dCall, dCB, dU, dSl, slD, oN, oS, gN, gT, gsC, gsN, lAny, lRng1, lRng2, lZip, itemsOf, lstOf, seqOf, dLc, wipeD, bYes, dFor, dApp, dMs, dErr, opAdd, opSub, opMod, opDiv, opPow, opMul, opLt, opGt, opLe, opGe, opEq, opNe, opIn, opNi, opInB, opIs, opIsn, opIsB, isNon, opNeg, opIx, opAll, opSum, opMin, opMax, opInt, opLen, opTup, opList, opBool, opJoin, eqD_int, eqD_str, eqD_bl, eqD_non, eqD_tup, eqD_lst, eqD_tup0, eqD_lst0, der_int, der_str, der_bl, der_non, der_tup, der_lst, eqOk_int, eqOk_str, PR.wp, RS.wp, dV, List.getElem?_cons_zero, List.getElem?_cons_succ, List.getElem?_nil, List.set_cons_zero, List.set_cons_succ, List.length_cons, List.length_nil, Option.some.injEq, true_and, and_true, Bool.not_true, Bool.not_false, in_wp, loss_wp]
          cases b1 : decide (a = c) with
          | true => exact skip (by rw [ec, b1]; rfl)
          | false =>
            refine ⟨⟨hd c hc, hd a ha, by have := (hlen c hc).2; omega⟩, ?_⟩
            cases b2 : lawIn c a with
            | false => exact skip (by rw [ec, b1, b2]; rfl)
            | true =>
              have keep : done2.length < 1600 ∧ K2 [some (.tup [.int s, .tup (l.map D.str)]), some (.obj b), some (.str a), some (.str c)] (put (put S b (.lst (done2.map pD))) b (.lst (done2.map pD ++ [pD (a, c)]))) := by
                rw [show pr1 a (c :: r2) = (a, c) :: pr1 a r2 from by unfold pr1; rw [List.map_cons, List.filter_cons_of_pos (by rw [ec, b1, b2]; rfl)]] at hd2
                refine ⟨?_, hK2 _ _ ⟨r2, done2 ++ [(a, c)], some (.str c), rfl, fun w hw => hr2 w (List.mem_cons_of_mem _ hw), ?_, ?_, rfl⟩⟩
                · have := congrArg List.length hd2
                  simp only [List.length_append, List.length_cons] at this
                  omega
                · rw [put_put, List.map_append]; rfl
                · rw [List.append_assoc]; exact hd2
              refine ⟨⟨_, hbl⟩, ⟨hd a ha, hd c hc, by have := (hlen c hc).2; omega⟩, by decide, ?_⟩
              rw [hbl]
              have el : lawLoss a c = some (wt a - wt c) := by unfold lawLoss; rw [if_pos b2]
              rw [el]
              exact ⟨by rw [List.length_map]; omega, keep.2⟩
      · rintro env2 S2 ⟨r2, done2, z, er2, hr2, rfl, hd2, rfl⟩
        cases r2 with
        | cons _ _ => cases er2
        | nil => exact hK _ _ ⟨r, done2, some (.str a), z, rfl, fun w hw => hr w (List.mem_cons_of_mem _ hw), rfl, hd2, rfl⟩
  · rintro env S1 ⟨r, done, x, y, er, hr, rfl, hdone, rfl⟩
    cases r with
    | cons _ _ => cases er
    | nil =>
      rw [List.flatMap_nil, List.append_nil] at hdone
      subst hdone
      have hbl : put S b (.lst ((prs l).map pD)) b = some (.lst ((prs l).map pD)) := put_same
      have ho : opSorted (put S b (.lst ((prs l).map pD))) [.obj b] = .pre (alikeB ((prs l).map pD) = true ∧ sortB ((prs l).map pD) = true ∧ ((prs l).map pD).all (dok 60) = true) (.lst (sortD ((prs l).map pD))) := by
        show (match (match put S b (.lst ((prs l).map pD)) b with | some (.lst ds) => some ds | _ => none) with | some l => PR.pre (alikeB l = true ∧ sortB l = true ∧ l.all (dok 60) = true) (.lst (sortD l)) | none => .no) = _
        rw [hbl]
      simp only [DEnds.seq, sC, sIf, sRt, sAs, sX, sN, sRtN, sRs, sBk, sPar, sPar3, sSub, DEnds.seq, DEnds.loop, endF, dAnd, dOr, dNot, dT, dTr, tru, dB, dCh, dC, dIsi, tyD_non, tyD_bl, tyD_int, tyD_str, tyD_tup, tyD_lst, isTN, dAndV, dOrV, dNotV, dIfE, aN, aC, dTup, dLst, dLstM_eq, dCall, dCB, dU, dSl, slD, oN, oS, gN, gT, gsC, gsN, lAny, lRng1, lRng2, lZip, itemsOf, lstOf, seqOf, dLc, wipeD, bYes, dFor, dApp, dMs, dErr, opAdd, opSub, opMod, opDiv, opPow, opMul, opLt, opGt, opLe, opGe, opEq, opNe, opIn, opNi, opInB, opIs, opIsn, opIsB, isNon, opNeg, opIx, opAll, opSum, opMin, opMax, opInt, opLen, opTup, opList, opBool, opJoin, eqD_int, eqD_str, eqD_bl, eqD_non, eqD_tup, eqD_lst, eqD_tup0, eqD_lst0, der_int, der_str, der_bl, der_non, der_tup, der_lst, eqOk_int, eqOk_str, PR.wp, RS.wp, dV, List.getElem?_cons_zero, List.getElem?_cons_succ, List.getElem?_nil, List.set_cons_zero, List.set_cons_succ, List.length_cons, List.length_nil, Option.some.injEq, true_and, and_true, Bool.not_true, Bool.not_false, ho]
      refine ⟨⟨pr_alike _, pr_sortB _, pr_dok _⟩, ?_⟩
      rw [sort_prs (bk_asc h4)]
      exact qm _ _ _ (SLe.put hb) h
end DL

namespace DL
open PySem PySem.Spec PyProof.Rows L2
section
variable {S : Sto} {Q : DK} {R : RK} {a b : Addr}
theorem drum_wp {c t : Int} : (sp__law_drum.g S [.int c, .int t]).wp S Q R = ((0 ≤ t ∧ t ≤ 1000) ∧ ∀ a, S a = none → Q (.obj a) (put S a .drum)) := rfl
theorem book_wp {m c : Int} : (sp__law_book.g S [.obj a, .int m, .int c]).wp S Q R = ((S a = some .drum ∧ 0 ≤ m ∧ m ≤ 40 ∧ 1 ≤ c ∧ c ≤ 12) ∧ ∀ z, bookOk m c z → Q z S) := rfl
theorem pairs_wp {z : D} : (sp__law_pairs.g S [z]).wp S Q R = (isBk z = true ∧ Q (.lst ((prs (bkW z)).map pD)) S) := rfl
theorem sure_wp {z : D} (h : isBk z = true) : (sp_sure_steps.g S [z]).wp S Q R = (dok 60 z = true ∧ Q (optI (sureB (bkW z))) S) := by
  show (dok 60 z = true ∧ (if isBk z = true then RS.ret (optI (sureB (bkW z))) else .err ⟨4, none⟩).wp S Q R) = _
  rw [if_pos h]; rfl
theorem bad_wp {z m : D} (h : isBk z = true) (hm : okMost m = true) : (sp_bad_pair.g S [z, m]).wp S Q R = ((dok 60 z = true ∧ dok 60 m = true) ∧ Q (pairD (firstB (bkW z) (mostV m))) S) := by
  show ((dok 60 z = true ∧ dok 60 m = true) ∧ (if isBk z = true then (if okMost m = true then RS.ret (pairD (firstB (bkW z) (mostV m))) else .err ⟨3, none⟩) else .err ⟨4, none⟩).wp S Q R) = _
  rw [if_pos h, if_pos hm]; rfl
theorem shows_wp {z m : D} (h : isBk z = true) (hm : okMost m = true) : (sp_shows.g S [z, m]).wp S Q R = ((dok 60 z = true ∧ dok 60 m = true) ∧ Q (.bl (firstB (bkW z) (mostV m)).isNone) S) := by
  show ((dok 60 z = true ∧ dok 60 m = true) ∧ (if isBk z = true then (if okMost m = true then RS.ret (.bl (firstB (bkW z) (mostV m)).isNone) else .err ⟨3, none⟩) else .err ⟨4, none⟩).wp S Q R) = _
  rw [if_pos h, if_pos hm]; rfl
theorem fits_wp {i k : Option Int} : (sp__law_fits.g S [optI i, optI k]).wp S Q R = Q (.bl (fitsS i k)) S := by
  show (match optD (optI i), optD (optI k) with | some i, some k => RS.ret (.bl (fitsS i k)) | _, _ => .no).wp S Q R = _
  rw [optD_optI, optD_optI]; rfl
end
theorem bookOk_bk {m c : Int} {z : D} (hm : m ≤ 40) (h : bookOk m c z) : isBk z = true ∧ dok 60 z = true ∧ ∃ s, bkL s (bkW z) = true ∧ (bkW z).length ≤ 40 := by
  obtain ⟨s, l, rfl, h2, h4, hb, hl, hc⟩ := h
  have e : sts (l.map D.str) = some l := sts_of
  have hw : bkW (.tup [.int s, .tup (l.map D.str)]) = l := by show (sts (l.map D.str)).getD [] = l; rw [e]; rfl
  refine ⟨?_, ?_, s, by rw [hw]; exact hb, by rw [hw]; omega⟩
  · rw [isBk_tup e, hb, decide_eq_true h2, decide_eq_true h4, decide_eq_true (by rw [lens_lt]; omega)]; rfl
  · show (dok 59 (.int s) && dokL 59 [.tup (l.map D.str)]) = true
    show (true && (dokL 58 (l.map D.str) && true)) = true
    rw [dok_strs]; rfl
theorem lawIn_same {l : List (List Nat)} {s : Int} (h : bkL s l = true) {a b : List Nat} (ha : a ∈ l) (hb : b ∈ l) : lawIn b a = inW b a := by
  unfold lawIn
  have h1 := (bk_len h a ha).1
  have h2 := (bk_len h b hb).1
  rw [decide_eq_true (by rw [h1, h2])]; rfl
theorem prs_all (l : List (List Nat)) : prs l = (l.flatMap fun a => l.map fun b => (a, b)).filter prC := by
  unfold prs pr1
  rw [List.filter_flatMap]
theorem mem_all {l : List (List Nat)} {p : List Nat × List Nat} (h : p ∈ l.flatMap fun a => l.map fun b => (a, b)) : p.1 ∈ l ∧ p.2 ∈ l := by
  obtain ⟨a, ha, h⟩ := List.mem_flatMap.mp h
  obtain ⟨b, hb, rfl⟩ := List.mem_map.mp h
  exact ⟨ha, hb⟩
theorem lossesB_prs {l : List (List Nat)} {s : Int} (h : bkL s l = true) : lossesB l = (prs l).map fun p => wt p.1 - wt p.2 := by
  unfold lossesB
  rw [prs_all]
  have key : ∀ r : List (List Nat × List Nat), (∀ p ∈ r, p.1 ∈ l ∧ p.2 ∈ l) → (r.filter fun p => !decide (p.1 = p.2)).filterMap (fun p => lossW p.1 p.2) = (r.filter prC).map fun p => wt p.1 - wt p.2 := by
    intro r
    induction r with
    | nil => exact fun _ => rfl
    | cons p r ih =>
      intro hr
      have hp := hr p List.mem_cons_self
      have ih := ih fun q hq => hr q (List.mem_cons_of_mem _ hq)
      have e : prC p = (!decide (p.1 = p.2) && inW p.2 p.1) := by unfold prC; rw [lawIn_same h hp.1 hp.2]
      cases b1 : decide (p.1 = p.2) with
      | true =>
        rw [b1] at e
        rw [List.filter_cons_of_neg (by rw [b1]; exact Bool.false_ne_true), List.filter_cons_of_neg (by rw [e]; exact Bool.false_ne_true)]
        exact ih
      | false =>
        rw [b1] at e
        rw [List.filter_cons_of_pos (by rw [b1]; rfl), List.filterMap_cons]
        unfold lossW
        cases b2 : inW p.2 p.1 with
        | true =>
          rw [b2] at e
          rw [List.filter_cons_of_pos (by rw [e]; rfl), List.map_cons, if_pos rfl]
          dsimp only
          rw [← ih]; rfl
        | false =>
          rw [b2] at e
          rw [List.filter_cons_of_neg (by rw [e]; exact Bool.false_ne_true), if_neg Bool.false_ne_true]
          dsimp only
          rw [← ih]; rfl
  exact key _ fun p hp => mem_all hp
theorem firstB_prs {l : List (List Nat)} {s : Int} (h : bkL s l = true) (m : Option Int) : firstB l m = ((prs l).filter fun p => fitsS (some (wt p.1 - wt p.2)) m).head? := by
  unfold firstB
  rw [prs_all, List.filter_filter, ← List.head?_filter]
  congr 1
  refine List.filter_congr fun p hp => ?_
  have hp := mem_all hp
  unfold prC
  rw [lawIn_same h hp.1 hp.2]
  unfold lossW
  cases inW p.2 p.1 with
  | true => rw [if_pos rfl]; simp [Bool.and_comm]
  | false => rw [if_neg Bool.false_ne_true]; simp [fitsS]
theorem eqD_optI {i j : Option Int} : eqD (optI i) (optI j) = decide (i = j) := by
  cases i <;> cases j
  · rfl
  · rfl
  · rfl
  · show eqD (.int _) (.int _) = _
    rw [eqD_int]
    simp
theorem eqD_pair {p : Option (List Nat × List Nat)} : eqD (pairD p) (pairD p) = true := by
  cases p with
  | none => rfl
  | some p =>
    show (eqD (.str p.1) (.str p.1) && (eqD (.str p.2) (.str p.2) && true)) = true
    rw [eqD_str, eqD_str]; simp
theorem dok_pair {p : Option (List Nat × List Nat)} {S : Sto} {n : Nat} : dok (n + 1) (der S (pairD p)) = true := by cases p <;> rfl
theorem dok_optI {p : Option Int} {S : Sto} {n : Nat} : dok n (der S (optI p)) = true := by cases p <;> cases n <;> rfl
end DL

namespace DL
open PySem L2
/-! ### meeting, mending -/
def leastW (a b : List Nat) : List Nat := List.zipWith min a b
def sp_least_of : DSp := sp2 fun _ v u => match v, u with
  | .str a, .str b => .pre (a.length ≤ 1000) (.ret (.str (leastW a b)))
  | _, _ => .no
def sp_need_word : DSp := sp2 fun S st v => match st with
  | .int s => .pre (∃ n, tyD S v = some n) (if isWdD s v = true then .ret .non else .err ⟨2, none⟩)
  | _ => .no
def farW (a b : List Nat) : Int := (if wt b > wt a then wt b else wt a) - wt (leastW a b)
def sp_far_apart : DSp := sp2 fun _ v u => match v, u with
  | .str a, .str b => .pre (a.length ≤ 1000 ∧ digs a ∧ digs b) (.ret (.int (farW a b)))
  | _, _ => .no
def sendW (l : List (List Nat)) (w : List Nat) (m : Option Int) : List (List Nat) := l.filter fun a => fitsS (lossW a w) m
def sp_senders_of : DSp := sp3 fun _ v w m => match v, w, optD m with
  | .tup ws, .str w, some k => (match sts ws with | some l => .pre (l.length ≤ 1000 ∧ (∀ a ∈ l, digs a) ∧ digs w) (.ret (.lst ((sendW l w k).map D.str))) | none => .no)
  | _, _, _ => .no
/-- as long as the words of a book -/
def likeW (l : List (List Nat)) (w : D) : Bool := match l, w with
  | a :: _, .str x => decide (x.length = a.length)
  | [], _ => true
  | _, _ => false
def bkS (v : D) : Int := match v with
  | .tup [.int s, _] => s
  | _ => 0
def sp_need_seen : DSp := sp2 fun S b v => .pre (isBk b = true ∧ ∃ n, tyD S v = some n) (if isWdD (bkS b) v = true then (if likeW (bkW b) v = true then .ret .non else .err ⟨10, none⟩) else .err ⟨2, none⟩)
def farsB (l : List (List Nat)) : List Int := ((l.flatMap fun a => l.map fun b => (a, b)).filter fun p => ltL p.1 p.2).map fun p => farW p.1 p.2
def mendB (l : List (List Nat)) : Option Int := if farsB l = [] then none else some (mnL (farsB l) - 1)
def sp_mends : DSp := sp1 fun S v => .pre (dok 60 v = true) (if isBk v = true then .ret (optI (mendB (bkW v))) else .err ⟨4, none⟩)
def twC (m : Option Int) (p : List Nat × List Nat) : Bool := ltL p.1 p.2 && fitsS (some (farW p.1 p.2)) m
def twiceB (l : List (List Nat)) (m : Option Int) : Option (List Nat × List Nat) := (l.flatMap fun a => l.map fun b => (a, b)).find? (twC m)
def tripD : Option (List Nat × List Nat) → D
  | some p => .tup [.str (leastW p.1 p.2), .str p.1, .str p.2]
  | none => .non
def sp_twice : DSp := sp2 fun S v m => .pre (dok 60 v = true ∧ dok 60 m = true) (if isBk v = true then (if okMost m = true then .ret (tripD (twiceB (bkW v) (mostV m))) else .err ⟨3, none⟩) else .err ⟨4, none⟩)
def seenV (v : D) : List Nat := match v with
  | .str w => w
  | _ => []
def sp_senders : DSp := sp3 fun S b v m => .pre (dok 60 b = true ∧ dok 60 v = true ∧ dok 60 m = true) (if isBk b = true then (if isWdD (bkS b) v = true then (if okMost m = true then (if likeW (bkW b) v = true then .ret (.lst ((sendW (bkW b) (seenV v) (mostV m)).map D.str)) else .err ⟨10, none⟩) else .err ⟨3, none⟩) else .err ⟨2, none⟩) else .err ⟨4, none⟩)
def u_least_of : DS := sRt (dMs opJoin (dC (.str [])) (aC (dLc (lZip (aC (dV 0) (aC (dV 1) (aN)))) (gT 2 (gsC (gN 2) (gsC (gN 3) (gsN)))) (bYes) (dCB opMin (aC (dV 2) (aC (dV 3) (aN)))) [2, 3]) (aN)))
def u_need_word : DS := sIf (dNot (dTr (dCall sp_fits_word (aC (dV 0) (aC (dV 1) (aN)))))) (sRs 2) (sN)
def u_far_apart : DS := sC (sAs (dCall sp_weight_of (aC (dCall sp_least_of (aC (dV 0) (aC (dV 1) (aN)))) (aN))) (gN 2)) (sRt (dB opSub (dCB opMax (aC (dCall sp_weight_of (aC (dV 0) (aN))) (aC (dCall sp_weight_of (aC (dV 1) (aN))) (aN)))) (dV 2)))
def u_senders_of : DS := sRt (dLc (lAny (dV 0)) (gN 3) (dTr (dCall sp_fits_steps (aC (dCall sp_loss_of (aC (dV 3) (aC (dV 1) (aN)))) (aC (dV 2) (aN))))) (dV 3) [3])
def u_need_seen : DS := sC (sX (dCall sp_need_word (aC (dB opIx (dV 0) (dC (.int 0))) (aC (dV 1) (aN))))) (sIf (dAnd (dT (dB opNe (dB opIx (dV 0) (dC (.int 1))) (dTup (aN)))) (dT (dB opNe (dCB opLen (aC (dV 1) (aN))) (dCB opLen (aC (dB opIx (dB opIx (dV 0) (dC (.int 1))) (dC (.int 0))) (aN)))))) (sRs 10) (sN))
def u_mends : DS := sC (sX (dCall sp_need_book (aC (dV 0) (aN)))) (sC (sAs (dLc2 (lAny (dB opIx (dV 0) (dC (.int 1)))) (gN 2) (bYes) (lAny (dB opIx (dV 0) (dC (.int 1)))) (gN 3) (dT (dB opLt (dV 2) (dV 3))) (dCall sp_far_apart (aC (dV 2) (aC (dV 3) (aN)))) [2, 3] [3]) (gN 1)) (sRt (dIfE (dT (dB opNe (dV 1) (dLst (aN)))) (dB opSub (dCB opMin (aC (dV 1) (aN))) (dC (.int 1))) (dC .non))))
def u_twice : DS := sC (sX (dCall sp_need_book (aC (dV 0) (aN)))) (sC (sX (dCall sp_need_most (aC (dV 1) (aN)))) (sC (dFor (lAny (dB opIx (dV 0) (dC (.int 1)))) (gN 2) (dFor (lAny (dB opIx (dV 0) (dC (.int 1)))) (gN 3) (sIf (dAnd (dT (dB opLt (dV 2) (dV 3))) (dTr (dCall sp_fits_steps (aC (dCall sp_far_apart (aC (dV 2) (aC (dV 3) (aN)))) (aC (dV 1) (aN)))))) (sRt (dTup (aC (dCall sp_least_of (aC (dV 2) (aC (dV 3) (aN)))) (aC (dV 2) (aC (dV 3) (aN)))))) (sN)))) (sRt (dC .non))))
def u_senders : DS := sC (sX (dCall sp_need_book (aC (dV 0) (aN)))) (sC (sX (dCall sp_need_word (aC (dB opIx (dV 0) (dC (.int 0))) (aC (dV 1) (aN))))) (sC (sX (dCall sp_need_most (aC (dV 2) (aN)))) (sC (sX (dCall sp_need_seen (aC (dV 0) (aC (dV 1) (aN))))) (sRt (dCall sp_senders_of (aC (dB opIx (dV 0) (dC (.int 1))) (aC (dV 1) (aC (dV 2) (aN)))))))))
theorem ltL_two (x y : Nat) : ltL [y] [x] = decide (y < x) := by
  unfold ltL
  by_cases h : y < x
  · have : [y] < [x] := by simp [List.cons_lt_cons_iff]; omega
    simp [h, this]
  · have : ¬ ([y] < [x]) := by simp [List.cons_lt_cons_iff]; omega
    simp [h, this]
theorem min_one (x y : Nat) : (if ltL [y] [x] = true then [y] else [x]) = [min x y] := by
  rw [ltL_two]
  by_cases h : y < x
  · rw [decide_eq_true h, if_pos rfl, Nat.min_eq_right (Nat.le_of_lt h)]
  · rw [decide_eq_false h, if_neg Bool.false_ne_true, Nat.min_eq_left (Nat.le_of_not_lt h)]
theorem leastW_zip (a b : List Nat) : (List.zip a b).map (fun p : Nat × Nat => [min p.1 p.2]) = (leastW a b).map fun c => [c] := by
  unfold leastW
  rw [List.zip_eq_zipWith, List.map_zipWith, List.map_zipWith]
theorem leastW_len (a b : List Nat) : (leastW a b).length = min a.length b.length := by unfold leastW; exact List.length_zipWith
theorem d_least_of {ds : List D} {S : Sto} {Q : DK} {R : RK} (h : (sp_least_of.g S ds).wp S Q R) : u_least_of (dStart 4 ds) S (endF Q R) := by
  have hh := sp2_inv h
  clear h
  obtain ⟨v, u, rfl, h⟩ := hh
  cases v with
  | str a =>
    cases u with
    | str b =>
      obtain ⟨hl, h⟩ := h
      replace h : Q (.str (leastW a b)) S := h
      show u_least_of [some (.str a), some (.str b), none, none] S _
      simp only [u_least_of, sC, sIf, sRt, sAs, sX, sN, sRtN, sRs, sBk, sPar, sPar3, sSub, DEnds.seq, DEnds.loop, endF, dAnd, dOr, dNot, dT, dTr, tru, dB, dCh, dC, dIsi, tyD_non, tyD_bl, tyD_int, tyD_str, tyD_tup, tyD_lst, isTN, dAndV, dOrV, dNotV, dIfE, aN, aC, dTup, dLst, dLstM, dCall, dCB, dU, dSl, slD, oN, oS, gN, gT, gsC, gsN, lAny, lRng1, lRng2, lZip, itemsOf, lstOf, seqOf, dLc, wipeD, bYes, dFor, dApp, dMs, dErr, opAdd, opSub, opMod, opDiv, opPow, opMul, opLt, opGt, opLe, opGe, opEq, opNe, opIn, opNi, opInB, opIs, opIsn, opIsB, isNon, opNeg, opIx, opAll, opSum, opMin, opMax, opInt, opLen, opTup, opList, opBool, opJoin, eqD_int, eqD_str, eqD_bl, eqD_non, eqD_tup, eqD_lst, eqD_tup0, eqD_lst0, der_int, der_str, der_bl, der_non, der_tup, der_lst, eqOk_int, eqOk_str, PR.wp, RS.wp, sp0, sp1, sp2, sp3, sp4, dV, List.getElem?_cons_zero, List.getElem?_cons_succ, List.getElem?_nil, List.set_cons_zero, List.set_cons_succ, List.length_cons, List.length_nil, Option.some.injEq, true_and, and_true, Bool.not_true, Bool.not_false, zip_chars]
      refine lc_map (fun p : Nat × Nat => .tup [.str [p.1], .str [p.2]]) (fun p => .str [min p.1 p.2]) (List.zip a b) [] (fun x hx KN KY k => ?_) ?_
      · rw [← min_one] at k
        exact ⟨rfl, k⟩
      · rw [List.nil_append, sts_map, leastW_zip]
        refine ⟨?_, by rw [joinD_ones]; exact h⟩
        rw [ones_len, List.length_map, leastW_len]
        show min a.length b.length + min a.length b.length * 0 ≤ _
        have := Nat.min_le_left a.length b.length
        omega
    | _ => exact h.elim
  | _ => exact h.elim
theorem d_need_word {ds : List D} {S : Sto} {Q : DK} {R : RK} (h : (sp_need_word.g S ds).wp S Q R) : u_need_word (dStart 2 ds) S (endF Q R) := by
  obtain ⟨st, v, rfl, h⟩ := sp2_inv h
  cases st with
  | int s =>
    obtain ⟨hn, h⟩ := h
    have h : (if isWdD s v = true then RS.ret .non else .err ⟨2, none⟩).wp S Q R := h
    show u_need_word [some (.int s), some v] S _
    simp only [u_need_word, sC, sIf, sRt, sAs, sX, sN, sRtN, sRs, sBk, sPar, sPar3, sSub, DEnds.seq, DEnds.loop, endF, dAnd, dOr, dNot, dT, dTr, tru, dB, dCh, dC, dIsi, tyD_non, tyD_bl, tyD_int, tyD_str, tyD_tup, tyD_lst, isTN, dAndV, dOrV, dNotV, dIfE, aN, aC, dTup, dLst, dLstM, dCall, dCB, dU, dSl, slD, oN, oS, gN, gT, gsC, gsN, lAny, lRng1, lRng2, lZip, itemsOf, lstOf, seqOf, dLc, wipeD, bYes, dFor, dApp, dMs, dErr, opAdd, opSub, opMod, opDiv, opPow, opMul, opLt, opGt, opLe, opGe, opEq, opNe, opIn, opNi, opInB, opIs, opIsn, opIsB, isNon, opNeg, opIx, opAll, opSum, opMin, opMax, opInt, opLen, opTup, opList, opBool, opJoin, eqD_int, eqD_str, eqD_bl, eqD_non, eqD_tup, eqD_lst, eqD_tup0, eqD_lst0, der_int, der_str, der_bl, der_non, der_tup, der_lst, eqOk_int, eqOk_str, PR.wp, RS.wp, sp0, sp1, sp2, sp3, sp4, dV, List.getElem?_cons_zero, List.getElem?_cons_succ, List.getElem?_nil, List.set_cons_zero, List.set_cons_succ, List.length_cons, List.length_nil, Option.some.injEq, true_and, and_true, Bool.not_true, Bool.not_false, sp_fits_word]
    refine ⟨hn, ?_⟩
    cases e : isWdD s v with
    | true => rw [e] at h; exact h
    | false => rw [e] at h; exact h
  | _ => exact h.elim
theorem least_digs {a b : List Nat} (ha : digs a) (hb : digs b) : digs (leastW a b) := fun c hc => by
  obtain ⟨i, hi⟩ := List.mem_iff_getElem?.mp hc
  unfold leastW at hi
  rw [List.getElem?_zipWith] at hi
  cases e1 : a[i]? with
  | none => rw [e1] at hi; cases hi
  | some x =>
    cases e2 : b[i]? with
    | none => rw [e1, e2] at hi; cases hi
    | some y =>
      rw [e1, e2] at hi
      cases hi
      have := ha x (List.mem_of_getElem? e1)
      have := hb y (List.mem_of_getElem? e2)
      omega
theorem d_far_apart {ds : List D} {S : Sto} {Q : DK} {R : RK} (h : (sp_far_apart.g S ds).wp S Q R) : u_far_apart (dStart 3 ds) S (endF Q R) := by
  obtain ⟨v, u, rfl, h⟩ := sp2_inv h
  cases v with
  | str a =>
    cases u with
    | str b =>
      obtain ⟨⟨hl, ha, hb⟩, h⟩ := h
      have h : Q (.int (farW a b)) S := h
      show u_far_apart [some (.str a), some (.str b), none] S _
      simp only [u_far_apart, sC, sIf, sRt, sAs, sX, sN, sRtN, sRs, sBk, sPar, sPar3, sSub, DEnds.seq, DEnds.loop, endF, dAnd, dOr, dNot, dT, dTr, tru, dB, dCh, dC, dIsi, tyD_non, tyD_bl, tyD_int, tyD_str, tyD_tup, tyD_lst, isTN, dAndV, dOrV, dNotV, dIfE, aN, aC, dTup, dLst, dLstM, dCall, dCB, dU, dSl, slD, oN, oS, gN, gT, gsC, gsN, lAny, lRng1, lRng2, lZip, itemsOf, lstOf, seqOf, dLc, wipeD, bYes, dFor, dApp, dMs, dErr, opAdd, opSub, opMod, opDiv, opPow, opMul, opLt, opGt, opLe, opGe, opEq, opNe, opIn, opNi, opInB, opIs, opIsn, opIsB, isNon, opNeg, opIx, opAll, opSum, opMin, opMax, opInt, opLen, opTup, opList, opBool, opJoin, eqD_int, eqD_str, eqD_bl, eqD_non, eqD_tup, eqD_lst, eqD_tup0, eqD_lst0, der_int, der_str, der_bl, der_non, der_tup, der_lst, eqOk_int, eqOk_str, PR.wp, RS.wp, sp0, sp1, sp2, sp3, sp4, dV, List.getElem?_cons_zero, List.getElem?_cons_succ, List.getElem?_nil, List.set_cons_zero, List.set_cons_succ, List.length_cons, List.length_nil, Option.some.injEq, true_and, and_true, Bool.not_true, Bool.not_false, sp_weight_of, sp_least_of]
      exact ⟨hl, least_digs ha hb, ha, hb, h⟩
    | _ => exact h.elim
  | _ => exact h.elim
theorem d_senders_of {ds : List D} {S : Sto} {Q : DK} {R : RK} (h : (sp_senders_of.g S ds).wp S Q R) : u_senders_of (dStart 4 ds) S (endF Q R) := by
  have hh := sp3_inv h
  clear h
  obtain ⟨v, w, m, rfl, h⟩ := hh
  cases v with
  | tup ws =>
    cases w with
    | str w =>
      cases e : optD m with
      | none => rw [e] at h; exact h.elim
      | some k =>
        rw [e] at h
        replace h : (match sts ws with | some l => RS.pre (l.length ≤ 1000 ∧ (∀ a ∈ l, digs a) ∧ digs w) (.ret (.lst ((sendW l w k).map D.str))) | none => .no).wp S Q R := h
        cases e2 : sts ws with
        | none => rw [e2] at h; exact h.elim
        | some l =>
          rw [e2] at h
          obtain ⟨⟨hl, ha, hw⟩, h⟩ := h
          have h : Q (.lst ((sendW l w k).map D.str)) S := h
          have e3 := optD_V e
          subst e3
          have e4 := sts_eq e2
          subst e4
          show u_senders_of [some (.tup (l.map D.str)), some (.str w), some (optI k), none] S _
          simp only [u_senders_of, sC, sIf, sRt, sAs, sX, sN, sRtN, sRs, sBk, sPar, sPar3, sSub, DEnds.seq, DEnds.loop, endF, dAnd, dOr, dNot, dT, dTr, tru, dB, dCh, dC, dIsi, tyD_non, tyD_bl, tyD_int, tyD_str, tyD_tup, tyD_lst, isTN, dAndV, dOrV, dNotV, dIfE, aN, aC, dTup, dLst, dLstM, dCall, dCB, dU, dSl, slD, oN, oS, gN, gT, gsC, gsN, lAny, lRng1, lRng2, lZip, itemsOf, lstOf, seqOf, dLc, wipeD, bYes, dFor, dApp, dMs, dErr, opAdd, opSub, opMod, opDiv, opPow, opMul, opLt, opGt, opLe, opGe, opEq, opNe, opIn, opNi, opInB, opIs, opIsn, opIsB, isNon, opNeg, opIx, opAll, opSum, opMin, opMax, opInt, opLen, opTup, opList, opBool, opJoin, eqD_int, eqD_str, eqD_bl, eqD_non, eqD_tup, eqD_lst, eqD_tup0, eqD_lst0, der_int, der_str, der_bl, der_non, der_tup, der_lst, eqOk_int, eqOk_str, PR.wp, RS.wp, sp0, sp1, sp2, sp3, sp4, dV, List.getElem?_cons_zero, List.getElem?_cons_succ, List.getElem?_nil, List.set_cons_zero, List.set_cons_succ, List.length_cons, List.length_nil, Option.some.injEq, true_and, and_true, Bool.not_true, Bool.not_false]
          refine lc_mf D.str (fun a => fitsS (lossW a w) k) D.str l [] (fun x hx KN KY q => ?_) (by rw [List.nil_append]; exact h)
          simp only [lcStep, sC, sIf, sRt, sAs, sX, sN, sRtN, sRs, sBk, sPar, sPar3, sSub, DEnds.seq, DEnds.loop, endF, dAnd, dOr, dNot, dT, dTr, tru, dB, dCh, dC, dIsi, tyD_non, tyD_bl, tyD_int, tyD_str, tyD_tup, tyD_lst, isTN, dAndV, dOrV, dNotV, dIfE, aN, aC, dTup, dLst, dLstM, dCall, dCB, dU, dSl, slD, oN, oS, gN, gT, gsC, gsN, lAny, lRng1, lRng2, lZip, itemsOf, lstOf, seqOf, dLc, wipeD, bYes, dFor, dApp, dMs, dErr, opAdd, opSub, opMod, opDiv, opPow, opMul, opLt, opGt, opLe, opGe, opEq, opNe, opIn, opNi, opInB, opIs, opIsn, opIsB, isNon, opNeg, opIx, opAll, opSum, opMin, opMax, opInt, opLen, opTup, opList, opBool, opJoin, eqD_int, eqD_str, eqD_bl, eqD_non, eqD_tup, eqD_lst, eqD_tup0, eqD_lst0, der_int, der_str, der_bl, der_non, der_tup, der_lst, eqOk_int, eqOk_str, PR.wp, RS.wp, sp0, sp1, sp2, sp3, sp4, dV, List.getElem?_cons_zero, List.getElem?_cons_succ, List.getElem?_nil, List.set_cons_zero, List.set_cons_succ, List.length_cons, List.length_nil, Option.some.injEq, true_and, and_true, Bool.not_true, Bool.not_false, sp_loss_of, sp_fits_steps, optD_optI]
          refine ⟨⟨ha x hx, hw⟩, ?_⟩
          cases b : fitsS (lossW x w) k with
          | true => rw [b] at q; exact q
          | false => rw [b] at q; exact q
    | _ => exact h.elim
  | _ => exact h.elim
theorem bk_hd {s : Int} {l : List (List Nat)} : atI [D.int s, .tup (l.map D.str)] (0 : Int) = some (.int s) := rfl
theorem bk_tl {s : Int} {l : List (List Nat)} : atI [D.int s, .tup (l.map D.str)] (1 : Int) = some (.tup (l.map D.str)) := rfl
theorem d_need_seen {ds : List D} {S : Sto} {Q : DK} {R : RK} (h : (sp_need_seen.g S ds).wp S Q R) : u_need_seen (dStart 2 ds) S (endF Q R) := by
  obtain ⟨b, v, rfl, ⟨hb, hn⟩, h⟩ := sp2_inv h
  have h : (if isWdD (bkS b) v = true then (if likeW (bkW b) v = true then RS.ret .non else .err ⟨10, none⟩) else .err ⟨2, none⟩).wp S Q R := h
  obtain ⟨s, l, rfl, h1, h2, h3, h4, h5⟩ := isBk_inv hb
  rw [h5] at h
  have h : (if isWdD s v = true then (if likeW l v = true then RS.ret .non else .err ⟨10, none⟩) else .err ⟨2, none⟩).wp S Q R := h
  show u_need_seen [some (.tup [.int s, .tup (l.map D.str)]), some v] S _
  simp only [u_need_seen, sC, sIf, sRt, sAs, sX, sN, sRtN, sRs, sBk, sPar, sPar3, sSub, DEnds.seq, DEnds.loop, endF, dAnd, dOr, dNot, dT, dTr, tru, dB, dCh, dC, dIsi, tyD_non, tyD_bl, tyD_int, tyD_str, tyD_tup, tyD_lst, isTN, dAndV, dOrV, dNotV, dIfE, aN, aC, dTup, dLst, dLstM, dCall, dCB, dU, dSl, slD, oN, oS, gN, gT, gsC, gsN, lAny, lRng1, lRng2, lZip, itemsOf, lstOf, seqOf, dLc, wipeD, bYes, dFor, dApp, dMs, dErr, opAdd, opSub, opMod, opDiv, opPow, opMul, opLt, opGt, opLe, opGe, opEq, opNe, opIn, opNi, opInB, opIs, opIsn, opIsB, isNon, opNeg, opIx, opAll, opSum, opMin, opMax, opInt, opLen, opTup, opList, opBool, opJoin, eqD_int, eqD_str, eqD_bl, eqD_non, eqD_tup, eqD_lst, eqD_tup0, eqD_lst0, der_int, der_str, der_bl, der_non, der_tup, der_lst, eqOk_int, eqOk_str, PR.wp, RS.wp, sp0, sp1, sp2, sp3, sp4, dV, List.getElem?_cons_zero, List.getElem?_cons_succ, List.getElem?_nil, List.set_cons_zero, List.set_cons_succ, List.length_cons, List.length_nil, Option.some.injEq, true_and, and_true, Bool.not_true, Bool.not_false, bk_hd, bk_tl, sp_need_word]
  refine ⟨hn, ?_⟩
  cases e : isWdD s v with
  | false => rw [e] at h; exact h
  | true =>
    rw [e, if_pos rfl] at h
    cases v with
    | str x =>
      have t0 : eqOk S (.tup (l.map D.str)) (.tup []) = true := by
        show (dokL 59 (l.map D.str) && true) = true
        rw [dok_strs]; rfl
      simp only [if_true, sC, sIf, sRt, sAs, sX, sN, sRtN, sRs, sBk, sPar, sPar3, sSub, DEnds.seq, DEnds.loop, endF, dAnd, dOr, dNot, dT, dTr, tru, dB, dCh, dC, dIsi, tyD_non, tyD_bl, tyD_int, tyD_str, tyD_tup, tyD_lst, isTN, dAndV, dOrV, dNotV, dIfE, aN, aC, dTup, dLst, dLstM, dCall, dCB, dU, dSl, slD, oN, oS, gN, gT, gsC, gsN, lAny, lRng1, lRng2, lZip, itemsOf, lstOf, seqOf, dLc, wipeD, bYes, dFor, dApp, dMs, dErr, opAdd, opSub, opMod, opDiv, opPow, opMul, opLt, opGt, opLe, opGe, opEq, opNe, opIn, opNi, opInB, opIs, opIsn, opIsB, isNon, opNeg, opIx, opAll, opSum, opMin, opMax, opInt, opLen, opTup, opList, opBool, opJoin, eqD_int, eqD_str, eqD_bl, eqD_non, eqD_tup, eqD_lst, eqD_tup0, eqD_lst0, der_int, der_str, der_bl, der_non, der_tup, der_lst, eqOk_int, eqOk_str, PR.wp, RS.wp, sp0, sp1, sp2, sp3, sp4, dV, List.getElem?_cons_zero, List.getElem?_cons_succ, List.getElem?_nil, List.set_cons_zero, List.set_cons_succ, List.length_cons, List.length_nil, Option.some.injEq, true_and, and_true, Bool.not_true, Bool.not_false]
      refine ⟨by decide, t0, ?_⟩
      cases l with
      | nil => exact h
      | cons a r =>
        have e1 : eqD (.tup ((a :: r).map D.str)) (.tup []) = false := rfl
        have e2 : atI ((a :: r).map D.str) (0 : Int) = some (.str a) := atI_nat (xs := (a :: r).map D.str) (i := 0) (by simp)
        simp only [e1, sC, sIf, sRt, sAs, sX, sN, sRtN, sRs, sBk, sPar, sPar3, sSub, DEnds.seq, DEnds.loop, endF, dAnd, dOr, dNot, dT, dTr, tru, dB, dCh, dC, dIsi, tyD_non, tyD_bl, tyD_int, tyD_str, tyD_tup, tyD_lst, isTN, dAndV, dOrV, dNotV, dIfE, aN, aC, dTup, dLst, dLstM, dCall, dCB, dU, dSl, slD, oN, oS, gN, gT, gsC, gsN, lAny, lRng1, lRng2, lZip, itemsOf, lstOf, seqOf, dLc, wipeD, bYes, dFor, dApp, dMs, dErr, opAdd, opSub, opMod, opDiv, opPow, opMul, opLt, opGt, opLe, opGe, opEq, opNe, opIn, opNi, opInB, opIs, opIsn, opIsB, isNon, opNeg, opIx, opAll, opSum, opMin, opMax, opInt, opLen, opTup, opList, opBool, opJoin, eqD_int, eqD_str, eqD_bl, eqD_non, eqD_tup, eqD_lst, eqD_tup0, eqD_lst0, der_int, der_str, der_bl, der_non, der_tup, der_lst, eqOk_int, eqOk_str, PR.wp, RS.wp, sp0, sp1, sp2, sp3, sp4, dV, List.getElem?_cons_zero, List.getElem?_cons_succ, List.getElem?_nil, List.set_cons_zero, List.set_cons_succ, List.length_cons, List.length_nil, Option.some.injEq, true_and, and_true, Bool.not_true, Bool.not_false, e2]
        have e3 : decide (((x.length : Nat) : Int) = (a.length : Nat)) = decide (x.length = a.length) := by congr 1; exact propext (by omega)
        rw [e3]
        have h : (if decide (x.length = a.length) = true then RS.ret .non else .err ⟨10, none⟩).wp S Q R := h
        cases b : decide (x.length = a.length) with
        | true => rw [b] at h; exact h
        | false => rw [b] at h; exact h
    | _ => cases e
theorem d_mends {ds : List D} {S : Sto} {Q : DK} {R : RK} (h : (sp_mends.g S ds).wp S Q R) : u_mends (dStart 4 ds) S (endF Q R) := by
  obtain ⟨v, rfl, hd, h⟩ := sp1_inv h
  have h : (if isBk v = true then RS.ret (optI (mendB (bkW v))) else .err ⟨4, none⟩).wp S Q R := h
  show u_mends [some v, none, none, none] S _
  simp only [u_mends, sC, sIf, sRt, sAs, sX, sN, sRtN, sRs, sBk, sPar, sPar3, sSub, DEnds.seq, DEnds.loop, endF, dAnd, dOr, dNot, dT, dTr, tru, dB, dCh, dC, dIsi, tyD_non, tyD_bl, tyD_int, tyD_str, tyD_tup, tyD_lst, isTN, dAndV, dOrV, dNotV, dIfE, aN, aC, dTup, dLst, dLstM, dCall, dCB, dU, dSl, slD, oN, oS, gN, gT, gsC, gsN, lAny, lRng1, lRng2, lZip, itemsOf, lstOf, seqOf, dLc, wipeD, bYes, dFor, dApp, dMs, dErr, opAdd, opSub, opMod, opDiv, opPow, opMul, opLt, opGt, opLe, opGe, opEq, opNe, opIn, opNi, opInB, opIs, opIsn, opIsB, isNon, opNeg, opIx, opAll, opSum, opMin, opMax, opInt, opLen, opTup, opList, opBool, opJoin, eqD_int, eqD_str, eqD_bl, eqD_non, eqD_tup, eqD_lst, eqD_tup0, eqD_lst0, der_int, der_str, der_bl, der_non, der_tup, der_lst, eqOk_int, eqOk_str, PR.wp, RS.wp, sp0, sp1, sp2, sp3, sp4, dV, List.getElem?_cons_zero, List.getElem?_cons_succ, List.getElem?_nil, List.set_cons_zero, List.set_cons_succ, List.length_cons, List.length_nil, Option.some.injEq, true_and, and_true, Bool.not_true, Bool.not_false, sp_need_book]
  refine ⟨hd, ?_⟩
  cases e : isBk v with
  | false => rw [e] at h; exact h
  | true =>
    rw [e, if_pos rfl] at h
    obtain ⟨s, l, rfl, h1, h2, h3, h4, h5⟩ := isBk_inv e
    rw [h5] at h
    have hg := bkL_digs h4
    have hb := bk_len h4
    simp only [sC, sIf, sRt, sAs, sX, sN, sRtN, sRs, sBk, sPar, sPar3, sSub, DEnds.seq, DEnds.loop, endF, dAnd, dOr, dNot, dT, dTr, tru, dB, dCh, dC, dIsi, tyD_non, tyD_bl, tyD_int, tyD_str, tyD_tup, tyD_lst, isTN, dAndV, dOrV, dNotV, dIfE, aN, aC, dTup, dLst, dLstM, dCall, dCB, dU, dSl, slD, oN, oS, gN, gT, gsC, gsN, lAny, lRng1, lRng2, lZip, itemsOf, lstOf, seqOf, dLc, wipeD, bYes, dFor, dApp, dMs, dErr, opAdd, opSub, opMod, opDiv, opPow, opMul, opLt, opGt, opLe, opGe, opEq, opNe, opIn, opNi, opInB, opIs, opIsn, opIsB, isNon, opNeg, opIx, opAll, opSum, opMin, opMax, opInt, opLen, opTup, opList, opBool, opJoin, eqD_int, eqD_str, eqD_bl, eqD_non, eqD_tup, eqD_lst, eqD_tup0, eqD_lst0, der_int, der_str, der_bl, der_non, der_tup, der_lst, eqOk_int, eqOk_str, PR.wp, RS.wp, sp0, sp1, sp2, sp3, sp4, dV, List.getElem?_cons_zero, List.getElem?_cons_succ, List.getElem?_nil, List.set_cons_zero, List.set_cons_succ, List.length_cons, List.length_nil, Option.some.injEq, true_and, and_true, Bool.not_true, Bool.not_false, dLc2, bk_tl]
    refine ⟨by rw [lens_lt]; omega, lc2_mf D.str (fun _ => l) D.str (fun a b => ltL a b) (fun a b => .int (farW a b)) l [] (fun a ha => ⟨_, fun K k => k, fun K k => k, fun K k => ?_, by omega, fun b hb' KN KY k => ?_⟩) ?_⟩
    · simp only [sC, sIf, sRt, sAs, sX, sN, sRtN, sRs, sBk, sPar, sPar3, sSub, DEnds.seq, DEnds.loop, endF, dAnd, dOr, dNot, dT, dTr, tru, dB, dCh, dC, dIsi, tyD_non, tyD_bl, tyD_int, tyD_str, tyD_tup, tyD_lst, isTN, dAndV, dOrV, dNotV, dIfE, aN, aC, dTup, dLst, dLstM, dCall, dCB, dU, dSl, slD, oN, oS, gN, gT, gsC, gsN, lAny, lRng1, lRng2, lZip, itemsOf, lstOf, seqOf, dLc, wipeD, bYes, dFor, dApp, dMs, dErr, opAdd, opSub, opMod, opDiv, opPow, opMul, opLt, opGt, opLe, opGe, opEq, opNe, opIn, opNi, opInB, opIs, opIsn, opIsB, isNon, opNeg, opIx, opAll, opSum, opMin, opMax, opInt, opLen, opTup, opList, opBool, opJoin, eqD_int, eqD_str, eqD_bl, eqD_non, eqD_tup, eqD_lst, eqD_tup0, eqD_lst0, der_int, der_str, der_bl, der_non, der_tup, der_lst, eqOk_int, eqOk_str, PR.wp, RS.wp, sp0, sp1, sp2, sp3, sp4, dV, List.getElem?_cons_zero, List.getElem?_cons_succ, List.getElem?_nil, List.set_cons_zero, List.set_cons_succ, List.length_cons, List.length_nil, Option.some.injEq, true_and, and_true, Bool.not_true, Bool.not_false, bk_tl]
      exact k
    · simp only [lcStep, sC, sIf, sRt, sAs, sX, sN, sRtN, sRs, sBk, sPar, sPar3, sSub, DEnds.seq, DEnds.loop, endF, dAnd, dOr, dNot, dT, dTr, tru, dB, dCh, dC, dIsi, tyD_non, tyD_bl, tyD_int, tyD_str, tyD_tup, tyD_lst, isTN, dAndV, dOrV, dNotV, dIfE, aN, aC, dTup, dLst, dLstM, dCall, dCB, dU, dSl, slD, oN, oS, gN, gT, gsC, gsN, lAny, lRng1, lRng2, lZip, itemsOf, lstOf, seqOf, dLc, wipeD, bYes, dFor, dApp, dMs, dErr, opAdd, opSub, opMod, opDiv, opPow, opMul, opLt, opGt, opLe, opGe, opEq, opNe, opIn, opNi, opInB, opIs, opIsn, opIsB, isNon, opNeg, opIx, opAll, opSum, opMin, opMax, opInt, opLen, opTup, opList, opBool, opJoin, eqD_int, eqD_str, eqD_bl, eqD_non, eqD_tup, eqD_lst, eqD_tup0, eqD_lst0, der_int, der_str, der_bl, der_non, der_tup, der_lst, eqOk_int, eqOk_str, PR.wp, RS.wp, sp0, sp1, sp2, sp3, sp4, dV, List.getElem?_cons_zero, List.getElem?_cons_succ, List.getElem?_nil, List.set_cons_zero, List.set_cons_succ, List.length_cons, List.length_nil, Option.some.injEq, true_and, and_true, Bool.not_true, Bool.not_false, sp_far_apart]
      cases b1 : ltL a b with
      | false => rw [b1] at k; exact k
      | true => rw [b1] at k; exact ⟨⟨by have := (hb a ha).2; omega, hg a ha, hg b hb'⟩, k⟩
    · rw [List.nil_append]
      have em : (l.flatMap fun a => (l.filter fun b => ltL a b).map fun b => D.int (farW a b)) = (farsB l).map D.int := by
        unfold farsB
        rw [List.filter_flatMap, List.map_flatMap, List.map_flatMap]
        congr 1
        funext a
        rw [List.filter_map, List.map_map, List.map_map]
        rfl
      rw [em]
      have h : Q (optI (mendB l)) S := h
      unfold mendB at h
      have ok : eqOk S (.lst ((farsB l).map D.int)) (.lst []) = true := by
        show (dokL 59 ((farsB l).map D.int) && true) = true
        rw [Bool.and_true]
        exact dokL_of fun d hd => by obtain ⟨i, _, rfl⟩ := List.mem_map.mp hd; rfl
      cases e9 : farsB l with
      | nil =>
        rw [e9] at h
        exact ⟨Nat.zero_le _, rfl, h⟩
      | cons x r =>
        rw [e9] at h ok
        have e10 : eqD (.lst ((x :: r).map D.int)) (.lst []) = false := rfl
        rw [e10]
        refine ⟨Nat.zero_le _, ok, ?_⟩
        simp only [Bool.not_false]
        rw [nts_map' (x :: r)]
        exact ⟨by simp, h⟩
end DL

namespace DL
open PySem L2
def ffT (l : List (List Nat)) (m : Option Int) (r : List (List Nat)) : Option (List Nat × List Nat) := (r.flatMap fun a => l.map fun b => (a, b)).find? (twC m)
theorem ffT_cons {l : List (List Nat)} {m : Option Int} {a : List Nat} {r : List (List Nat)} : ffT l m (a :: r) = ((l.map fun b => (a, b)).find? (twC m)).or (ffT l m r) := by
  unfold ffT
  rw [List.flatMap_cons, List.find?_append]
theorem d_twice {ds : List D} {S : Sto} {Q : DK} {R : RK} (h : (sp_twice.g S ds).wp S Q R) : u_twice (dStart 4 ds) S (endF Q R) := by
  have hh := sp2_inv h
  clear h
  obtain ⟨v, m, rfl, ⟨hd, hm⟩, h⟩ := hh
  replace h : (if isBk v = true then (if okMost m = true then RS.ret (tripD (twiceB (bkW v) (mostV m))) else .err ⟨3, none⟩) else .err ⟨4, none⟩).wp S Q R := h
  show u_twice [some v, some m, none, none] S _
  simp only [u_twice, sC, sIf, sRt, sAs, sX, sN, sRtN, sRs, sBk, sPar, sPar3, sSub, DEnds.seq, DEnds.loop, endF, dAnd, dOr, dNot, dT, dTr, tru, dB, dCh, dC, dIsi, tyD_non, tyD_bl, tyD_int, tyD_str, tyD_tup, tyD_lst, isTN, dAndV, dOrV, dNotV, dIfE, aN, aC, dTup, dLst, dLstM, dCall, dCB, dU, dSl, slD, oN, oS, gN, gT, gsC, gsN, lAny, lRng1, lRng2, lZip, itemsOf, lstOf, seqOf, dLc, wipeD, bYes, dFor, dApp, dMs, dErr, opAdd, opSub, opMod, opDiv, opPow, opMul, opLt, opGt, opLe, opGe, opEq, opNe, opIn, opNi, opInB, opIs, opIsn, opIsB, isNon, opNeg, opIx, opAll, opSum, opMin, opMax, opInt, opLen, opTup, opList, opBool, opJoin, eqD_int, eqD_str, eqD_bl, eqD_non, eqD_tup, eqD_lst, eqD_tup0, eqD_lst0, der_int, der_str, der_bl, der_non, der_tup, der_lst, eqOk_int, eqOk_str, PR.wp, RS.wp, sp0, sp1, sp2, sp3, sp4, dV, List.getElem?_cons_zero, List.getElem?_cons_succ, List.getElem?_nil, List.set_cons_zero, List.set_cons_succ, List.length_cons, List.length_nil, Option.some.injEq, true_and, and_true, Bool.not_true, Bool.not_false, sp_need_book, sp_need_most]
  refine ⟨hd, ?_⟩
  cases e : isBk v with
  | false => rw [e] at h; exact h
  | true =>
    rw [e, if_pos rfl] at h
    refine ⟨ty_dok hm, ?_⟩
    cases e2 : okMost m with
    | false => rw [e2] at h; exact h
    | true =>
      rw [e2, if_pos rfl] at h
      obtain ⟨s, l, rfl, h1, h2, h3, h4, h5⟩ := isBk_inv e
      rw [h5] at h
      have em := optD_V (okMost_V e2)
      generalize mostV m = k at h em
      subst em
      have hg := bkL_digs h4
      have hb := bk_len h4
      replace h : Q (tripD (ffT l k l)) S := h
      simp only [sC, sIf, sRt, sAs, sX, sN, sRtN, sRs, sBk, sPar, sPar3, sSub, DEnds.seq, DEnds.loop, endF, dAnd, dOr, dNot, dT, dTr, tru, dB, dCh, dC, dIsi, tyD_non, tyD_bl, tyD_int, tyD_str, tyD_tup, tyD_lst, isTN, dAndV, dOrV, dNotV, dIfE, aN, aC, dTup, dLst, dLstM, dCall, dCB, dU, dSl, slD, oN, oS, gN, gT, gsC, gsN, lAny, lRng1, lRng2, lZip, itemsOf, lstOf, seqOf, dLc, wipeD, bYes, dFor, dApp, dMs, dErr, opAdd, opSub, opMod, opDiv, opPow, opMul, opLt, opGt, opLe, opGe, opEq, opNe, opIn, opNi, opInB, opIs, opIsn, opIsB, isNon, opNeg, opIx, opAll, opSum, opMin, opMax, opInt, opLen, opTup, opList, opBool, opJoin, eqD_int, eqD_str, eqD_bl, eqD_non, eqD_tup, eqD_lst, eqD_tup0, eqD_lst0, der_int, der_str, der_bl, der_non, der_tup, der_lst, eqOk_int, eqOk_str, PR.wp, RS.wp, sp0, sp1, sp2, sp3, sp4, dV, List.getElem?_cons_zero, List.getElem?_cons_succ, List.getElem?_nil, List.set_cons_zero, List.set_cons_succ, List.length_cons, List.length_nil, Option.some.injEq, true_and, and_true, Bool.not_true, Bool.not_false, bk_tl]
      refine for_scan D.str (fun r env S1 => S1 = S ∧ (∃ x y, env = [some (.tup [.int s, .tup (l.map D.str)]), some (optI k), x, y]) ∧ Q (tripD (ffT l k r)) S) ?_ ?_ ⟨rfl, ⟨_, _, rfl⟩, h⟩
      · rintro a r env S1 ha ⟨rfl, ⟨x, y, rfl⟩, hq⟩ K hK
        simp only [sC, sIf, sRt, sAs, sX, sN, sRtN, sRs, sBk, sPar, sPar3, sSub, DEnds.seq, DEnds.loop, endF, dAnd, dOr, dNot, dT, dTr, tru, dB, dCh, dC, dIsi, tyD_non, tyD_bl, tyD_int, tyD_str, tyD_tup, tyD_lst, isTN, dAndV, dOrV, dNotV, dIfE, aN, aC, dTup, dLst, dLstM, dCall, dCB, dU, dSl, slD, oN, oS, gN, gT, gsC, gsN, lAny, lRng1, lRng2, lZip, itemsOf, lstOf, seqOf, dLc, wipeD, bYes, dFor, dApp, dMs, dErr, opAdd, opSub, opMod, opDiv, opPow, opMul, opLt, opGt, opLe, opGe, opEq, opNe, opIn, opNi, opInB, opIs, opIsn, opIsB, isNon, opNeg, opIx, opAll, opSum, opMin, opMax, opInt, opLen, opTup, opList, opBool, opJoin, eqD_int, eqD_str, eqD_bl, eqD_non, eqD_tup, eqD_lst, eqD_tup0, eqD_lst0, der_int, der_str, der_bl, der_non, der_tup, der_lst, eqOk_int, eqOk_str, PR.wp, RS.wp, sp0, sp1, sp2, sp3, sp4, dV, List.getElem?_cons_zero, List.getElem?_cons_succ, List.getElem?_nil, List.set_cons_zero, List.set_cons_succ, List.length_cons, List.length_nil, Option.some.injEq, true_and, and_true, Bool.not_true, Bool.not_false, bk_tl]
        rw [ffT_cons] at hq
        refine for_scan D.str (fun r2 env S2 => S2 = S1 ∧ (∃ z, env = [some (.tup [.int s, .tup (l.map D.str)]), some (optI k), some (.str a), z]) ∧ Q (tripD (((r2.map fun b => (a, b)).find? (twC k)).or (ffT l k r))) S1) ?_ ?_ ⟨rfl, ⟨_, rfl⟩, hq⟩
        · rintro b r2 env S2 hb' ⟨rfl, ⟨z, rfl⟩, hq⟩ K2 hK2
          rw [List.map_cons, List.find?_cons] at hq
          simp only [sC, sIf, sRt, sAs, sX, sN, sRtN, sRs, sBk, sPar, sPar3, sSub, DEnds.seq, DEnds.loop, endF, dAnd, dOr, dNot, dT, dTr, tru, dB, dCh, dC, dIsi, tyD_non, tyD_bl, tyD_int, tyD_str, tyD_tup, tyD_lst, isTN, dAndV, dOrV, dNotV, dIfE, aN, aC, dTup, dLst, dLstM, dCall, dCB, dU, dSl, slD, oN, oS, gN, gT, gsC, gsN, lAny, lRng1, lRng2, lZip, itemsOf, lstOf, seqOf, dLc, wipeD, bYes, dFor, dApp, dMs, dErr, opAdd, opSub, opMod, opDiv, opPow, opMul, opLt, opGt, opLe, opGe, opEq, opNe, opIn, opNi, opInB, opIs, opIsn, opIsB, isNon, opNeg, opIx, opAll, opSum, opMin, opMax, opInt, opLen, opTup, opList, opBool, opJoin, eqD_int, eqD_str, eqD_bl, eqD_non, eqD_tup, eqD_lst, eqD_tup0, eqD_lst0, der_int, der_str, der_bl, der_non, der_tup, der_lst, eqOk_int, eqOk_str, PR.wp, RS.wp, sp0, sp1, sp2, sp3, sp4, dV, List.getElem?_cons_zero, List.getElem?_cons_succ, List.getElem?_nil, List.set_cons_zero, List.set_cons_succ, List.length_cons, List.length_nil, Option.some.injEq, true_and, and_true, Bool.not_true, Bool.not_false, sp_far_apart, sp_fits_steps, sp_least_of]
          have eb : twC k (a, b) = (ltL a b && fitsS (some (farW a b)) k) := rfl
          rw [eb] at hq
          have o1 : optD (D.int (farW a b)) = some (some (farW a b)) := rfl
          cases b1 : ltL a b with
          | false => rw [b1] at hq; exact hK2 _ _ ⟨rfl, ⟨_, rfl⟩, hq⟩
          | true =>
            rw [b1] at hq
            refine ⟨⟨by have := (hb a ha).2; omega, hg a ha, hg b hb'⟩, ?_⟩
            rw [o1, optD_optI]
            simp only [sC, sIf, sRt, sAs, sX, sN, sRtN, sRs, sBk, sPar, sPar3, sSub, DEnds.seq, DEnds.loop, endF, dAnd, dOr, dNot, dT, dTr, tru, dB, dCh, dC, dIsi, tyD_non, tyD_bl, tyD_int, tyD_str, tyD_tup, tyD_lst, isTN, dAndV, dOrV, dNotV, dIfE, aN, aC, dTup, dLst, dLstM, dCall, dCB, dU, dSl, slD, oN, oS, gN, gT, gsC, gsN, lAny, lRng1, lRng2, lZip, itemsOf, lstOf, seqOf, dLc, wipeD, bYes, dFor, dApp, dMs, dErr, opAdd, opSub, opMod, opDiv, opPow, opMul, opLt, opGt, opLe, opGe, opEq, opNe, opIn, opNi, opInB, opIs, opIsn, opIsB, isNon, opNeg, opIx, opAll, opSum, opMin, opMax, opInt, opLen, opTup, opList, opBool, opJoin, eqD_int, eqD_str, eqD_bl, eqD_non, eqD_tup, eqD_lst, eqD_tup0, eqD_lst0, der_int, der_str, der_bl, der_non, der_tup, der_lst, eqOk_int, eqOk_str, PR.wp, RS.wp, sp0, sp1, sp2, sp3, sp4, dV, List.getElem?_cons_zero, List.getElem?_cons_succ, List.getElem?_nil, List.set_cons_zero, List.set_cons_succ, List.length_cons, List.length_nil, Option.some.injEq, true_and, and_true, Bool.not_true, Bool.not_false]
            cases b2 : fitsS (some (farW a b)) k with
            | false => rw [b2] at hq; exact hK2 _ _ ⟨rfl, ⟨_, rfl⟩, hq⟩
            | true => rw [b2] at hq; exact ⟨by have := (hb a ha).2; omega, by decide, hq⟩
        · rintro env S2 ⟨rfl, ⟨z, rfl⟩, hq⟩
          exact hK _ _ ⟨rfl, ⟨_, _, rfl⟩, hq⟩
      · rintro env S1 ⟨rfl, ⟨x, y, rfl⟩, hq⟩
        exact hq
theorem d_senders {ds : List D} {S : Sto} {Q : DK} {R : RK} (h : (sp_senders.g S ds).wp S Q R) : u_senders (dStart 3 ds) S (endF Q R) := by
  have hh := sp3_inv h
  clear h
  obtain ⟨b, v, m, rfl, ⟨hd, hv, hm⟩, h⟩ := hh
  replace h : (if isBk b = true then (if isWdD (bkS b) v = true then (if okMost m = true then (if likeW (bkW b) v = true then RS.ret (.lst ((sendW (bkW b) (seenV v) (mostV m)).map D.str)) else .err ⟨10, none⟩) else .err ⟨3, none⟩) else .err ⟨2, none⟩) else .err ⟨4, none⟩).wp S Q R := h
  show u_senders [some b, some v, some m] S _
  simp only [u_senders, sC, sIf, sRt, sAs, sX, sN, sRtN, sRs, sBk, sPar, sPar3, sSub, DEnds.seq, DEnds.loop, endF, dAnd, dOr, dNot, dT, dTr, tru, dB, dCh, dC, dIsi, tyD_non, tyD_bl, tyD_int, tyD_str, tyD_tup, tyD_lst, isTN, dAndV, dOrV, dNotV, dIfE, aN, aC, dTup, dLst, dLstM, dCall, dCB, dU, dSl, slD, oN, oS, gN, gT, gsC, gsN, lAny, lRng1, lRng2, lZip, itemsOf, lstOf, seqOf, dLc, wipeD, bYes, dFor, dApp, dMs, dErr, opAdd, opSub, opMod, opDiv, opPow, opMul, opLt, opGt, opLe, opGe, opEq, opNe, opIn, opNi, opInB, opIs, opIsn, opIsB, isNon, opNeg, opIx, opAll, opSum, opMin, opMax, opInt, opLen, opTup, opList, opBool, opJoin, eqD_int, eqD_str, eqD_bl, eqD_non, eqD_tup, eqD_lst, eqD_tup0, eqD_lst0, der_int, der_str, der_bl, der_non, der_tup, der_lst, eqOk_int, eqOk_str, PR.wp, RS.wp, sp0, sp1, sp2, sp3, sp4, dV, List.getElem?_cons_zero, List.getElem?_cons_succ, List.getElem?_nil, List.set_cons_zero, List.set_cons_succ, List.length_cons, List.length_nil, Option.some.injEq, true_and, and_true, Bool.not_true, Bool.not_false, sp_need_book]
  refine ⟨hd, ?_⟩
  cases e : isBk b with
  | false => rw [e] at h; exact h
  | true =>
    rw [e, if_pos rfl] at h
    obtain ⟨s, l, rfl, h1, h2, h3, h4, h5⟩ := isBk_inv e
    have hs : bkS (.tup [.int s, .tup (l.map D.str)]) = s := rfl
    rw [h5, hs] at h
    simp only [if_true, sC, sIf, sRt, sAs, sX, sN, sRtN, sRs, sBk, sPar, sPar3, sSub, DEnds.seq, DEnds.loop, endF, dAnd, dOr, dNot, dT, dTr, tru, dB, dCh, dC, dIsi, tyD_non, tyD_bl, tyD_int, tyD_str, tyD_tup, tyD_lst, isTN, dAndV, dOrV, dNotV, dIfE, aN, aC, dTup, dLst, dLstM, dCall, dCB, dU, dSl, slD, oN, oS, gN, gT, gsC, gsN, lAny, lRng1, lRng2, lZip, itemsOf, lstOf, seqOf, dLc, wipeD, bYes, dFor, dApp, dMs, dErr, opAdd, opSub, opMod, opDiv, opPow, opMul, opLt, opGt, opLe, opGe, opEq, opNe, opIn, opNi, opInB, opIs, opIsn, opIsB, isNon, opNeg, opIx, opAll, opSum, opMin, opMax, opInt, opLen, opTup, opList, opBool, opJoin, eqD_int, eqD_str, eqD_bl, eqD_non, eqD_tup, eqD_lst, eqD_tup0, eqD_lst0, der_int, der_str, der_bl, der_non, der_tup, der_lst, eqOk_int, eqOk_str, PR.wp, RS.wp, sp0, sp1, sp2, sp3, sp4, dV, List.getElem?_cons_zero, List.getElem?_cons_succ, List.getElem?_nil, List.set_cons_zero, List.set_cons_succ, List.length_cons, List.length_nil, Option.some.injEq, true_and, and_true, Bool.not_true, Bool.not_false, bk_hd, bk_tl, sp_need_word]
    refine ⟨ty_dok hv, ?_⟩
    cases e1 : isWdD s v with
    | false => rw [e1] at h; exact h
    | true =>
      rw [e1, if_pos rfl] at h
      simp only [if_true, sC, sIf, sRt, sAs, sX, sN, sRtN, sRs, sBk, sPar, sPar3, sSub, DEnds.seq, DEnds.loop, endF, dAnd, dOr, dNot, dT, dTr, tru, dB, dCh, dC, dIsi, tyD_non, tyD_bl, tyD_int, tyD_str, tyD_tup, tyD_lst, isTN, dAndV, dOrV, dNotV, dIfE, aN, aC, dTup, dLst, dLstM, dCall, dCB, dU, dSl, slD, oN, oS, gN, gT, gsC, gsN, lAny, lRng1, lRng2, lZip, itemsOf, lstOf, seqOf, dLc, wipeD, bYes, dFor, dApp, dMs, dErr, opAdd, opSub, opMod, opDiv, opPow, opMul, opLt, opGt, opLe, opGe, opEq, opNe, opIn, opNi, opInB, opIs, opIsn, opIsB, isNon, opNeg, opIx, opAll, opSum, opMin, opMax, opInt, opLen, opTup, opList, opBool, opJoin, eqD_int, eqD_str, eqD_bl, eqD_non, eqD_tup, eqD_lst, eqD_tup0, eqD_lst0, der_int, der_str, der_bl, der_non, der_tup, der_lst, eqOk_int, eqOk_str, PR.wp, RS.wp, sp0, sp1, sp2, sp3, sp4, dV, List.getElem?_cons_zero, List.getElem?_cons_succ, List.getElem?_nil, List.set_cons_zero, List.set_cons_succ, List.length_cons, List.length_nil, Option.some.injEq, true_and, and_true, Bool.not_true, Bool.not_false, sp_need_most]
      refine ⟨ty_dok hm, ?_⟩
      cases e2 : okMost m with
      | false => rw [e2] at h; exact h
      | true =>
        rw [e2, if_pos rfl] at h
        simp only [if_true, sC, sIf, sRt, sAs, sX, sN, sRtN, sRs, sBk, sPar, sPar3, sSub, DEnds.seq, DEnds.loop, endF, dAnd, dOr, dNot, dT, dTr, tru, dB, dCh, dC, dIsi, tyD_non, tyD_bl, tyD_int, tyD_str, tyD_tup, tyD_lst, isTN, dAndV, dOrV, dNotV, dIfE, aN, aC, dTup, dLst, dLstM, dCall, dCB, dU, dSl, slD, oN, oS, gN, gT, gsC, gsN, lAny, lRng1, lRng2, lZip, itemsOf, lstOf, seqOf, dLc, wipeD, bYes, dFor, dApp, dMs, dErr, opAdd, opSub, opMod, opDiv, opPow, opMul, opLt, opGt, opLe, opGe, opEq, opNe, opIn, opNi, opInB, opIs, opIsn, opIsB, isNon, opNeg, opIx, opAll, opSum, opMin, opMax, opInt, opLen, opTup, opList, opBool, opJoin, eqD_int, eqD_str, eqD_bl, eqD_non, eqD_tup, eqD_lst, eqD_tup0, eqD_lst0, der_int, der_str, der_bl, der_non, der_tup, der_lst, eqOk_int, eqOk_str, PR.wp, RS.wp, sp0, sp1, sp2, sp3, sp4, dV, List.getElem?_cons_zero, List.getElem?_cons_succ, List.getElem?_nil, List.set_cons_zero, List.set_cons_succ, List.length_cons, List.length_nil, Option.some.injEq, true_and, and_true, Bool.not_true, Bool.not_false, sp_need_seen, h5, hs, e1]
        refine ⟨⟨e, ty_dok hv⟩, ?_⟩
        cases e3 : likeW l v with
        | false => rw [e3] at h; exact h
        | true =>
          rw [e3, if_pos rfl] at h
          cases v with
          | str w =>
            simp only [if_true, sC, sIf, sRt, sAs, sX, sN, sRtN, sRs, sBk, sPar, sPar3, sSub, DEnds.seq, DEnds.loop, endF, dAnd, dOr, dNot, dT, dTr, tru, dB, dCh, dC, dIsi, tyD_non, tyD_bl, tyD_int, tyD_str, tyD_tup, tyD_lst, isTN, dAndV, dOrV, dNotV, dIfE, aN, aC, dTup, dLst, dLstM, dCall, dCB, dU, dSl, slD, oN, oS, gN, gT, gsC, gsN, lAny, lRng1, lRng2, lZip, itemsOf, lstOf, seqOf, dLc, wipeD, bYes, dFor, dApp, dMs, dErr, opAdd, opSub, opMod, opDiv, opPow, opMul, opLt, opGt, opLe, opGe, opEq, opNe, opIn, opNi, opInB, opIs, opIsn, opIsB, isNon, opNeg, opIx, opAll, opSum, opMin, opMax, opInt, opLen, opTup, opList, opBool, opJoin, eqD_int, eqD_str, eqD_bl, eqD_non, eqD_tup, eqD_lst, eqD_tup0, eqD_lst0, der_int, der_str, der_bl, der_non, der_tup, der_lst, eqOk_int, eqOk_str, PR.wp, RS.wp, sp0, sp1, sp2, sp3, sp4, dV, List.getElem?_cons_zero, List.getElem?_cons_succ, List.getElem?_nil, List.set_cons_zero, List.set_cons_succ, List.length_cons, List.length_nil, Option.some.injEq, true_and, and_true, Bool.not_true, Bool.not_false, bk_tl, sp_senders_of, okMost_V e2, sts_of]
            exact ⟨⟨by omega, bkL_digs h4, isWd_digs e1⟩, h⟩
          | _ => cases e1
/-! ### all words of a length -/
def allW (s : Int) : Nat → List (List Nat)
  | 0 => [[]]
  | n + 1 => (allW s n).flatMap fun t => (figs s).map fun c => t ++ [c]
def sp__law_all : DSp := sp2 fun _ s n => match s, n with
  | .int s, .int n => .pre (2 ≤ s ∧ s ≤ 4 ∧ 0 ≤ n ∧ n ≤ 8) (.ret (.lst ((allW s n.toNat).map D.str)))
  | _, _ => .no
def u__law_all : DS := sC (sAs (dLst (aC (dC (.str [])) (aN))) (gN 2)) (sC (dFor (lRng1 (aC (dV 1) (aN))) (gN 3) (sC (sAs (dLst (aN)) (gN 4)) (sC (dFor (lAny (dV 2)) (gN 5) (sAs (dB opAdd (dV 4) (dLc (lAny (dSl (dC (.str [48, 49, 50, 51])) (oN) (oS (dV 0)))) (gN 6) (bYes) (dB opAdd (dV 5) (dV 6)) [6])) (gN 4))) (sAs (dV 4) (gN 2))))) (sRt (dV 2)))
theorem figs_len {s : Int} (h0 : 0 ≤ s) (h : s ≤ 4) : (figs s).length = s.toNat := by
  unfold figs
  rw [cut_to h0 (by simpa using h), List.length_take]
  show min s.toNat 4 = _
  omega
theorem allW_len {s : Int} (h0 : 2 ≤ s) (h : s ≤ 4) : ∀ n, (allW s n).length = s.toNat ^ n
  | 0 => rfl
  | n + 1 => by
    unfold allW
    rw [List.length_flatMap]
    have : ((allW s n).map fun t => ((figs s).map fun c => t ++ [c]).length) = (allW s n).map fun _ => s.toNat := List.map_congr_left fun t _ => by rw [List.length_map, figs_len (by omega) h]
    rw [this, List.map_const', List.sum_replicate_nat, allW_len h0 h n, Nat.pow_succ]
theorem allW_le {s : Int} (h0 : 2 ≤ s) (h : s ≤ 4) {n : Nat} (hn : n ≤ 8) : (allW s n).length ≤ 65536 := by
  rw [allW_len h0 h]
  calc s.toNat ^ n ≤ 4 ^ n := Nat.pow_le_pow_left (by omega) n
    _ ≤ 4 ^ 8 := Nat.pow_le_pow_right (by decide) hn
theorem allW_long {s : Int} : ∀ n w, w ∈ allW s n → w.length = n
  | 0, w, h => by
    have h : w ∈ [[]] := h
    rw [List.mem_singleton.mp h]; rfl
  | n + 1, w, h => by
    obtain ⟨t, ht, h⟩ := List.mem_flatMap.mp h
    obtain ⟨c, hc, rfl⟩ := List.mem_map.mp h
    rw [List.length_append, allW_long n t ht]; rfl
theorem d__law_all {ds : List D} {S : Sto} {Q : DK} {R : RK} (h : (sp__law_all.g S ds).wp S Q R) : u__law_all (dStart 7 ds) S (endF Q R) := by
  have hh := sp2_inv h
  clear h
  obtain ⟨s, n, rfl, h⟩ := hh
  cases s with
  | int s =>
    cases n with
    | int n =>
      obtain ⟨⟨h2, h4, h0, h8⟩, h⟩ := h
      replace h : Q (.lst ((allW s n.toNat).map D.str)) S := h
      show u__law_all [some (.int s), some (.int n), none, none, none, none, none] S _
      simp only [u__law_all, sC, sIf, sRt, sAs, sX, sN, sRtN, sRs, sBk, sPar, sPar3, sSub, DEnds.seq, DEnds.loop, endF, dAnd, dOr, dNot, dT, dTr, tru, dB, dCh, dC, dIsi, tyD_non, tyD_bl, tyD_int, tyD_str, tyD_tup, tyD_lst, isTN, dAndV, dOrV, dNotV, dIfE, aN, aC, dTup, dLst, dLstM, dCall, dCB, dU, dSl, slD, oN, oS, gN, gT, gsC, gsN, lAny, lRng1, lRng2, lZip, itemsOf, lstOf, seqOf, dLc, wipeD, bYes, dFor, dApp, dMs, dErr, opAdd, opSub, opMod, opDiv, opPow, opMul, opLt, opGt, opLe, opGe, opEq, opNe, opIn, opNi, opInB, opIs, opIsn, opIsB, isNon, opNeg, opIx, opAll, opSum, opMin, opMax, opInt, opLen, opTup, opList, opBool, opJoin, eqD_int, eqD_str, eqD_bl, eqD_non, eqD_tup, eqD_lst, eqD_tup0, eqD_lst0, der_int, der_str, der_bl, der_non, der_tup, der_lst, eqOk_int, eqOk_str, PR.wp, RS.wp, sp0, sp1, sp2, sp3, sp4, dV, List.getElem?_cons_zero, List.getElem?_cons_succ, List.getElem?_nil, List.set_cons_zero, List.set_cons_succ, List.length_cons, List.length_nil, Option.some.injEq, true_and, and_true, Bool.not_true, Bool.not_false]
      refine ⟨by decide, ⟨by omega, by omega⟩, ?_⟩
      have er : rngL 0 n.toNat = (List.range n.toNat).map fun i : Nat => D.int (0 + (i : Nat)) := rfl
      rw [er]
      refine for_scan _ (fun r env S1 => S1 = S ∧ r.length ≤ n.toNat ∧ ∃ x y z t, env = [some (.int s), some (.int n), some (.lst ((allW s (n.toNat - r.length)).map D.str)), x, y, z, t]) ?_ ?_ ⟨rfl, by rw [List.length_range]; exact Nat.le_refl _, none, none, none, none, by rw [List.length_range, Nat.sub_self]; rfl⟩
      · rintro i r env S1 _ ⟨rfl, hr, x, y, z, t, rfl⟩ K hK
        rw [List.length_cons] at hr
        simp only [sC, sIf, sRt, sAs, sX, sN, sRtN, sRs, sBk, sPar, sPar3, sSub, DEnds.seq, DEnds.loop, endF, dAnd, dOr, dNot, dT, dTr, tru, dB, dCh, dC, dIsi, tyD_non, tyD_bl, tyD_int, tyD_str, tyD_tup, tyD_lst, isTN, dAndV, dOrV, dNotV, dIfE, aN, aC, dTup, dLst, dLstM, dCall, dCB, dU, dSl, slD, oN, oS, gN, gT, gsC, gsN, lAny, lRng1, lRng2, lZip, itemsOf, lstOf, seqOf, dLc, wipeD, bYes, dFor, dApp, dMs, dErr, opAdd, opSub, opMod, opDiv, opPow, opMul, opLt, opGt, opLe, opGe, opEq, opNe, opIn, opNi, opInB, opIs, opIsn, opIsB, isNon, opNeg, opIx, opAll, opSum, opMin, opMax, opInt, opLen, opTup, opList, opBool, opJoin, eqD_int, eqD_str, eqD_bl, eqD_non, eqD_tup, eqD_lst, eqD_tup0, eqD_lst0, der_int, der_str, der_bl, der_non, der_tup, der_lst, eqOk_int, eqOk_str, PR.wp, RS.wp, sp0, sp1, sp2, sp3, sp4, dV, List.getElem?_cons_zero, List.getElem?_cons_succ, List.getElem?_nil, List.set_cons_zero, List.set_cons_succ, List.length_cons, List.length_nil, Option.some.injEq, true_and, and_true, Bool.not_true, Bool.not_false]
        refine ⟨Nat.zero_le _, ?_⟩
        generalize hm : n.toNat - (i :: r).length = m
        have hm' : n.toNat - r.length = m + 1 := by rw [List.length_cons] at hm; omega
        have hm8 : m + 1 ≤ 8 := by omega
        refine for_scan D.str (fun r2 env S2 => S2 = S1 ∧ ∃ z t acc, env = [some (.int s), some (.int n), some (.lst ((allW s m).map D.str)), some (.int (0 + (i : Nat))), some (.lst (acc.map D.str)), z, t] ∧ acc ++ (r2.flatMap fun t => (figs s).map fun c => t ++ [c]) = allW s (m + 1)) ?_ ?_ ⟨rfl, z, t, [], rfl, rfl⟩
        · rintro w r2 env S2 hw ⟨rfl, z, t, acc, rfl, ea⟩ K2 hK2
          simp only [sC, sIf, sRt, sAs, sX, sN, sRtN, sRs, sBk, sPar, sPar3, sSub, DEnds.seq, DEnds.loop, endF, dAnd, dOr, dNot, dT, dTr, tru, dB, dCh, dC, dIsi, tyD_non, tyD_bl, tyD_int, tyD_str, tyD_tup, tyD_lst, isTN, dAndV, dOrV, dNotV, dIfE, aN, aC, dTup, dLst, dLstM, dCall, dCB, dU, dSl, slD, oN, oS, gN, gT, gsC, gsN, lAny, lRng1, lRng2, lZip, itemsOf, lstOf, seqOf, dLc, wipeD, bYes, dFor, dApp, dMs, dErr, opAdd, opSub, opMod, opDiv, opPow, opMul, opLt, opGt, opLe, opGe, opEq, opNe, opIn, opNi, opInB, opIs, opIsn, opIsB, isNon, opNeg, opIx, opAll, opSum, opMin, opMax, opInt, opLen, opTup, opList, opBool, opJoin, eqD_int, eqD_str, eqD_bl, eqD_non, eqD_tup, eqD_lst, eqD_tup0, eqD_lst0, der_int, der_str, der_bl, der_non, der_tup, der_lst, eqOk_int, eqOk_str, PR.wp, RS.wp, sp0, sp1, sp2, sp3, sp4, dV, List.getElem?_cons_zero, List.getElem?_cons_succ, List.getElem?_nil, List.set_cons_zero, List.set_cons_succ, List.length_cons, List.length_nil, Option.some.injEq, true_and, and_true, Bool.not_true, Bool.not_false]
          have ef : cut [48, 49, 50, 51] none (some s) = figs s := rfl
          rw [ef]
          refine lc_map (fun c => .str [c]) (fun c => .str (w ++ [c])) (figs s) [] (fun c hc KN KY k => ?_) ?_
          · refine ⟨?_, k⟩
            rw [allW_long m w hw]
            show m + 1 ≤ _
            omega
          · rw [List.nil_append]
            have e1 : (figs s).map (fun c => D.str (w ++ [c])) = ((figs s).map fun c => w ++ [c]).map D.str := by rw [List.map_map]; rfl
            rw [e1]
            have e2 : (acc ++ (figs s).map fun c => w ++ [c]) ++ (r2.flatMap fun t => (figs s).map fun c => t ++ [c]) = allW s (m + 1) := by rw [← ea, List.flatMap_cons, List.append_assoc]
            refine ⟨?_, hK2 _ _ ⟨rfl, _, _, acc ++ (figs s).map fun c => w ++ [c], by rw [List.map_append], e2⟩⟩
            have := allW_le h2 h4 hm8
            rw [← e2, List.length_append, List.length_append] at this
            rw [List.length_map, List.length_map]
            omega
        · rintro env S2 ⟨rfl, z, t, acc, rfl, ea⟩
          rw [List.flatMap_nil, List.append_nil] at ea
          subst ea
          exact hK _ _ ⟨rfl, by omega, _, _, _, _, by rw [hm']; rfl⟩
      · rintro env S1 ⟨rfl, _, x, y, z, t, rfl⟩
        exact h
    | _ => exact h.elim
  | _ => exact h.elim
end DL

namespace DL
open PySem L2
/-! ### two words that lead to one -/
theorem inW_cons {x y : Nat} {a b : List Nat} : inW (x :: a) (y :: b) = (decide (x ≤ y) && inW a b) := rfl
theorem wt_cons {x : Nat} {a : List Nat} : wt (x :: a) = ((x : Int) - 48) + wt a := rfl
theorem wt_le : ∀ {a b : List Nat}, a.length = b.length → inW a b = true → wt a ≤ wt b
  | [], [], _, _ => Int.le_refl _
  | [], _ :: _, h, _ => by simp at h
  | _ :: _, [], h, _ => by simp at h
  | x :: a, y :: b, h, k => by
    rw [inW_cons, Bool.and_eq_true, decide_eq_true_eq] at k
    have := wt_le (a := a) (b := b) (by simpa using h) k.2
    rw [wt_cons, wt_cons]
    omega
theorem least1 : ∀ a b : List Nat, inW (leastW a b) a = true
  | [], _ => rfl
  | _ :: _, [] => rfl
  | x :: a, y :: b => by
    show (decide (min x y ≤ x) && inW (leastW a b) a) = true
    rw [least1 a b, decide_eq_true (Nat.min_le_left x y)]; rfl
theorem least2 : ∀ a b : List Nat, inW (leastW a b) b = true
  | [], _ => rfl
  | _ :: _, [] => rfl
  | x :: a, y :: b => by
    show (decide (min x y ≤ y) && inW (leastW a b) b) = true
    rw [least2 a b, decide_eq_true (Nat.min_le_right x y)]; rfl
theorem in_least : ∀ {w a b : List Nat}, inW w a = true → inW w b = true → inW w (leastW a b) = true
  | [], _, _, _, _ => rfl
  | _ :: _, [], _, _, _ => rfl
  | _ :: _, _ :: _, [], _, _ => rfl
  | z :: w, x :: a, y :: b, h, k => by
    rw [inW_cons, Bool.and_eq_true, decide_eq_true_eq] at h k
    show (decide (z ≤ min x y) && inW w (leastW a b)) = true
    rw [in_least h.2 k.2, decide_eq_true (Nat.le_min.mpr ⟨h.1, k.1⟩)]; rfl
theorem allW_mem {s : Int} : ∀ {n : Nat} {w : List Nat}, w ∈ allW s n ↔ w.length = n ∧ ∀ c ∈ w, c ∈ figs s
  | 0, w => by
    show w ∈ [[]] ↔ _
    rw [List.mem_singleton]
    exact ⟨fun h => by subst h; exact ⟨rfl, fun _ z => by cases z⟩, fun h => List.length_eq_zero_iff.mp h.1⟩
  | n + 1, w => by
    show w ∈ (allW s n).flatMap (fun t => (figs s).map fun c => t ++ [c]) ↔ _
    rw [List.mem_flatMap]
    constructor
    · rintro ⟨t, ht, h⟩
      obtain ⟨c, hc, rfl⟩ := List.mem_map.mp h
      obtain ⟨h1, h2⟩ := allW_mem.mp ht
      refine ⟨by rw [List.length_append, h1]; rfl, fun d hd => ?_⟩
      rcases List.mem_append.mp hd with hd | hd
      · exact h2 d hd
      · rw [List.mem_singleton.mp hd]; exact hc
    · rintro ⟨h1, h2⟩
      have hne : w ≠ [] := fun e => by rw [e] at h1; cases h1
      refine ⟨w.dropLast, allW_mem.mpr ⟨by rw [List.length_dropLast, h1]; rfl, fun c hc => h2 c (List.dropLast_subset _ hc)⟩, List.mem_map.mpr ⟨w.getLast hne, h2 _ (List.getLast_mem hne), List.dropLast_concat_getLast hne⟩⟩
def leadW (l : List (List Nat)) (w : List Nat) (m : Option Int) : List (List Nat) := l.filter fun a => fitsS (lawLoss a w) m
def mendedB (l ev : List (List Nat)) (m : Option Int) : Bool := ev.all fun w => decide ((leadW l w m).length ≤ 1)
def sp__law_leading : DSp := sp3 fun _ b v m => match v, optD m with
  | .str w, some k => .pre (isBk b = true ∧ digs w ∧ w.length ≤ 1000) (.ret (.lst ((leadW (bkW b) w k).map D.str)))
  | _, _ => .no
def sp__law_mended : DSp := sp3 fun _ b e m => match e, optD m with
  | .lst ws, some k => (match sts ws with | some ev => .pre (isBk b = true ∧ ∀ w ∈ ev, digs w ∧ w.length ≤ 1000) (.ret (.bl (mendedB (bkW b) ev k))) | none => .no)
  | _, _ => .no
def u__law_leading : DS := sRt (dLc (lAny (dB opIx (dV 0) (dC (.int 1)))) (gN 3) (dTr (dCall sp__law_fits (aC (dCall sp__law_loss (aC (dV 3) (aC (dV 1) (aN)))) (aC (dV 2) (aN))))) (dV 3) [3])
def u__law_mended : DS := sRt (dB opEq (dLc (lAny (dV 1)) (gN 3) (dT (dB opGt (dCB opLen (aC (dCall sp__law_leading (aC (dV 0) (aC (dV 3) (aC (dV 2) (aN))))) (aN))) (dC (.int 1)))) (dV 3) [3]) (dLst (aN)))
theorem d__law_leading {ds : List D} {S : Sto} {Q : DK} {R : RK} (h : (sp__law_leading.g S ds).wp S Q R) : u__law_leading (dStart 4 ds) S (endF Q R) := by
  have hh := sp3_inv h
  clear h
  obtain ⟨b, v, m, rfl, h⟩ := hh
  cases v with
  | str w =>
    cases e : optD m with
    | none => rw [e] at h; exact h.elim
    | some k =>
      rw [e] at h
      obtain ⟨⟨hb, hw, hl⟩, h⟩ := h
      replace h : Q (.lst ((leadW (bkW b) w k).map D.str)) S := h
      obtain ⟨s, l, rfl, h1, h2, h3, h4, h5⟩ := isBk_inv hb
      rw [h5] at h
      have em := optD_V e
      subst em
      have hg := bkL_digs h4
      show u__law_leading [some (.tup [.int s, .tup (l.map D.str)]), some (.str w), some (optI k), none] S _
      simp only [u__law_leading, sC, sIf, sRt, sAs, sX, sN, sRtN, sRs, sBk, sPar, sPar3, sSub, DEnds.seq, DEnds.loop, endF, dAnd, dOr, dNot, dT, dTr, tru, dB, dCh, dC, dIsi, tyD_non, tyD_bl, tyD_int, tyD_str, tyD_tup, tyD_lst, isTN, dAndV, dOrV, dNotV, dIfE, aN, aC, dTup, dLst, dLstM, dCall, dCB, dU, dSl, slD, oN, oS, gN, gT, gsC, gsN, lAny, lRng1, lRng2, lZip, itemsOf, lstOf, seqOf, dLc, wipeD, bYes, dFor, dApp, dMs, dErr, opAdd, opSub, opMod, opDiv, opPow, opMul, opLt, opGt, opLe, opGe, opEq, opNe, opIn, opNi, opInB, opIs, opIsn, opIsB, isNon, opNeg, opIx, opAll, opSum, opMin, opMax, opInt, opLen, opTup, opList, opBool, opJoin, eqD_int, eqD_str, eqD_bl, eqD_non, eqD_tup, eqD_lst, eqD_tup0, eqD_lst0, der_int, der_str, der_bl, der_non, der_tup, der_lst, eqOk_int, eqOk_str, PR.wp, RS.wp, sp0, sp1, sp2, sp3, sp4, dV, List.getElem?_cons_zero, List.getElem?_cons_succ, List.getElem?_nil, List.set_cons_zero, List.set_cons_succ, List.length_cons, List.length_nil, Option.some.injEq, true_and, and_true, Bool.not_true, Bool.not_false, bk_tl]
      refine lc_mf D.str (fun a => fitsS (lawLoss a w) k) D.str l [] (fun x hx KN KY q => ?_) (by rw [List.nil_append]; exact h)
      simp only [lcStep, sC, sIf, sRt, sAs, sX, sN, sRtN, sRs, sBk, sPar, sPar3, sSub, DEnds.seq, DEnds.loop, endF, dAnd, dOr, dNot, dT, dTr, tru, dB, dCh, dC, dIsi, tyD_non, tyD_bl, tyD_int, tyD_str, tyD_tup, tyD_lst, isTN, dAndV, dOrV, dNotV, dIfE, aN, aC, dTup, dLst, dLstM, dCall, dCB, dU, dSl, slD, oN, oS, gN, gT, gsC, gsN, lAny, lRng1, lRng2, lZip, itemsOf, lstOf, seqOf, dLc, wipeD, bYes, dFor, dApp, dMs, dErr, opAdd, opSub, opMod, opDiv, opPow, opMul, opLt, opGt, opLe, opGe, opEq, opNe, opIn, opNi, opInB, opIs, opIsn, opIsB, isNon, opNeg, opIx, opAll, opSum, opMin, opMax, opInt, opLen, opTup, opList, opBool, opJoin, eqD_int, eqD_str, eqD_bl, eqD_non, eqD_tup, eqD_lst, eqD_tup0, eqD_lst0, der_int, der_str, der_bl, der_non, der_tup, der_lst, eqOk_int, eqOk_str, PR.wp, RS.wp, sp0, sp1, sp2, sp3, sp4, dV, List.getElem?_cons_zero, List.getElem?_cons_succ, List.getElem?_nil, List.set_cons_zero, List.set_cons_succ, List.length_cons, List.length_nil, Option.some.injEq, true_and, and_true, Bool.not_true, Bool.not_false, sp__law_loss]
      refine ⟨⟨hg x hx, hw, hl⟩, ?_⟩
      rw [fits_wp]
      simp only [tru]
      cases b : fitsS (lawLoss x w) k with
      | true => rw [b] at q; exact q
      | false => rw [b] at q; exact q
  | _ => exact h.elim
theorem leading_wp {S : Sto} {Q : DK} {R : RK} {b : D} {w : List Nat} {k : Option Int} : (sp__law_leading.g S [b, .str w, optI k]).wp S Q R = ((isBk b = true ∧ digs w ∧ w.length ≤ 1000) ∧ Q (.lst ((leadW (bkW b) w k).map D.str)) S) := by cases k <;> rfl
theorem d__law_mended {ds : List D} {S : Sto} {Q : DK} {R : RK} (h : (sp__law_mended.g S ds).wp S Q R) : u__law_mended (dStart 4 ds) S (endF Q R) := by
  have hh := sp3_inv h
  clear h
  obtain ⟨b, v, m, rfl, h⟩ := hh
  cases v with
  | lst ws =>
    cases e : optD m with
    | none => rw [e] at h; exact h.elim
    | some k =>
      rw [e] at h
      replace h : (match sts ws with | some ev => RS.pre (isBk b = true ∧ ∀ w ∈ ev, digs w ∧ w.length ≤ 1000) (.ret (.bl (mendedB (bkW b) ev k))) | none => .no).wp S Q R := h
      cases e2 : sts ws with
      | none => rw [e2] at h; exact h.elim
      | some ev =>
        rw [e2] at h
        obtain ⟨⟨hb, hw⟩, h⟩ := h
        replace h : Q (.bl (mendedB (bkW b) ev k)) S := h
        have em := optD_V e
        subst em
        have e4 := sts_eq e2
        subst e4
        show u__law_mended [some b, some (.lst (ev.map D.str)), some (optI k), none] S _
        simp only [u__law_mended, sC, sIf, sRt, sAs, sX, sN, sRtN, sRs, sBk, sPar, sPar3, sSub, DEnds.seq, DEnds.loop, endF, dAnd, dOr, dNot, dT, dTr, tru, dB, dCh, dC, dIsi, tyD_non, tyD_bl, tyD_int, tyD_str, tyD_tup, tyD_lst, isTN, dAndV, dOrV, dNotV, dIfE, aN, aC, dTup, dLst, dLstM, dCall, dCB, dU, dSl, slD, oN, oS, gN, gT, gsC, gsN, lAny, lRng1, lRng2, lZip, itemsOf, lstOf, seqOf, dLc, wipeD, bYes, dFor, dApp, dMs, dErr, opAdd, opSub, opMod, opDiv, opPow, opMul, opLt, opGt, opLe, opGe, opEq, opNe, opIn, opNi, opInB, opIs, opIsn, opIsB, isNon, opNeg, opIx, opAll, opSum, opMin, opMax, opInt, opLen, opTup, opList, opBool, opJoin, eqD_int, eqD_str, eqD_bl, eqD_non, eqD_tup, eqD_lst, eqD_tup0, eqD_lst0, der_int, der_str, der_bl, der_non, der_tup, der_lst, eqOk_int, eqOk_str, PR.wp, RS.wp, sp0, sp1, sp2, sp3, sp4, dV, List.getElem?_cons_zero, List.getElem?_cons_succ, List.getElem?_nil, List.set_cons_zero, List.set_cons_succ, List.length_cons, List.length_nil, Option.some.injEq, true_and, and_true, Bool.not_true, Bool.not_false]
        refine lc_mf D.str (fun w => !decide ((leadW (bkW b) w k).length ≤ 1)) D.str ev [] (fun x hx KN KY q => ?_) ?_
        · simp only [lcStep, sC, sIf, sRt, sAs, sX, sN, sRtN, sRs, sBk, sPar, sPar3, sSub, DEnds.seq, DEnds.loop, endF, dAnd, dOr, dNot, dT, dTr, tru, dB, dCh, dC, dIsi, tyD_non, tyD_bl, tyD_int, tyD_str, tyD_tup, tyD_lst, isTN, dAndV, dOrV, dNotV, dIfE, aN, aC, dTup, dLst, dLstM, dCall, dCB, dU, dSl, slD, oN, oS, gN, gT, gsC, gsN, lAny, lRng1, lRng2, lZip, itemsOf, lstOf, seqOf, dLc, wipeD, bYes, dFor, dApp, dMs, dErr, opAdd, opSub, opMod, opDiv, opPow, opMul, opLt, opGt, opLe, opGe, opEq, opNe, opIn, opNi, opInB, opIs, opIsn, opIsB, isNon, opNeg, opIx, opAll, opSum, opMin, opMax, opInt, opLen, opTup, opList, opBool, opJoin, eqD_int, eqD_str, eqD_bl, eqD_non, eqD_tup, eqD_lst, eqD_tup0, eqD_lst0, der_int, der_str, der_bl, der_non, der_tup, der_lst, eqOk_int, eqOk_str, PR.wp, RS.wp, sp0, sp1, sp2, sp3, sp4, dV, List.getElem?_cons_zero, List.getElem?_cons_succ, List.getElem?_nil, List.set_cons_zero, List.set_cons_succ, List.length_cons, List.length_nil, Option.some.injEq, true_and, and_true, Bool.not_true, Bool.not_false, leading_wp]
          refine ⟨⟨hb, hw x hx⟩, ?_⟩
          have e3 : decide ((1 : Int) < ((((leadW (bkW b) x k).map D.str).length : Nat) : Int)) = !decide ((leadW (bkW b) x k).length ≤ 1) := by
            rw [List.length_map]
            by_cases z : (leadW (bkW b) x k).length ≤ 1
            · rw [decide_eq_true z, decide_eq_false (by omega)]; rfl
            · rw [decide_eq_false z, decide_eq_true (by omega)]; rfl
          rw [e3]
          cases z : decide ((leadW (bkW b) x k).length ≤ 1) with
          | true => rw [z] at q; exact q
          | false => rw [z] at q; exact q
        · rw [List.nil_append]
          refine ⟨Nat.zero_le _, ?_, ?_⟩
          · show (dokL 59 _ && true) = true
            rw [dok_strs]; rfl
          · rw [eqD_nil, List.isEmpty_map, all_filter]
            exact h
  | _ => exact h.elim
theorem mended_wp {S : Sto} {Q : DK} {R : RK} {b : D} {ev : List (List Nat)} {k : Option Int} : (sp__law_mended.g S [b, .lst (ev.map D.str), optI k]).wp S Q R = ((isBk b = true ∧ ∀ w ∈ ev, digs w ∧ w.length ≤ 1000) ∧ Q (.bl (mendedB (bkW b) ev k)) S) := by
  cases k <;> (show RS.wp S (match sts (ev.map D.str) with | some ev => RS.pre (isBk b = true ∧ ∀ w ∈ ev, digs w ∧ w.length ≤ 1000) (.ret (.bl (mendedB (bkW b) ev _))) | none => .no) Q R = _; rw [sts_of]; rfl)
theorem lawIn_iff {a b : List Nat} : lawIn a b = true ↔ a.length = b.length ∧ inW a b = true := by
  unfold lawIn
  rw [Bool.and_eq_true, decide_eq_true_eq]
theorem fits_law {a w : List Nat} {m : Option Int} : fitsS (lawLoss a w) m = true ↔ (w.length = a.length ∧ inW w a = true) ∧ fitsS (some (wt a - wt w)) m = true := by
  unfold lawLoss
  by_cases h : lawIn w a = true
  · rw [if_pos h]
    exact ⟨fun k => ⟨lawIn_iff.mp h, k⟩, fun k => k.2⟩
  · rw [if_neg h]
    exact ⟨fun k => (by cases k), fun k => absurd (lawIn_iff.mpr k.1) h⟩
theorem fits_mono {i j : Int} {m : Option Int} (h : i ≤ j) (k : fitsS (some j) m = true) : fitsS (some i) m = true := by
  cases m with
  | none => rfl
  | some n =>
    have k : decide (j ≤ n) = true := k
    have : j ≤ n := of_decide_eq_true k
    exact decide_eq_true (Int.le_trans h this)
/-- a word to which both of two lead -/
theorem far_of {a b w : List Nat} {m : Option Int} (h1 : fitsS (lawLoss a w) m = true) (h2 : fitsS (lawLoss b w) m = true) : fitsS (some (farW a b)) m = true := by
  rw [fits_law] at h1 h2
  obtain ⟨⟨l1, i1⟩, f1⟩ := h1
  obtain ⟨⟨l2, i2⟩, f2⟩ := h2
  have hw := wt_le (a := w) (b := leastW a b) (by rw [leastW_len]; omega) (in_least i1 i2)
  unfold farW
  split
  · exact fits_mono (by omega) f2
  · exact fits_mono (by omega) f1
theorem of_far {a b : List Nat} {m : Option Int} (hl : a.length = b.length) (h : fitsS (some (farW a b)) m = true) : fitsS (lawLoss a (leastW a b)) m = true ∧ fitsS (lawLoss b (leastW a b)) m = true := by
  rw [fits_law, fits_law]
  have e : (leastW a b).length = a.length := by rw [leastW_len]; omega
  unfold farW at h
  refine ⟨⟨⟨e, least1 a b⟩, fits_mono ?_ h⟩, ⟨e.trans hl, least2 a b⟩, fits_mono ?_ h⟩
  · split <;> omega
  · split <;> omega
theorem asc_filter {l : List (List Nat)} (h : Asc l) (p : List Nat → Bool) : Asc (l.filter p) := List.Pairwise.sublist List.filter_sublist h
theorem two_of {l : List (List Nat)} (h : Asc l) (k : ¬ l.length ≤ 1) : ∃ a b, a ∈ l ∧ b ∈ l ∧ ltL a b = true := by
  match l, h, k with
  | [], _, k => exact absurd (Nat.zero_le _) k
  | [_], _, k => exact absurd (Nat.le_refl _) k
  | a :: b :: r, h, _ => exact ⟨a, b, List.mem_cons_self, List.mem_cons_of_mem _ List.mem_cons_self, (List.pairwise_cons.mp h).1 b List.mem_cons_self⟩
theorem one_of {l : List (List Nat)} (k : l.length ≤ 1) {a b : List Nat} (ha : a ∈ l) (hb : b ∈ l) : a = b := by
  match l, k with
  | [], _ => cases ha
  | [c], _ => rw [List.mem_singleton.mp ha, List.mem_singleton.mp hb]
  | _ :: _ :: _, k => simp at k
theorem ltL_ne {a b : List Nat} (h : ltL a b = true) : a ≠ b := fun e => by rw [e, ltL_irr] at h; cases h
theorem twice_some {l : List (List Nat)} {m : Option Int} {p : List Nat × List Nat} (h : twiceB l m = some p) : p.1 ∈ l ∧ p.2 ∈ l ∧ ltL p.1 p.2 = true ∧ fitsS (some (farW p.1 p.2)) m = true := by
  have h1 := List.find?_some h
  have h2 := mem_all (List.mem_of_find?_eq_some h)
  unfold twC at h1
  rw [Bool.and_eq_true] at h1
  exact ⟨h2.1, h2.2, h1⟩
theorem twice_none {l : List (List Nat)} {m : Option Int} (h : twiceB l m = none) {a b : List Nat} (ha : a ∈ l) (hb : b ∈ l) (hlt : ltL a b = true) : fitsS (some (farW a b)) m = false := by
  have h1 := List.find?_eq_none.mp h (a, b) (List.mem_flatMap.mpr ⟨a, ha, List.mem_map.mpr ⟨b, hb, rfl⟩⟩)
  unfold twC at h1
  rw [hlt] at h1
  simpa using h1
/-- the words of a book lie among all of their length -/
theorem least_all {s : Int} {l : List (List Nat)} (h : bkL s l = true) {a b : List Nat} (ha : a ∈ l) (hb : b ∈ l) : leastW a b ∈ allW s (l.getD 0 []).length := by
  have b1 := bk_len h a ha
  have b2 := bk_len h b hb
  have fg : ∀ w ∈ l, ∀ c ∈ w, c ∈ figs s := fun w hw c hc => by
    unfold bkL at h
    rw [Bool.and_eq_true, Bool.and_eq_true, List.all_eq_true] at h
    have := h.1.1 w hw
    unfold isWd at this
    rw [Bool.and_eq_true, List.all_eq_true] at this
    exact of_decide_eq_true (this.2 c hc)
  refine allW_mem.mpr ⟨by rw [leastW_len]; omega, fun c hc => ?_⟩
  obtain ⟨i, hi⟩ := List.mem_iff_getElem?.mp hc
  unfold leastW at hi
  rw [List.getElem?_zipWith] at hi
  cases e1 : a[i]? with
  | none => rw [e1] at hi; cases hi
  | some x =>
    cases e2 : b[i]? with
    | none => rw [e1, e2] at hi; cases hi
    | some y =>
      rw [e1, e2] at hi
      cases hi
      show min x y ∈ figs s
      by_cases hxy : x ≤ y
      · rw [Nat.min_eq_left hxy]; exact fg a ha x (List.mem_of_getElem? e1)
      · rw [Nat.min_eq_right (by omega)]; exact fg b hb y (List.mem_of_getElem? e2)
theorem mended_twice {s : Int} {l : List (List Nat)} (h : bkL s l = true) {n : Nat} (hn : l ≠ [] → n = (l.getD 0 []).length) (m : Option Int) : mendedB l (allW s n) m = (twiceB l m).isNone := by
  rw [Bool.eq_iff_iff]
  unfold mendedB
  rw [List.all_eq_true, Option.isNone_iff_eq_none]
  constructor
  · intro k
    cases e : twiceB l m with
    | none => rfl
    | some p =>
      obtain ⟨h1, h2, h3, h4⟩ := twice_some e
      have hl : p.1.length = p.2.length := (bk_len h _ h1).1.trans (bk_len h _ h2).1.symm
      obtain ⟨g1, g2⟩ := of_far hl h4
      have hm : leastW p.1 p.2 ∈ allW s n := by rw [hn (fun z => by rw [z] at h1; cases h1)]; exact least_all h h1 h2
      have := of_decide_eq_true (k _ hm)
      exact absurd (one_of this (List.mem_filter.mpr ⟨h1, g1⟩) (List.mem_filter.mpr ⟨h2, g2⟩)) (ltL_ne h3)
  · intro e w hw
    refine decide_eq_true (Decidable.byContradiction fun k => ?_)
    obtain ⟨a, b, ha, hb, hlt⟩ := two_of (asc_filter (bk_asc h) _) k
    have ha := List.mem_filter.mp ha
    have hb := List.mem_filter.mp hb
    have f := far_of ha.2 hb.2
    rw [twice_none e ha.1 hb.1 hlt] at f
    cases f
theorem fars_mem {l : List (List Nat)} {i : Int} : i ∈ farsB l ↔ ∃ a b, a ∈ l ∧ b ∈ l ∧ ltL a b = true ∧ farW a b = i := by
  unfold farsB
  rw [List.mem_map]
  constructor
  · rintro ⟨p, hp, rfl⟩
    have hp := List.mem_filter.mp hp
    have := mem_all hp.1
    exact ⟨p.1, p.2, this.1, this.2, hp.2, rfl⟩
  · rintro ⟨a, b, ha, hb, h, rfl⟩
    exact ⟨(a, b), List.mem_filter.mpr ⟨List.mem_flatMap.mpr ⟨a, ha, List.mem_map.mpr ⟨b, hb, rfl⟩⟩, h⟩, rfl⟩
theorem mend_none {s : Int} {l : List (List Nat)} (h : bkL s l = true) : (mendB l).isNone = decide (l.length < 2) := by
  unfold mendB
  by_cases k : l.length ≤ 1
  · have e : farsB l = [] := by
      refine List.eq_nil_iff_forall_not_mem.mpr fun i hi => ?_
      obtain ⟨a, b, ha, hb, hlt, _⟩ := fars_mem.mp hi
      exact ltL_ne hlt (one_of k ha hb)
    rw [if_pos e, decide_eq_true (by omega)]; rfl
  · obtain ⟨a, b, ha, hb, hlt⟩ := two_of (bk_asc h) k
    have e : farsB l ≠ [] := fun z => by
      have := fars_mem.mpr ⟨a, b, ha, hb, hlt, rfl⟩
      rw [z] at this
      cases this
    rw [if_neg e, decide_eq_false (by omega)]; rfl
theorem mend_some {l : List (List Nat)} {k : Int} (h : mendB l = some k) : (twiceB l (some k)).isNone = true ∧ (twiceB l (some (k + 1))).isNone = false := by
  unfold mendB at h
  split at h
  · cases h
  · rename_i hne
    have hk : k = mnL (farsB l) - 1 := (Option.some.inj h).symm
    obtain ⟨hm, hl⟩ := mnL_mem hne
    subst hk
    constructor
    · cases e : twiceB l (some (mnL (farsB l) - 1)) with
      | none => rfl
      | some p =>
        obtain ⟨h1, h2, h3, h4⟩ := twice_some e
        have := hl _ (fars_mem.mpr ⟨_, _, h1, h2, h3, rfl⟩)
        have h4 : decide (farW p.1 p.2 ≤ mnL (farsB l) - 1) = true := h4
        have := of_decide_eq_true h4
        omega
    · obtain ⟨a, b, ha, hb, hlt, e⟩ := fars_mem.mp hm
      cases e2 : twiceB l (some (mnL (farsB l) - 1 + 1)) with
      | some p => rfl
      | none =>
        have f := twice_none e2 ha hb hlt
        have f : decide (farW a b ≤ mnL (farsB l) - 1 + 1) = false := f
        have := of_decide_eq_false f
        omega
end DL

namespace DL
open PySem L2
/-! ### books by their parts -/
@[reducible] def bkD (s : Int) (l : List (List Nat)) : D := .tup [.int s, .tup (l.map D.str)]
structure BkOk (s : Int) (l : List (List Nat)) : Prop where
  h2 : 2 ≤ s
  h4 : s ≤ 4
  hl : l.length ≤ 40
  hb : bkL s l = true
section
variable {S : Sto} {Q : DK} {R : RK} {s : Int} {l : List (List Nat)}
theorem bkW_D : bkW (bkD s l) = l := by show (sts (l.map D.str)).getD [] = l; rw [sts_of]; rfl
theorem bkS_D : bkS (bkD s l) = s := rfl
theorem BkOk.is (h : BkOk s l) : isBk (bkD s l) = true := by
  unfold bkD
  rw [isBk_tup sts_of, h.hb, decide_eq_true h.h2, decide_eq_true h.h4, decide_eq_true (by rw [lens_lt]; exact h.hl)]; rfl
theorem bkD_dok : dok 60 (bkD s l) = true := by
  show (dok 59 (.int s) && (dokL 58 (l.map D.str) && true)) = true
  rw [dok_strs]; rfl
theorem BkOk.of {m c : Int} {z : D} (hm : m ≤ 40) (h : bookOk m c z) : ∃ s l, z = bkD s l ∧ BkOk s l ∧ (l.length : Int) ≤ max m 3 ∧ ∀ w ∈ l, (w.length : Int) ≤ max c 4 := by
  obtain ⟨s, l, rfl, h2, h4, hb, hl, hc⟩ := h
  exact ⟨s, l, rfl, ⟨h2, h4, by omega, hb⟩, hl, hc⟩
theorem bkD_hd : atI [D.int s, .tup (l.map D.str)] (0 : Int) = some (.int s) := rfl
theorem bkD_tl : atI [D.int s, .tup (l.map D.str)] (1 : Int) = some (.tup (l.map D.str)) := rfl
/-- book[0], book[1] -/
theorem ix0_bk : opIx S (bkD s l) (.int 0) = .ok (.int s) := rfl
theorem ix1_bk : opIx S (bkD s l) (.int 1) = .ok (.tup (l.map D.str)) := rfl
theorem mends_bk (h : BkOk s l) : (sp_mends.g S [bkD s l]).wp S Q R = Q (optI (mendB l)) S := by
  show (dok 60 (bkD s l) = true ∧ (if isBk (bkD s l) = true then RS.ret (optI (mendB (bkW (bkD s l)))) else .err ⟨4, none⟩).wp S Q R) = _
  rw [if_pos h.is, bkW_D]
  exact propext ⟨fun x => x.2, fun x => ⟨bkD_dok, x⟩⟩
theorem mends_er {z : D} (h : isBk z = false) : (sp_mends.g S [z]).wp S Q R = (dok 60 z = true ∧ R ⟨4, none⟩ S) := by
  show (dok 60 z = true ∧ (if isBk z = true then RS.ret (optI (mendB (bkW z))) else .err ⟨4, none⟩).wp S Q R) = _
  rw [h]; rfl
theorem dok_opt {k : Option Int} : dok 60 (optI k) = true := by cases k <;> rfl
theorem mostV_opt {k : Option Int} : mostV (optI k) = k := by cases k <;> rfl
theorem twice_bk (h : BkOk s l) {k : Option Int} (hk : okMost (optI k) = true) : (sp_twice.g S [bkD s l, optI k]).wp S Q R = Q (tripD (twiceB l k)) S := by
  show ((dok 60 (bkD s l) = true ∧ dok 60 (optI k) = true) ∧ (if isBk (bkD s l) = true then (if okMost (optI k) = true then RS.ret (tripD (twiceB (bkW (bkD s l)) (mostV (optI k)))) else .err ⟨3, none⟩) else .err ⟨4, none⟩).wp S Q R) = _
  rw [if_pos h.is, if_pos hk, bkW_D, mostV_opt]
  exact propext ⟨fun x => x.2, fun x => ⟨⟨bkD_dok, dok_opt⟩, x⟩⟩
theorem twice_e3 (h : BkOk s l) {m : D} (hk : okMost m = false) : (sp_twice.g S [bkD s l, m]).wp S Q R = (dok 60 m = true ∧ R ⟨3, none⟩ S) := by
  show ((dok 60 (bkD s l) = true ∧ dok 60 m = true) ∧ (if isBk (bkD s l) = true then (if okMost m = true then RS.ret (tripD (twiceB (bkW (bkD s l)) (mostV m))) else .err ⟨3, none⟩) else .err ⟨4, none⟩).wp S Q R) = _
  rw [if_pos h.is, hk]
  exact propext ⟨fun x => ⟨x.1.2, x.2⟩, fun x => ⟨⟨bkD_dok, x.1⟩, x.2⟩⟩
theorem twice_e4 {z m : D} (h : isBk z = false) : (sp_twice.g S [z, m]).wp S Q R = ((dok 60 z = true ∧ dok 60 m = true) ∧ R ⟨4, none⟩ S) := by
  show (_ ∧ (if isBk z = true then (if okMost m = true then RS.ret (tripD (twiceB (bkW z) (mostV m))) else .err ⟨3, none⟩) else .err ⟨4, none⟩).wp S Q R) = _
  rw [h]; rfl
theorem senders_g {z v m : D} : (sp_senders.g S [z, v, m]).wp S Q R = ((dok 60 z = true ∧ dok 60 v = true ∧ dok 60 m = true) ∧ (if isBk z = true then (if isWdD (bkS z) v = true then (if okMost m = true then (if likeW (bkW z) v = true then RS.ret (.lst ((sendW (bkW z) (seenV v) (mostV m)).map D.str)) else .err ⟨10, none⟩) else .err ⟨3, none⟩) else .err ⟨2, none⟩) else .err ⟨4, none⟩).wp S Q R) := rfl
theorem senders_bk (h : BkOk s l) {w : List Nat} {k : Option Int} (hw : isWd s w = true) (hk : okMost (optI k) = true) (hl : likeW l (.str w) = true) : (sp_senders.g S [bkD s l, .str w, optI k]).wp S Q R = Q (.lst ((sendW l w k).map D.str)) S := by
  rw [senders_g, if_pos h.is, bkS_D, bkW_D, if_pos (show isWdD s (.str w) = true from hw), if_pos hk, if_pos hl, mostV_opt]
  exact propext ⟨fun x => x.2, fun x => ⟨⟨bkD_dok, rfl, dok_opt⟩, x⟩⟩
theorem senders_e2 (h : BkOk s l) {v m : D} (hw : isWdD s v = false) : (sp_senders.g S [bkD s l, v, m]).wp S Q R = ((dok 60 v = true ∧ dok 60 m = true) ∧ R ⟨2, none⟩ S) := by
  rw [senders_g, if_pos h.is, bkS_D, hw]
  exact propext ⟨fun x => ⟨x.1.2, x.2⟩, fun x => ⟨⟨bkD_dok, x.1⟩, x.2⟩⟩
theorem senders_e3 (h : BkOk s l) {v m : D} (hw : isWdD s v = true) (hm : okMost m = false) : (sp_senders.g S [bkD s l, v, m]).wp S Q R = ((dok 60 v = true ∧ dok 60 m = true) ∧ R ⟨3, none⟩ S) := by
  rw [senders_g, if_pos h.is, bkS_D, if_pos hw, hm]
  exact propext ⟨fun x => ⟨x.1.2, x.2⟩, fun x => ⟨⟨bkD_dok, x.1⟩, x.2⟩⟩
theorem senders_e10 (h : BkOk s l) {v m : D} (hw : isWdD s v = true) (hm : okMost m = true) (hl : likeW l v = false) : (sp_senders.g S [bkD s l, v, m]).wp S Q R = ((dok 60 v = true ∧ dok 60 m = true) ∧ R ⟨10, none⟩ S) := by
  rw [senders_g, if_pos h.is, bkS_D, bkW_D, if_pos hw, if_pos hm, hl]
  exact propext ⟨fun x => ⟨x.1.2, x.2⟩, fun x => ⟨⟨bkD_dok, x.1⟩, x.2⟩⟩
theorem all_wp {n : Int} : (sp__law_all.g S [.int s, .int n]).wp S Q R = ((2 ≤ s ∧ s ≤ 4 ∧ 0 ≤ n ∧ n ≤ 8) ∧ Q (.lst ((allW s n.toNat).map D.str)) S) := rfl
theorem der_strs {l : List (List Nat)} : der S (.lst (l.map D.str)) = .lst (l.map D.str) := rfl
theorem eqOk_strs {l m : List (List Nat)} : eqOk S (.lst (l.map D.str)) (.lst (m.map D.str)) = true := by
  show (dokL 59 (l.map D.str) && dokL 59 (m.map D.str)) = true
  rw [dok_strs, dok_strs]; rfl
theorem eqOk_strs0 {l : List (List Nat)} : eqOk S (.tup (l.map D.str)) (.tup []) = true := by
  show (dokL 59 (l.map D.str) && true) = true
  rw [dok_strs]; rfl
theorem flat_rep (n : Nat) (c : Nat) : (List.replicate n [c]).flatten = List.replicate n c := by
  induction n with
  | zero => rfl
  | succ n ih => rw [List.replicate_succ, List.replicate_succ, List.flatten_cons, ih]; rfl
theorem wd_zeros (h2 : 2 ≤ s) (h4 : s ≤ 4) {n : Nat} (h0 : 1 ≤ n) (h60 : n ≤ 60) : isWd s (List.replicate n 48) = true := by
  unfold isWd
  rw [List.length_replicate, decide_eq_true h0, decide_eq_true h60, List.all_replicate]
  have : decide (48 ∈ figs s) = true := decide_eq_true (figs_mem h2 h4 ⟨Nat.le_refl _, by omega⟩)
  rw [this]
  split <;> rfl
theorem allW_wd (h2 : 2 ≤ s) (h4 : s ≤ 4) {n : Nat} (h0 : 1 ≤ n) (h60 : n ≤ 60) {w : List Nat} (h : w ∈ allW s n) : isWd s w = true := by
  obtain ⟨e, f⟩ := allW_mem.mp h
  unfold isWd
  rw [e, decide_eq_true h0, decide_eq_true h60]
  show (w.all fun c => decide (c ∈ figs s)) = true
  exact List.all_eq_true.mpr fun c hc => decide_eq_true (f c hc)
theorem send_lead (h : BkOk s l) {n : Nat} (hn : ∀ a ∈ l, a.length = n) {w : List Nat} (hw : w.length = n) (k : Option Int) : sendW l w k = leadW l w k := by
  unfold sendW leadW
  refine List.filter_congr fun a ha => ?_
  have : lawLoss a w = lossW a w := by
    unfold lawLoss lossW lawIn
    rw [decide_eq_true (hw.trans (hn a ha).symm)]; rfl
  rw [this]
theorem add_scr {S : Sto} {ds : List D} {ns : List Int} : opAdd S (.lst ds) (.scr ns) = .pre (ds.length + ns.length ≤ 16777216) (.lst (ds ++ ns.map D.int)) := rfl
instance : Decidable (BkOk s l) := decidable_of_iff (2 ≤ s ∧ s ≤ 4 ∧ l.length ≤ 40 ∧ bkL s l = true) ⟨fun h => ⟨h.1, h.2.1, h.2.2.1, h.2.2.2⟩, fun h => ⟨h.h2, h.h4, h.hl, h.hb⟩⟩
/-- written books -/
theorem mends_c (s : Int) (l : List (List Nat)) {z v : D} (hz : z = bkD s l) (h : BkOk s l) (hv : optI (mendB l) = v) : (sp_mends.g S [z]).wp S Q R = Q v S := by rw [hz, mends_bk h, hv]
theorem twice_c (s : Int) (l : List (List Nat)) (k : Option Int) {z m v : D} (hz : z = bkD s l) (hm : m = optI k) (h : BkOk s l) (hk : okMost (optI k) = true) (hv : tripD (twiceB l k) = v) : (sp_twice.g S [z, m]).wp S Q R = Q v S := by rw [hz, hm, twice_bk h hk, hv]
theorem senders_c (s : Int) (l : List (List Nat)) (w : List Nat) (k : Option Int) {z m v : D} (hz : z = bkD s l) (hm : m = optI k) (h : BkOk s l) (hw : isWd s w = true) (hk : okMost (optI k) = true) (hl : likeW l (.str w) = true) (hv : D.lst ((sendW l w k).map D.str) = v) : (sp_senders.g S [z, .str w, m]).wp S Q R = Q v S := by rw [hz, hm, senders_bk h hw hk hl, hv]
end
end DL

namespace DL
open PySem L2
/-! ### texts of books -/
theorem asc_uniq : ∀ {l m : List (List Nat)}, Asc l → Asc m → (∀ y, y ∈ l ↔ y ∈ m) → l = m
  | [], [], _, _, _ => rfl
  | [], b :: m, _, _, h => by cases (h b).mpr List.mem_cons_self
  | a :: l, [], _, _, h => by cases (h a).mp List.mem_cons_self
  | a :: l, b :: m, h1, h2, h => by
    have h1' := List.pairwise_cons.mp h1
    have h2' := List.pairwise_cons.mp h2
    have e : a = b := by
      rcases List.mem_cons.mp ((h a).mp List.mem_cons_self) with g | g
      · exact g
      · rcases List.mem_cons.mp ((h b).mpr List.mem_cons_self) with k | k
        · exact k.symm
        · have := ltL_trans (h1'.1 b k) (h2'.1 a g)
          rw [ltL_irr] at this
          cases this
    subst e
    have : l = m := asc_uniq h1'.2 h2'.2 fun y => by
      have hy := h y
      constructor
      · intro g
        rcases List.mem_cons.mp (hy.mp (List.mem_cons_of_mem _ g)) with rfl | k
        · have := h1'.1 _ g
          rw [ltL_irr] at this
          cases this
        · exact k
      · intro g
        rcases List.mem_cons.mp (hy.mpr (List.mem_cons_of_mem _ g)) with rfl | k
        · have := h2'.1 _ g
          rw [ltL_irr] at this
          cases this
        · exact k
    rw [this]
theorem sset_self {l : List (List Nat)} : l = ssetD l ↔ ascB l = true :=
  ⟨fun h => ascB_iff.mpr (by rw [h]; exact ssetD_asc l), fun h => asc_uniq (ascB_iff.mp h) (ssetD_asc l) fun y => ssetD_mem.symm⟩
def textW (s : Int) (l : List (List Nat)) : List Nat := joinD [32] (intStr s :: (if l = [] then [[45]] else l))
def readR (c : Nat) (r : List (List Nat)) : Option (Int × List (List Nat)) :=
  if (if r = [[45]] then [] else r).length ≤ 40 ∧ bkL ((c : Int) - 48) (if r = [[45]] then [] else r) = true then some ((c : Int) - 48, if r = [[45]] then [] else r) else none
def readL : List (List Nat) → Option (Int × List (List Nat))
  | [c] :: x :: r => if c = 50 ∨ c = 51 ∨ c = 52 then readR c (x :: r) else none
  | _ => none
def readW (t : List Nat) : Option (Int × List (List Nat)) := readL (splD 32 [] t)
def optB : Option (Int × List (List Nat)) → D
  | some p => bkD p.1 p.2
  | none => .non
def sp_text_of : DSp := sp1 fun S b => .pre (isBk b = true) (.ret (.str (textW (bkS b) (bkW b))))
def sp__law_text : DSp := sp1 fun S b => .pre (isBk b = true) (.ret (.str (textW (bkS b) (bkW b))))
def sp_book_text : DSp := sp1 fun S b => .pre (dok 60 b = true) (if isBk b = true then .ret (.str (textW (bkS b) (bkW b))) else .err ⟨4, none⟩)
def sp_read_book : DSp := sp1 fun S v => match v with
  | .str t => .pre (t.length ≤ 100000) (match readW t with | some p => .ret (bkD p.1 p.2) | none => .err ⟨9, none⟩)
  | v => .pre (∃ n, tyD S v = some n ∧ n ≠ .str) (.err ⟨9, none⟩)
def sp__law_read : DSp := sp1 fun S v => match v with
  | .str t => .pre (t.length ≤ 100000) (.ret (optB (readW t)))
  | _ => .no
def sp__law_spoilt : DSp := sp2 fun S d t => match d, t with
  | .obj a, .str t => .pre (S a = some .drum ∧ t.length ≤ 10000) (.any fun z => ∃ w, z = .str w ∧ w.length ≤ 2 * t.length + 2)
  | _, _ => .no
def u_text_of : DS := sRt (dMs opJoin (dC (.str [32])) (aC (dB opAdd (dLst (aC (dCB opStr (aC (dB opIx (dV 0) (dC (.int 0))) (aN))) (aN))) (dIfE (dT (dB opNe (dB opIx (dV 0) (dC (.int 1))) (dTup (aN)))) (dCB opList (aC (dB opIx (dV 0) (dC (.int 1))) (aN))) (dLst (aC (dC (.str [45])) (aN))))) (aN)))
def u__law_text : DS := sRt (dB opAdd (dB opAdd (dCB opStr (aC (dB opIx (dV 0) (dC (.int 0))) (aN))) (dC (.str [32]))) (dIfE (dT (dB opNe (dB opIx (dV 0) (dC (.int 1))) (dTup (aN)))) (dMs opJoin (dC (.str [32])) (aC (dB opIx (dV 0) (dC (.int 1))) (aN))) (dC (.str [45]))))
def u_book_text : DS := sC (sX (dCall sp_need_book (aC (dV 0) (aN)))) (sRt (dCall sp_text_of (aC (dV 0) (aN))))
def u_read_book : DS := sC (sIf (dNot (dTr (dIsi .str (dV 0)))) (sRs 9) (sN)) (sC (sAs (dMs opSplit (dV 0) (aC (dC (.str [32])) (aN))) (gN 1)) (sC (sIf (dOr (dT (dB opNi (dB opIx (dV 1) (dC (.int 0))) (dLst (aC (dC (.str [50])) (aC (dC (.str [51])) (aC (dC (.str [52])) (aN))))))) (dT (dB opLt (dCB opLen (aC (dV 1) (aN))) (dC (.int 2))))) (sRs 9) (sN)) (sC (sAs (dTup (aC (dCB opInt (aC (dB opIx (dV 1) (dC (.int 0))) (aN))) (aC (dIfE (dT (dB opEq (dSl (dV 1) (oS (dC (.int 1))) (oN)) (dLst (aC (dC (.str [45])) (aN))))) (dTup (aN)) (dCB opTup (aC (dSl (dV 1) (oS (dC (.int 1))) (oN)) (aN)))) (aN)))) (gN 2)) (sC (sIf (dNot (dTr (dCall sp_fits_book (aC (dV 2) (aN))))) (sRs 9) (sN)) (sRt (dV 2))))))
def b1_law_read : DS := sC (sIf (dT (dB opNe (dCB opLen (aC (dV 2) (aN))) (dCB opLen (aC (dB opIx (dV 1) (dC (.int 1))) (aN))))) (sRt (dC .non)) (sN)) (sIf (dT (dB opNe (dLc (lAny (dV 2)) (gN 3) (dT (dB opNi (dV 3) (dCB opList (aC (dSl (dC (.str [48, 49, 50, 51])) (oN) (oS (dCB opInt (aC (dB opIx (dV 1) (dC (.int 0))) (aN))))) (aN))))) (dV 3) [3]) (dLst (aN)))) (sRt (dC .non)) (sN))
def u__law_read : DS := sC (sAs (dMs opSplit (dV 0) (aC (dC (.str [32])) (aN))) (gN 1)) (sC (sIf (dOr (dT (dB opNi (dB opIx (dV 1) (dC (.int 0))) (dLst (aC (dC (.str [50])) (aC (dC (.str [51])) (aC (dC (.str [52])) (aN))))))) (dOr (dT (dB opLt (dCB opLen (aC (dV 1) (aN))) (dC (.int 2)))) (dT (dB opGt (dCB opLen (aC (dV 1) (aN))) (dC (.int 41)))))) (sRt (dC .non)) (sN)) (sC (sIf (dT (dB opEq (dSl (dV 1) (oS (dC (.int 1))) (oN)) (dLst (aC (dC (.str [45])) (aN))))) (sRt (dTup (aC (dCB opInt (aC (dB opIx (dV 1) (dC (.int 0))) (aN))) (aC (dTup (aN)) (aN))))) (sN)) (sC (sIf (dOr (dT (dB opLt (dCB opLen (aC (dB opIx (dV 1) (dC (.int 1))) (aN))) (dC (.int 1)))) (dOr (dT (dB opGt (dCB opLen (aC (dB opIx (dV 1) (dC (.int 1))) (aN))) (dC (.int 12)))) (dT (dB opNe (dSl (dV 1) (oS (dC (.int 1))) (oN)) (dU opSset (dSl (dV 1) (oS (dC (.int 1))) (oN))))))) (sRt (dC .non)) (sN)) (sC (dFor (lAny (dSl (dV 1) (oS (dC (.int 1))) (oN))) (gN 2) (b1_law_read)) (sRt (dTup (aC (dCB opInt (aC (dB opIx (dV 1) (dC (.int 0))) (aN))) (aC (dCB opTup (aC (dSl (dV 1) (oS (dC (.int 1))) (oN)) (aN))) (aN)))))))))
def u__law_spoilt : DS := sC (sPar 4 5 (aC (dCall sp__law_roll (aC (dV 0) (aC (dB opAdd (dCB opLen (aC (dV 1) (aN))) (dC (.int 1))) (aN)))) (aC (dCall sp__law_roll (aC (dV 0) (aC (dC (.int 5)) (aN)))) (aN)))) (sC (sIf (dT (dB opEq (dV 5) (dC (.int 0)))) (sRt (dB opAdd (dB opAdd (dSl (dV 1) (oN) (oS (dV 4))) (dCall sp__law_some (aC (dV 0) (aC (dLst (aC (dC (.str [32])) (aC (dC (.str [48])) (aC (dC (.str [49])) (aC (dC (.str [51])) (aC (dC (.str [52])) (aC (dC (.str [45])) (aC (dC (.str [10])) (aC (dC (.str [97])) (aN)))))))))) (aN))))) (dSl (dV 1) (oS (dV 4)) (oN)))) (sN)) (sC (sIf (dT (dB opEq (dV 5) (dC (.int 1)))) (sRt (dB opAdd (dSl (dV 1) (oN) (oS (dV 4))) (dSl (dV 1) (oS (dB opAdd (dV 4) (dC (.int 1)))) (oN)))) (sN)) (sC (sIf (dT (dB opEq (dV 5) (dC (.int 2)))) (sRt (dB opAdd (dB opAdd (dSl (dV 1) (oN) (oS (dV 4))) (dCall sp__law_some (aC (dV 0) (aC (dLst (aC (dC (.str [48])) (aC (dC (.str [50])) (aC (dC (.str [52])) (aC (dC (.str [32])) (aN)))))) (aN))))) (dSl (dV 1) (oS (dB opAdd (dV 4) (dC (.int 1)))) (oN)))) (sN)) (sC (sAs (dMs opSplit (dV 1) (aC (dC (.str [32])) (aN))) (gN 2)) (sC (sAs (dCall sp__law_roll (aC (dV 0) (aC (dCB opLen (aC (dV 2) (aN))) (aN)))) (gN 3)) (sC (sIf (dT (dB opEq (dV 5) (dC (.int 3)))) (sRt (dMs opJoin (dC (.str [32])) (aC (dB opAdd (dSl (dV 2) (oN) (oS (dV 3))) (dSl (dV 2) (oS (dB opAdd (dV 3) (dC (.int 1)))) (oN))) (aN)))) (sN)) (sRt (dMs opJoin (dC (.str [32])) (aC (dRev (dV 2)) (aN))))))))))
theorem join_cons (a : List Nat) {l : List (List Nat)} (h : l ≠ []) : joinD [32] (a :: l) = a ++ ([32] ++ joinD [32] l) := by
  cases l with
  | nil => exact absurd rfl h
  | cons b r => rfl
theorem bk_sum {s : Int} {l : List (List Nat)} (h : bkL s l = true) : (l.map (·.length)).sum ≤ 12 * l.length := by
  have := bk_len h
  generalize l.getD 0 [] = z at this
  clear h
  induction l with
  | nil => exact Nat.zero_le _
  | cons w r ih =>
    have h1 := (this w List.mem_cons_self).2
    have h2 := ih fun w hw => this w (List.mem_cons_of_mem _ hw)
    rw [List.map_cons, List.sum_cons, List.length_cons]
    omega
theorem intStr_len {s : Int} (h2 : 2 ≤ s) (h4 : s ≤ 4) : (intStr s).length = 1 := by
  have : s = 2 ∨ s = 3 ∨ s = 4 := by omega
  rcases this with rfl | rfl | rfl <;> decide +kernel
theorem d_text_of {ds : List D} {S : Sto} {Q : DK} {R : RK} (h : (sp_text_of.g S ds).wp S Q R) : u_text_of (dStart 1 ds) S (endF Q R) := by
  have hh := sp1_inv h
  clear h
  obtain ⟨b, rfl, hb, h⟩ := hh
  obtain ⟨s, l, rfl, h2, h4, hl, hk, hw⟩ := isBk_inv hb
  replace h : Q (.str (textW s (bkW (.tup [.int s, .tup (l.map D.str)])))) S := h
  rw [hw] at h
  unfold textW at h
  show u_text_of [some _] S _
  have hsum := bk_sum hk
  have hi := intStr_len h2 h4
  simp only [u_text_of, sC, sIf, sRt, sAs, sX, sN, sRtN, sRs, sBk, sPar, sPar3, sSub, DEnds.seq, DEnds.loop, endF, dAnd, dOr, dNot, dT, dTr, tru, dB, dCh, dC, dIsi, tyD_non, tyD_bl, tyD_int, tyD_str, tyD_tup, tyD_lst, isTN, dAndV, dOrV, dNotV, dIfE, aN, aC, dTup, dLst, dLstM, dCall, dCB, dU, dSl, slD, oN, oS, gN, gT, gsC, gsN, lAny, lRng1, lRng2, lZip, itemsOf, lstOf, seqOf, dLc, wipeD, bYes, dFor, dApp, dMs, dErr, dRev, revD, dNotT, lEnum, lZip3, dCallV, opAddX, opSubX, opStrX, opAdd, opSub, opMod, opDiv, opPow, opMul, opLt, opGt, opLe, opGe, opEq, opNe, opIn, opNi, opInB, opIs, opIsn, opIsB, isNon, opNeg, opIx, opAll, opSum, opMin, opMax, opInt, opLen, opTup, opList, opBool, opJoin, eqD_int, eqD_str, eqD_bl, eqD_non, eqD_tup, eqD_lst, eqD_tup0, eqD_lst0, der_int, der_str, der_bl, der_non, der_tup, der_lst, eqOk_int, eqOk_str, PR.wp, RS.wp, sp0, sp1, sp2, sp3, sp4, dV, List.getElem?_cons_zero, List.getElem?_cons_succ, List.getElem?_nil, List.set_cons_zero, List.set_cons_succ, List.length_cons, List.length_nil, Option.some.injEq, true_and, and_true, Bool.not_true, Bool.not_false, bkD_hd, bkD_tl]
  refine ⟨⟨by omega, by omega⟩, by decide, Nat.zero_le _, eqOk_strs0, ?_⟩
  cases l with
  | nil =>
    have e : sts [D.str (intStr s), .str [45]] = some [intStr s, [45]] := sts_of (l := [intStr s, [45]])
    refine ⟨by decide, Nat.le_of_ble_eq_true rfl, ?_⟩
    simp only [List.cons_append, List.nil_append, e]
    exact ⟨by simp only [List.map_cons, List.map_nil, List.sum_cons, List.sum_nil, hi, List.length_cons, List.length_nil]; omega, h⟩
  | cons w r =>
    have e : sts (D.str (intStr s) :: (w :: r).map D.str) = some (intStr s :: w :: r) := sts_of (l := intStr s :: w :: r)
    refine ⟨?_, ?_⟩
    · rw [List.length_map]; simp only [List.length_cons, List.length_nil] at hl ⊢; omega
    · simp only [List.cons_append, List.nil_append, e]
      refine ⟨?_, h⟩
      simp only [List.map_cons, List.sum_cons, List.length_cons, hi] at hsum hl ⊢
      omega
theorem d__law_text {ds : List D} {S : Sto} {Q : DK} {R : RK} (h : (sp__law_text.g S ds).wp S Q R) : u__law_text (dStart 1 ds) S (endF Q R) := by
  have hh := sp1_inv h
  clear h
  obtain ⟨b, rfl, hb, h⟩ := hh
  obtain ⟨s, l, rfl, h2, h4, hl, hk, hw⟩ := isBk_inv hb
  replace h : Q (.str (textW s (bkW (.tup [.int s, .tup (l.map D.str)])))) S := h
  rw [hw] at h
  unfold textW at h
  show u__law_text [some _] S _
  have hsum := bk_sum hk
  have hi := intStr_len h2 h4
  simp only [u__law_text, sC, sIf, sRt, sAs, sX, sN, sRtN, sRs, sBk, sPar, sPar3, sSub, DEnds.seq, DEnds.loop, endF, dAnd, dOr, dNot, dT, dTr, tru, dB, dCh, dC, dIsi, tyD_non, tyD_bl, tyD_int, tyD_str, tyD_tup, tyD_lst, isTN, dAndV, dOrV, dNotV, dIfE, aN, aC, dTup, dLst, dLstM, dCall, dCB, dU, dSl, slD, oN, oS, gN, gT, gsC, gsN, lAny, lRng1, lRng2, lZip, itemsOf, lstOf, seqOf, dLc, wipeD, bYes, dFor, dApp, dMs, dErr, dRev, revD, dNotT, lEnum, lZip3, dCallV, opAddX, opSubX, opStrX, opAdd, opSub, opMod, opDiv, opPow, opMul, opLt, opGt, opLe, opGe, opEq, opNe, opIn, opNi, opInB, opIs, opIsn, opIsB, isNon, opNeg, opIx, opAll, opSum, opMin, opMax, opInt, opLen, opTup, opList, opBool, opJoin, eqD_int, eqD_str, eqD_bl, eqD_non, eqD_tup, eqD_lst, eqD_tup0, eqD_lst0, der_int, der_str, der_bl, der_non, der_tup, der_lst, eqOk_int, eqOk_str, PR.wp, RS.wp, sp0, sp1, sp2, sp3, sp4, dV, List.getElem?_cons_zero, List.getElem?_cons_succ, List.getElem?_nil, List.set_cons_zero, List.set_cons_succ, List.length_cons, List.length_nil, Option.some.injEq, true_and, and_true, Bool.not_true, Bool.not_false, bkD_hd, bkD_tl]
  refine ⟨⟨by omega, by omega⟩, by rw [hi]; decide, Nat.zero_le _, eqOk_strs0, ?_⟩
  cases l with
  | nil => exact ⟨by rw [List.length_append, hi]; decide, by rw [List.append_assoc]; exact h⟩
  | cons w r =>
    have e : sts ((w :: r).map D.str) = some (w :: r) := sts_of (l := w :: r)
    have e1 : eqD (.tup ((w :: r).map D.str)) (.tup []) = false := rfl
    rw [if_neg (by simp), join_cons _ (by simp)] at h
    simp only [List.map_cons, List.sum_cons, List.length_cons] at hsum hl
    rw [e1, e]
    refine ⟨?_, ?_, ?_⟩
    · simp only [List.map_cons, List.sum_cons, List.length_cons]; omega
    · have := joinD_len (s := [32]) (w :: r)
      simp only [List.map_cons, List.sum_cons, List.length_cons, List.length_nil, List.length_append, hi] at this ⊢
      omega
    · rw [List.append_assoc]; exact h
theorem d_book_text {ds : List D} {S : Sto} {Q : DK} {R : RK} (h : (sp_book_text.g S ds).wp S Q R) : u_book_text (dStart 1 ds) S (endF Q R) := by
  have hh := sp1_inv h
  clear h
  obtain ⟨b, rfl, hb, h⟩ := hh
  replace h : (if isBk b = true then RS.ret (.str (textW (bkS b) (bkW b))) else .err ⟨4, none⟩).wp S Q R := h
  show u_book_text [some b] S _
  simp only [u_book_text, sC, sIf, sRt, sAs, sX, sN, sRtN, sRs, sBk, sPar, sPar3, sSub, DEnds.seq, DEnds.loop, endF, dAnd, dOr, dNot, dT, dTr, tru, dB, dCh, dC, dIsi, tyD_non, tyD_bl, tyD_int, tyD_str, tyD_tup, tyD_lst, isTN, dAndV, dOrV, dNotV, dIfE, aN, aC, dTup, dLst, dLstM, dCall, dCB, dU, dSl, slD, oN, oS, gN, gT, gsC, gsN, lAny, lRng1, lRng2, lZip, itemsOf, lstOf, seqOf, dLc, wipeD, bYes, dFor, dApp, dMs, dErr, dRev, revD, dNotT, lEnum, lZip3, dCallV, opAddX, opSubX, opStrX, opAdd, opSub, opMod, opDiv, opPow, opMul, opLt, opGt, opLe, opGe, opEq, opNe, opIn, opNi, opInB, opIs, opIsn, opIsB, isNon, opNeg, opIx, opAll, opSum, opMin, opMax, opInt, opLen, opTup, opList, opBool, opJoin, eqD_int, eqD_str, eqD_bl, eqD_non, eqD_tup, eqD_lst, eqD_tup0, eqD_lst0, der_int, der_str, der_bl, der_non, der_tup, der_lst, eqOk_int, eqOk_str, PR.wp, RS.wp, sp0, sp1, sp2, sp3, sp4, dV, List.getElem?_cons_zero, List.getElem?_cons_succ, List.getElem?_nil, List.set_cons_zero, List.set_cons_succ, List.length_cons, List.length_nil, Option.some.injEq, true_and, and_true, Bool.not_true, Bool.not_false, sp_need_book, sp_text_of]
  refine ⟨hb, ?_⟩
  cases e : isBk b with
  | false => rw [e] at h; exact h
  | true => rw [e] at h; exact ⟨rfl, h⟩
theorem splD_ne (c : Nat) : ∀ (l acc : List Nat), splD c acc l ≠ []
  | [], _ => by intro h; cases h
  | d :: r, acc => by
    show (if d = c then acc :: splD c [] r else splD c (acc ++ [d]) r) ≠ []
    by_cases h : d = c
    · rw [if_pos h]; intro z; cases z
    · rw [if_neg h]; exact splD_ne c r _
theorem splD_sum (c : Nat) : ∀ (l acc : List Nat), ((splD c acc l).map (·.length)).sum + (splD c acc l).length = acc.length + l.length + 1
  | [], acc => by show ([acc].map (·.length)).sum + 1 = _; simp
  | d :: r, acc => by
    have e : splD c acc (d :: r) = if d = c then acc :: splD c [] r else splD c (acc ++ [d]) r := rfl
    rw [e]
    by_cases h : d = c
    · rw [if_pos h, List.map_cons, List.sum_cons, List.length_cons]
      have := splD_sum c r []
      simp only [List.length_nil, List.length_cons] at this ⊢
      omega
    · rw [if_neg h]
      have := splD_sum c r (acc ++ [d])
      rw [List.length_append] at this
      simp only [List.length_cons, List.length_nil] at this ⊢
      omega
theorem spl_small {t : List Nat} (h : t.length ≤ 100000) : (splD 32 [] t).length ≤ 100001 := by
  have := splD_sum 32 t []
  simp only [List.length_nil] at this
  omega
theorem eqD_strs2 : ∀ l m : List (List Nat), eqD (.lst (l.map D.str)) (.lst (m.map D.str)) = decide (l = m)
  | [], [] => rfl
  | [], b :: m => by rw [decide_eq_false (by intro h; cases h)]; rfl
  | a :: l, [] => by rw [decide_eq_false (by intro h; cases h)]; rfl
  | a :: l, b :: m => by
    rw [List.map_cons, List.map_cons, eqD_lst, eqD_str, eqD_strs2 l m, ← Bool.decide_and]
    congr 1
    rw [List.cons.injEq]
theorem cut_tl {α : Type} {x : α} {r : List α} : cut (x :: r) (some 1) none = r := by
  have e1 : HT.sIx (x :: r).length 0 (some 1) = 1 := by
    unfold HT.sIx
    simp
  have e2 : HT.sIx (x :: r).length (x :: r).length none = (x :: r).length := rfl
  unfold cut
  rw [e1, e2, List.drop_one, List.tail_cons, List.length_cons, Nat.add_sub_cancel, List.take_length]
theorem any3 (w : List Nat) : ([D.str [50], .str [51], .str [52]].any fun d => eqD d (.str w)) = decide (w = [50] ∨ w = [51] ∨ w = [52]) := by
  simp only [List.any_cons, List.any_nil, eqD_str, Bool.or_false]
  rw [← Bool.decide_or, ← Bool.decide_or]
  congr 1
  simp only [eq_comm]
theorem readL_not {w : List Nat} {r : List (List Nat)} (h : ¬(w = [50] ∨ w = [51] ∨ w = [52])) : readL (w :: r) = none := by
  match w, r with
  | [c], x :: r =>
    show (if c = 50 ∨ c = 51 ∨ c = 52 then readR c (x :: r) else none) = none
    rw [if_neg]
    intro g
    apply h
    rcases g with rfl | rfl | rfl
    · exact .inl rfl
    · exact .inr (.inl rfl)
    · exact .inr (.inr rfl)
  | [], _ => rfl
  | [c], [] => rfl
  | a :: b :: c, _ => rfl
theorem isBk_read {c : Nat} (hc : c = 50 ∨ c = 51 ∨ c = 52) (l : List (List Nat)) : isBk (bkD ((c : Int) - 48) l) = decide (l.length ≤ 40 ∧ bkL ((c : Int) - 48) l = true) := by
  unfold bkD
  rw [isBk_tup sts_of, List.length_map, decide_eq_true (show 2 ≤ (c : Int) - 48 by omega), decide_eq_true (show (c : Int) - 48 ≤ 4 by omega), Bool.decide_and]
  simp
theorem read_end {c : Nat} (hc : c = 50 ∨ c = 51 ∨ c = 52) (l : List (List Nat)) {S : Sto} {Q : DK} {R : RK}
    (h : (match (if l.length ≤ 40 ∧ bkL ((c : Int) - 48) l = true then some ((c : Int) - 48, l) else none) with | some p => RS.ret (bkD p.1 p.2) | none => .err ⟨9, none⟩).wp S Q R) :
    dok 60 (bkD ((c : Int) - 48) l) = true ∧ (match !isBk (bkD ((c : Int) - 48) l) with | true => R ⟨9, none⟩ S | false => Q (bkD ((c : Int) - 48) l) S) := by
  refine ⟨bkD_dok, ?_⟩
  rw [isBk_read hc]
  by_cases g : l.length ≤ 40 ∧ bkL ((c : Int) - 48) l = true
  · rw [if_pos g] at h
    rw [decide_eq_true g]
    exact h
  · rw [if_neg g] at h
    rw [decide_eq_false g]
    exact h
theorem d_read_book {ds : List D} {S : Sto} {Q : DK} {R : RK} (h : (sp_read_book.g S ds).wp S Q R) : u_read_book (dStart 3 ds) S (endF Q R) := by
  have hh := sp1_inv h
  clear h
  obtain ⟨b, rfl, h⟩ := hh
  show u_read_book [some b, none, none] S _
  have other : (∃ n, tyD S b = some n ∧ n ≠ .str) ∧ R ⟨9, none⟩ S → u_read_book [some b, none, none] S (endF Q R) := by
    rintro ⟨⟨n, hn, h1⟩, h⟩
    simp only [u_read_book, sC, sIf, sRt, sAs, sX, sN, sRtN, sRs, sBk, sPar, sPar3, sSub, DEnds.seq, DEnds.loop, endF, dAnd, dOr, dNot, dT, dTr, tru, dB, dCh, dC, dIsi, tyD_non, tyD_bl, tyD_int, tyD_str, tyD_tup, tyD_lst, isTN, dAndV, dOrV, dNotV, dIfE, aN, aC, dTup, dLst, dLstM, dCall, dCB, dU, dSl, slD, oN, oS, gN, gT, gsC, gsN, lAny, lRng1, lRng2, lZip, itemsOf, lstOf, seqOf, dLc, wipeD, bYes, dFor, dApp, dMs, dErr, dRev, revD, dNotT, lEnum, lZip3, dCallV, opAddX, opSubX, opStrX, opAdd, opSub, opMod, opDiv, opPow, opMul, opLt, opGt, opLe, opGe, opEq, opNe, opIn, opNi, opInB, opIs, opIsn, opIsB, isNon, opNeg, opIx, opAll, opSum, opMin, opMax, opInt, opLen, opTup, opList, opBool, opJoin, eqD_int, eqD_str, eqD_bl, eqD_non, eqD_tup, eqD_lst, eqD_tup0, eqD_lst0, der_int, der_str, der_bl, der_non, der_tup, der_lst, eqOk_int, eqOk_str, PR.wp, RS.wp, sp0, sp1, sp2, sp3, sp4, dV, List.getElem?_cons_zero, List.getElem?_cons_succ, List.getElem?_nil, List.set_cons_zero, List.set_cons_succ, List.length_cons, List.length_nil, Option.some.injEq, true_and, and_true, Bool.not_true, Bool.not_false, hn]
    cases n <;> first | exact h | exact absurd rfl h1
  cases b with
  | str t =>
    replace h : t.length ≤ 100000 ∧ (match readW t with | some p => RS.ret (bkD p.1 p.2) | none => .err ⟨9, none⟩).wp S Q R := h
    obtain ⟨ht, h⟩ := h
    unfold readW at h
    have hs := spl_small ht
    clear other
    cases e : splD 32 [] t with
    | nil => exact absurd e (splD_ne _ _ _)
    | cons w r =>
      rw [e] at h hs
      have e0 : atI ((w :: r).map D.str) (0 : Int) = some (.str w) := atI_nat (xs := (w :: r).map D.str) (i := 0) (by simp)
      simp only [u_read_book, opSplit, sC, sIf, sRt, sAs, sX, sN, sRtN, sRs, sBk, sPar, sPar3, sSub, DEnds.seq, DEnds.loop, endF, dAnd, dOr, dNot, dT, dTr, tru, dB, dCh, dC, dIsi, tyD_non, tyD_bl, tyD_int, tyD_str, tyD_tup, tyD_lst, isTN, dAndV, dOrV, dNotV, dIfE, aN, aC, dTup, dLst, dLstM, dCall, dCB, dU, dSl, slD, oN, oS, gN, gT, gsC, gsN, lAny, lRng1, lRng2, lZip, itemsOf, lstOf, seqOf, dLc, wipeD, bYes, dFor, dApp, dMs, dErr, dRev, revD, dNotT, lEnum, lZip3, dCallV, opAddX, opSubX, opStrX, opAdd, opSub, opMod, opDiv, opPow, opMul, opLt, opGt, opLe, opGe, opEq, opNe, opIn, opNi, opInB, opIs, opIsn, opIsB, isNon, opNeg, opIx, opAll, opSum, opMin, opMax, opInt, opLen, opTup, opList, opBool, opJoin, eqD_int, eqD_str, eqD_bl, eqD_non, eqD_tup, eqD_lst, eqD_tup0, eqD_lst0, der_int, der_str, der_bl, der_non, der_tup, der_lst, eqOk_int, eqOk_str, PR.wp, RS.wp, sp0, sp1, sp2, sp3, sp4, dV, List.getElem?_cons_zero, List.getElem?_cons_succ, List.getElem?_nil, List.set_cons_zero, List.set_cons_succ, List.length_cons, List.length_nil, Option.some.injEq, true_and, and_true, Bool.not_true, Bool.not_false, e, e0, any3]
      refine ⟨⟨by omega, by omega⟩, ?_⟩
      refine ⟨by decide, ⟨rfl, rfl⟩, ?_⟩
      by_cases hw : w = [50] ∨ w = [51] ∨ w = [52]
      · rw [decide_eq_true hw]
        obtain ⟨c, rfl, hc⟩ : ∃ c, w = [c] ∧ (c = 50 ∨ c = 51 ∨ c = 52) := by
          rcases hw with rfl | rfl | rfl
          · exact ⟨_, rfl, .inl rfl⟩
          · exact ⟨_, rfl, .inr (.inl rfl)⟩
          · exact ⟨_, rfl, .inr (.inr rfl)⟩
        cases r with
        | nil => exact h
        | cons x r =>
          have h : (match readR c (x :: r) with | some p => RS.ret (bkD p.1 p.2) | none => .err ⟨9, none⟩).wp S Q R := by
            have e9 : readL ([c] :: x :: r) = readR c (x :: r) := if_pos hc
            rwa [e9] at h
          have ecut : cut (([c] :: x :: r).map D.str) (some 1) none = (x :: r).map D.str := cut_tl
          simp only [List.map_cons] at ecut
          simp only [ecut, List.map_cons, sC, sIf, sRt, sAs, sX, sN, sRtN, sRs, sBk, sPar, sPar3, sSub, DEnds.seq, DEnds.loop, endF, dAnd, dOr, dNot, dT, dTr, tru, dB, dCh, dC, dIsi, tyD_non, tyD_bl, tyD_int, tyD_str, tyD_tup, tyD_lst, isTN, dAndV, dOrV, dNotV, dIfE, aN, aC, dTup, dLst, dLstM, dCall, dCB, dU, dSl, slD, oN, oS, gN, gT, gsC, gsN, lAny, lRng1, lRng2, lZip, itemsOf, lstOf, seqOf, dLc, wipeD, bYes, dFor, dApp, dMs, dErr, dRev, revD, dNotT, lEnum, lZip3, dCallV, opAddX, opSubX, opStrX, opAdd, opSub, opMod, opDiv, opPow, opMul, opLt, opGt, opLe, opGe, opEq, opNe, opIn, opNi, opInB, opIs, opIsn, opIsB, isNon, opNeg, opIx, opAll, opSum, opMin, opMax, opInt, opLen, opTup, opList, opBool, opJoin, eqD_int, eqD_str, eqD_bl, eqD_non, eqD_tup, eqD_lst, eqD_tup0, eqD_lst0, der_int, der_str, der_bl, der_non, der_tup, der_lst, eqOk_int, eqOk_str, PR.wp, RS.wp, sp0, sp1, sp2, sp3, sp4, dV, List.getElem?_cons_zero, List.getElem?_cons_succ, List.getElem?_nil, List.set_cons_zero, List.set_cons_succ, List.length_cons, List.length_nil, Option.some.injEq, true_and, and_true, Bool.not_true, Bool.not_false, sp_fits_book]
          have ex : (decide (x = [45]) && eqD (D.lst (r.map D.str)) (D.lst [])) = decide (x :: r = [[45]]) := by
            rw [show eqD (D.lst (r.map D.str)) (D.lst []) = decide (r = []) from eqD_strs2 r [], ← Bool.decide_and]
            congr 1
            rw [List.cons.injEq]
          rw [ex, decide_eq_false (by simp only [List.length_map]; omega)]
          refine ⟨by omega, by decide, eqOk_strs (l := x :: r) (m := [[45]]), ?_⟩
          unfold readR at h
          by_cases hx : x :: r = [[45]]
          · simp only [if_pos hx] at h
            rw [decide_eq_true hx]
            exact ⟨Nat.zero_le _, by decide, read_end hc [] h⟩
          · simp only [if_neg hx] at h
            rw [decide_eq_false hx]
            exact ⟨by decide, read_end hc (x :: r) h⟩
      · rw [decide_eq_false hw]
        rw [readL_not hw] at h
        exact h
  | _ => exact other h
theorem bkL_iff {s : Int} {x : List Nat} {r : List (List Nat)} : bkL s (x :: r) = true ↔ (1 ≤ x.length ∧ x.length ≤ 12) ∧ ascB (x :: r) = true ∧ ∀ w ∈ x :: r, w.length = x.length ∧ ∀ c ∈ w, c ∈ figs s := by
  unfold bkL isWd
  rw [Bool.and_eq_true, Bool.and_eq_true, List.all_eq_true, List.all_eq_true]
  have e : ((x :: r).getD 0 []).length = x.length := rfl
  rw [e]
  constructor
  · rintro ⟨⟨h1, h2⟩, h3⟩
    have a1 := h1 x List.mem_cons_self
    have a2 := h2 x List.mem_cons_self
    rw [Bool.and_eq_true, Bool.and_eq_true] at a1
    rw [Bool.and_eq_true] at a2
    refine ⟨⟨of_decide_eq_true a1.1.1, of_decide_eq_true a2.2⟩, h3, fun w hw => ?_⟩
    have b1 := h1 w hw
    have b2 := h2 w hw
    rw [Bool.and_eq_true, List.all_eq_true] at b1
    rw [Bool.and_eq_true] at b2
    exact ⟨of_decide_eq_true b2.1, fun c hc => of_decide_eq_true (b1.2 c hc)⟩
  · rintro ⟨⟨h1, h2⟩, h3, h4⟩
    refine ⟨⟨fun w hw => ?_, fun w hw => ?_⟩, h3⟩
    · obtain ⟨g1, g2⟩ := h4 w hw
      rw [Bool.and_eq_true, Bool.and_eq_true, List.all_eq_true]
      exact ⟨⟨decide_eq_true (by omega), decide_eq_true (by omega)⟩, fun c hc => decide_eq_true (g2 c hc)⟩
    · obtain ⟨g1, g2⟩ := h4 w hw
      rw [Bool.and_eq_true]
      exact ⟨decide_eq_true (by omega), decide_eq_true (by omega)⟩
theorem any_figs {s : Int} {c : Nat} : ((cut [48, 49, 50, 51] none (some s)).map fun c => D.str [c]).any (fun d => eqD d (.str [c])) = decide (c ∈ figs s) := by
  rw [List.any_map, Bool.eq_iff_iff, List.any_eq_true, decide_eq_true_iff]
  constructor
  · rintro ⟨y, hy, h⟩
    have h : eqD (.str [y]) (.str [c]) = true := h
    rw [eqD_str, decide_eq_true_iff] at h
    rw [← (List.cons.inj h).1]
    exact hy
  · intro h
    exact ⟨c, h, by show eqD (.str [c]) (.str [c]) = true; rw [eqD_str]; exact decide_eq_true rfl⟩
theorem all_figs {s : Int} : (((cut [48, 49, 50, 51] none (some s)).map fun c => D.str [c]).all flt) = true := by
  rw [List.all_map, List.all_eq_true]
  intro _ _; rfl
def okW (s : Int) (n : Nat) (w : List Nat) : Bool := decide (w.length = n) && w.all fun c => decide (c ∈ figs s)
theorem d_b1_read {t : List Nat} {c : Nat} (hc : 48 ≤ c ∧ c ≤ 57) {x w : List Nat} {r : List D} {S : Sto} {D0 : DEnds} {x3 : Option D}
    (ok : okW ((c : Int) - 48) x.length w = true → D0.nx [some (.str t), some (.lst (.str [c] :: .str x :: r)), some (.str w), x3] S)
    (no : okW ((c : Int) - 48) x.length w = false → D0.rt .non S) :
    b1_law_read [some (.str t), some (.lst (.str [c] :: .str x :: r)), some (.str w), x3] S D0 := by
  have e0 : atI (D.str [c] :: .str x :: r) (0 : Int) = some (.str [c]) := atI_nat (xs := D.str [c] :: .str x :: r) (i := 0) (by simp)
  have e1 : atI (D.str [c] :: .str x :: r) (1 : Int) = some (.str x) := atI_nat (xs := D.str [c] :: .str x :: r) (i := 1) (by simp)
  simp only [b1_law_read, sC, sIf, sRt, sAs, sX, sN, sRtN, sRs, sBk, sPar, sPar3, sSub, DEnds.seq, DEnds.loop, endF, dAnd, dOr, dNot, dT, dTr, tru, dB, dCh, dC, dIsi, tyD_non, tyD_bl, tyD_int, tyD_str, tyD_tup, tyD_lst, isTN, dAndV, dOrV, dNotV, dIfE, aN, aC, dTup, dLst, dLstM, dCall, dCB, dU, dSl, slD, oN, oS, gN, gT, gsC, gsN, lAny, lRng1, lRng2, lZip, itemsOf, lstOf, seqOf, dLc, wipeD, bYes, dFor, dApp, dMs, dErr, dRev, revD, dNotT, lEnum, lZip3, dCallV, opAddX, opSubX, opStrX, opAdd, opSub, opMod, opDiv, opPow, opMul, opLt, opGt, opLe, opGe, opEq, opNe, opIn, opNi, opInB, opIs, opIsn, opIsB, isNon, opNeg, opIx, opAll, opSum, opMin, opMax, opInt, opLen, opTup, opList, opBool, opJoin, eqD_int, eqD_str, eqD_bl, eqD_non, eqD_tup, eqD_lst, eqD_tup0, eqD_lst0, der_int, der_str, der_bl, der_non, der_tup, der_lst, eqOk_int, eqOk_str, PR.wp, RS.wp, sp0, sp1, sp2, sp3, sp4, dV, List.getElem?_cons_zero, List.getElem?_cons_succ, List.getElem?_nil, List.set_cons_zero, List.set_cons_succ, List.length_cons, List.length_nil, Option.some.injEq, true_and, and_true, Bool.not_true, Bool.not_false, e0, e1]
  unfold okW at ok no
  by_cases h : w.length = x.length
  · rw [decide_eq_true h, Bool.true_and] at ok no
    rw [decide_eq_true (show (w.length : Int) = x.length by omega)]
    simp only [Bool.not_true]
    refine lc_mf (fun c : Nat => D.str [c]) (fun y => !decide (y ∈ figs ((c : Int) - 48))) (fun c : Nat => D.str [c]) w [] (fun y hy KN KY q => ?_) ?_
    · simp only [lcStep, sC, sIf, sRt, sAs, sX, sN, sRtN, sRs, sBk, sPar, sPar3, sSub, DEnds.seq, DEnds.loop, endF, dAnd, dOr, dNot, dT, dTr, tru, dB, dCh, dC, dIsi, tyD_non, tyD_bl, tyD_int, tyD_str, tyD_tup, tyD_lst, isTN, dAndV, dOrV, dNotV, dIfE, aN, aC, dTup, dLst, dLstM, dCall, dCB, dU, dSl, slD, oN, oS, gN, gT, gsC, gsN, lAny, lRng1, lRng2, lZip, itemsOf, lstOf, seqOf, dLc, wipeD, bYes, dFor, dApp, dMs, dErr, dRev, revD, dNotT, lEnum, lZip3, dCallV, opAddX, opSubX, opStrX, opAdd, opSub, opMod, opDiv, opPow, opMul, opLt, opGt, opLe, opGe, opEq, opNe, opIn, opNi, opInB, opIs, opIsn, opIsB, isNon, opNeg, opIx, opAll, opSum, opMin, opMax, opInt, opLen, opTup, opList, opBool, opJoin, eqD_int, eqD_str, eqD_bl, eqD_non, eqD_tup, eqD_lst, eqD_tup0, eqD_lst0, der_int, der_str, der_bl, der_non, der_tup, der_lst, eqOk_int, eqOk_str, PR.wp, RS.wp, sp0, sp1, sp2, sp3, sp4, dV, List.getElem?_cons_zero, List.getElem?_cons_succ, List.getElem?_nil, List.set_cons_zero, List.set_cons_succ, List.length_cons, List.length_nil, Option.some.injEq, true_and, and_true, Bool.not_true, Bool.not_false, e0]
      refine ⟨hc, ⟨rfl, all_figs⟩, ?_⟩
      rw [any_figs]
      cases hd : decide (y ∈ figs ((c : Int) - 48)) with
      | true => rw [hd] at q; exact q
      | false => rw [hd] at q; exact q
    · rw [List.nil_append]
      have hm : ((w.filter fun y => !decide (y ∈ figs ((c : Int) - 48))).map fun c => D.str [c]) = ((w.filter fun y => !decide (y ∈ figs ((c : Int) - 48))).map fun c => [c]).map D.str := by rw [List.map_map]; rfl
      rw [hm]
      refine ⟨Nat.zero_le _, eqOk_strs (m := []), ?_⟩
      rw [show ∀ l : List (List Nat), eqD (.lst (l.map D.str)) (.lst []) = decide (l = []) from fun l => eqD_strs2 l []]
      cases ha : (w.all fun c_1 => decide (c_1 ∈ figs ((c : Int) - 48))) with
      | true =>
        have : (w.filter fun y => !decide (y ∈ figs ((c : Int) - 48))) = [] := by
          rw [List.filter_eq_nil_iff]
          intro y hy
          rw [List.all_eq_true] at ha
          rw [ha y hy]
          exact Bool.false_ne_true
        rw [this]
        exact ok ha
      | false =>
        have : ¬ (w.filter fun y => !decide (y ∈ figs ((c : Int) - 48))).map (fun c => [c]) = [] := by
          rw [List.map_eq_nil_iff, List.filter_eq_nil_iff]
          intro g
          have : (w.all fun c_1 => decide (c_1 ∈ figs ((c : Int) - 48))) = true := List.all_eq_true.mpr fun y hy => by
            have := g y hy
            cases hd : decide (y ∈ figs ((c : Int) - 48)) with
            | true => rfl
            | false => rw [hd] at this; exact absurd rfl this
          rw [ha] at this
          cases this
        rw [decide_eq_false this]
        exact no ha
  · rw [decide_eq_false h, Bool.false_and] at ok no
    rw [decide_eq_false (show ¬(w.length : Int) = x.length by omega)]
    exact no rfl
theorem d__law_read {ds : List D} {S : Sto} {Q : DK} {R : RK} (h : (sp__law_read.g S ds).wp S Q R) : u__law_read (dStart 4 ds) S (endF Q R) := by
  have hh := sp1_inv h
  clear h
  obtain ⟨b, rfl, h⟩ := hh
  cases b with
  | str t =>
    replace h : t.length ≤ 100000 ∧ Q (optB (readW t)) S := h
    obtain ⟨ht, h⟩ := h
    unfold readW at h
    have hs := spl_small ht
    show u__law_read [some (.str t), none, none, none] S _
    cases e : splD 32 [] t with
    | nil => exact absurd e (splD_ne _ _ _)
    | cons w r =>
      rw [e] at h hs
      have e0 : atI ((w :: r).map D.str) (0 : Int) = some (.str w) := atI_nat (xs := (w :: r).map D.str) (i := 0) (by simp)
      simp only [u__law_read, opSplit, sC, sIf, sRt, sAs, sX, sN, sRtN, sRs, sBk, sPar, sPar3, sSub, DEnds.seq, DEnds.loop, endF, dAnd, dOr, dNot, dT, dTr, tru, dB, dCh, dC, dIsi, tyD_non, tyD_bl, tyD_int, tyD_str, tyD_tup, tyD_lst, isTN, dAndV, dOrV, dNotV, dIfE, aN, aC, dTup, dLst, dLstM, dCall, dCB, dU, dSl, slD, oN, oS, gN, gT, gsC, gsN, lAny, lRng1, lRng2, lZip, itemsOf, lstOf, seqOf, dLc, wipeD, bYes, dFor, dApp, dMs, dErr, dRev, revD, dNotT, lEnum, lZip3, dCallV, opAddX, opSubX, opStrX, opAdd, opSub, opMod, opDiv, opPow, opMul, opLt, opGt, opLe, opGe, opEq, opNe, opIn, opNi, opInB, opIs, opIsn, opIsB, isNon, opNeg, opIx, opAll, opSum, opMin, opMax, opInt, opLen, opTup, opList, opBool, opJoin, eqD_int, eqD_str, eqD_bl, eqD_non, eqD_tup, eqD_lst, eqD_tup0, eqD_lst0, der_int, der_str, der_bl, der_non, der_tup, der_lst, eqOk_int, eqOk_str, PR.wp, RS.wp, sp0, sp1, sp2, sp3, sp4, dV, List.getElem?_cons_zero, List.getElem?_cons_succ, List.getElem?_nil, List.set_cons_zero, List.set_cons_succ, List.length_cons, List.length_nil, Option.some.injEq, true_and, and_true, Bool.not_true, Bool.not_false, e, e0, any3]
      refine ⟨⟨by omega, by omega⟩, by decide, ⟨rfl, rfl⟩, ?_⟩
      by_cases hw : w = [50] ∨ w = [51] ∨ w = [52]
      · rw [decide_eq_true hw]
        obtain ⟨c, rfl, hc⟩ : ∃ c, w = [c] ∧ (c = 50 ∨ c = 51 ∨ c = 52) := by
          rcases hw with rfl | rfl | rfl
          · exact ⟨_, rfl, .inl rfl⟩
          · exact ⟨_, rfl, .inr (.inl rfl)⟩
          · exact ⟨_, rfl, .inr (.inr rfl)⟩
        cases r with
        | nil => exact h
        | cons x r =>
          have h : Q (optB (readR c (x :: r))) S := by
            have e9 : readL ([c] :: x :: r) = readR c (x :: r) := if_pos hc
            rwa [e9] at h
          have ecut : cut (([c] :: x :: r).map D.str) (some 1) none = (x :: r).map D.str := cut_tl
          have e1 : atI (([c] :: x :: r).map D.str) (1 : Int) = some (.str x) := atI_nat (xs := ([c] :: x :: r).map D.str) (i := 1) (by simp)
          simp only [List.map_cons] at ecut e1
          have ex : (decide (x = [45]) && eqD (D.lst (r.map D.str)) (D.lst [])) = decide (x :: r = [[45]]) := by
            rw [show eqD (D.lst (r.map D.str)) (D.lst []) = decide (r = []) from eqD_strs2 r [], ← Bool.decide_and]
            congr 1
            rw [List.cons.injEq]
          simp only [ecut, e1, List.map_cons, sC, sIf, sRt, sAs, sX, sN, sRtN, sRs, sBk, sPar, sPar3, sSub, DEnds.seq, DEnds.loop, endF, dAnd, dOr, dNot, dT, dTr, tru, dB, dCh, dC, dIsi, tyD_non, tyD_bl, tyD_int, tyD_str, tyD_tup, tyD_lst, isTN, dAndV, dOrV, dNotV, dIfE, aN, aC, dTup, dLst, dLstM, dCall, dCB, dU, dSl, slD, oN, oS, gN, gT, gsC, gsN, lAny, lRng1, lRng2, lZip, itemsOf, lstOf, seqOf, dLc, wipeD, bYes, dFor, dApp, dMs, dErr, dRev, revD, dNotT, lEnum, lZip3, dCallV, opAddX, opSubX, opStrX, opAdd, opSub, opMod, opDiv, opPow, opMul, opLt, opGt, opLe, opGe, opEq, opNe, opIn, opNi, opInB, opIs, opIsn, opIsB, isNon, opNeg, opIx, opAll, opSum, opMin, opMax, opInt, opLen, opTup, opList, opBool, opJoin, eqD_int, eqD_str, eqD_bl, eqD_non, eqD_tup, eqD_lst, eqD_tup0, eqD_lst0, der_int, der_str, der_bl, der_non, der_tup, der_lst, eqOk_int, eqOk_str, PR.wp, RS.wp, sp0, sp1, sp2, sp3, sp4, dV, List.getElem?_cons_zero, List.getElem?_cons_succ, List.getElem?_nil, List.set_cons_zero, List.set_cons_succ, List.length_cons, List.length_nil, Option.some.injEq, true_and, and_true, Bool.not_true, Bool.not_false, ex]
          have hl0 : (r.map D.str).length = r.length := List.length_map _
          rw [decide_eq_false (by omega)]
          unfold readR at h
          by_cases h41 : r.length ≤ 39
          · rw [decide_eq_false (show ¬(41 : Int) < ↑((r.map D.str).length + 1 + 1) by omega)]
            refine ⟨by decide, eqOk_strs (l := x :: r) (m := [[45]]), ?_⟩
            by_cases hx : x :: r = [[45]]
            · simp only [if_pos hx] at h
              rw [decide_eq_true hx]
              rw [if_pos (show ([] : List (List Nat)).length ≤ 40 ∧ bkL ((c : Int) - 48) [] = true from ⟨by decide, rfl⟩)] at h
              exact ⟨by omega, Nat.zero_le _, by decide, h⟩
            · simp only [if_neg hx] at h
              rw [decide_eq_false hx]
              rw [List.length_cons] at h
              have hno : ¬ bkL ((c : Int) - 48) (x :: r) = true → Q .non S := fun g => by rw [if_neg (fun z => g z.2)] at h; exact h
              have hyes : bkL ((c : Int) - 48) (x :: r) = true → Q (bkD ((c : Int) - 48) (x :: r)) S := fun g => by rw [if_pos ⟨by omega, g⟩] at h; exact h
              by_cases x1 : x.length < 1
              · rw [decide_eq_true (by omega)]
                exact hno fun z => by have := (bkL_iff.mp z).1.1; omega
              rw [decide_eq_false (by omega)]
              by_cases x2 : 12 < x.length
              · rw [decide_eq_true (by omega)]
                exact hno fun z => by have := (bkL_iff.mp z).1.2; omega
              rw [decide_eq_false (by omega)]
              rw [opSset_str (l := x :: r) rfl]
              refine ⟨by rw [List.length_cons]; omega, eqOk_strs (l := x :: r), ?_⟩
              rw [show eqD (.lst (.str x :: r.map D.str)) (der S (.lst ((ssetD (x :: r)).map D.str))) = decide (x :: r = ssetD (x :: r)) from eqD_strs2 (x :: r) _]
              by_cases ha : ascB (x :: r) = true
              · rw [decide_eq_true (sset_self.mpr ha)]
                have good : (∀ w ∈ x :: r, okW ((c : Int) - 48) x.length w = true) → bkL ((c : Int) - 48) (x :: r) = true := fun g => bkL_iff.mpr ⟨⟨by omega, by omega⟩, ha, fun w hw => by
                  have := g w hw
                  unfold okW at this
                  rw [Bool.and_eq_true, List.all_eq_true] at this
                  exact ⟨of_decide_eq_true this.1, fun c hc => of_decide_eq_true (this.2 c hc)⟩⟩
                have bad : ∀ w ∈ x :: r, okW ((c : Int) - 48) x.length w = false → Q .non S := fun w hw g => hno fun z => by
                  have := (bkL_iff.mp z).2.2 w hw
                  unfold okW at g
                  rw [decide_eq_true this.1, List.all_eq_true.mpr (fun c hc => decide_eq_true (this.2 c hc))] at g
                  cases g
                simp only [List.map_cons] at e0
                show forGo _ _ ((x :: r).map D.str) _ _ _
                refine for_scan D.str (fun rest env S1 => S1 = S ∧ (∃ x2 x3, env = [some (.str t), some (.lst (.str [c] :: .str x :: r.map D.str)), x2, x3]) ∧ ((∀ w ∈ rest, okW ((c : Int) - 48) x.length w = true) → ∀ w ∈ x :: r, okW ((c : Int) - 48) x.length w = true)) ?_ ?_ ⟨rfl, ⟨_, _, rfl⟩, fun g => g⟩
                · rintro w rest env S1 hw ⟨rfl, ⟨x2, x3, rfl⟩, hg⟩ K hK
                  refine d_b1_read ⟨by omega, by omega⟩ (fun g => hK _ _ ⟨rfl, ⟨_, _, rfl⟩, fun q => hg fun y hy => ?_⟩) (fun g => bad w hw g)
                  rcases List.mem_cons.mp hy with rfl | hy
                  · exact g
                  · exact q y hy
                · rintro env S1 ⟨rfl, ⟨x2, x3, rfl⟩, hg⟩
                  have := hyes (good (hg (fun _ hy => by cases hy)))
                  simp only [sC, sIf, sRt, sAs, sX, sN, sRtN, sRs, sBk, sPar, sPar3, sSub, DEnds.seq, DEnds.loop, endF, dAnd, dOr, dNot, dT, dTr, tru, dB, dCh, dC, dIsi, tyD_non, tyD_bl, tyD_int, tyD_str, tyD_tup, tyD_lst, isTN, dAndV, dOrV, dNotV, dIfE, aN, aC, dTup, dLst, dLstM, dCall, dCB, dU, dSl, slD, oN, oS, gN, gT, gsC, gsN, lAny, lRng1, lRng2, lZip, itemsOf, lstOf, seqOf, dLc, wipeD, bYes, dFor, dApp, dMs, dErr, dRev, revD, dNotT, lEnum, lZip3, dCallV, opAddX, opSubX, opStrX, opAdd, opSub, opMod, opDiv, opPow, opMul, opLt, opGt, opLe, opGe, opEq, opNe, opIn, opNi, opInB, opIs, opIsn, opIsB, isNon, opNeg, opIx, opAll, opSum, opMin, opMax, opInt, opLen, opTup, opList, opBool, opJoin, eqD_int, eqD_str, eqD_bl, eqD_non, eqD_tup, eqD_lst, eqD_tup0, eqD_lst0, der_int, der_str, der_bl, der_non, der_tup, der_lst, eqOk_int, eqOk_str, PR.wp, RS.wp, sp0, sp1, sp2, sp3, sp4, dV, List.getElem?_cons_zero, List.getElem?_cons_succ, List.getElem?_nil, List.set_cons_zero, List.set_cons_succ, List.length_cons, List.length_nil, Option.some.injEq, true_and, and_true, Bool.not_true, Bool.not_false, e0, ecut]
                  exact ⟨⟨by omega, by omega⟩, by decide, this⟩
              · rw [decide_eq_false (fun z => ha (sset_self.mp z))]
                exact hno fun z => ha (bkL_iff.mp z).2.1
          · rw [decide_eq_true (show (41 : Int) < ↑((r.map D.str).length + 1 + 1) by omega)]
            have hx : ¬ x :: r = [[45]] := by
              intro z
              have := congrArg List.length z
              simp only [List.length_cons, List.length_nil] at this
              omega
            simp only [if_neg hx] at h
            rw [if_neg (fun z => by have := z.1; rw [List.length_cons] at this; omega)] at h
            exact h
      · rw [decide_eq_false hw]
        rw [readL_not hw] at h
        exact h
  | _ => exact h.elim
theorem spl_sum2 {t : List Nat} : ((splD 32 [] t).map (·.length)).sum + (splD 32 [] t).length = t.length + 1 := by
  have := splD_sum 32 t []
  simp only [List.length_nil] at this
  omega
theorem join_sp (l : List (List Nat)) : (joinD [32] l).length ≤ (l.map (·.length)).sum + l.length := by
  have := joinD_len (s := [32]) l
  simp only [List.length_cons, List.length_nil] at this
  omega
theorem cut_len2 {α : Type} (xs : List α) (lo hi : Option Int) : (cut xs lo hi).length ≤ xs.length := cut_len xs lo hi
theorem sum_cut (ws : List (List Nat)) (lo hi : Option Int) : ((cut ws lo hi).map (·.length)).sum ≤ (ws.map (·.length)).sum := by
  unfold cut
  have key : ∀ (l m : List (List Nat)), List.Sublist l m → (l.map (·.length)).sum ≤ (m.map (·.length)).sum := fun l m h => by
    induction h with
    | slnil => exact Nat.le_refl _
    | cons a _ ih => rw [List.map_cons, List.sum_cons]; omega
    | cons_cons a _ ih => rw [List.map_cons, List.map_cons, List.sum_cons, List.sum_cons]; omega
  exact key _ _ ((List.take_sublist _ _).trans (List.drop_sublist _ _))
theorem cut_map {α β : Type} (f : α → β) (xs : List α) (lo hi : Option Int) : cut (xs.map f) lo hi = (cut xs lo hi).map f := by
  unfold cut
  rw [List.length_map, List.map_take, List.map_drop]
theorem d__law_spoilt {ds : List D} {S : Sto} {Q : DK} {R : RK} (h : (sp__law_spoilt.g S ds).wp S Q R) : u__law_spoilt (dStart 6 ds) S (endF Q R) := by
  have hh := sp2_inv h
  clear h
  obtain ⟨d, v, rfl, h⟩ := hh
  cases d with
  | obj a =>
    cases v with
    | str t =>
      replace h : (S a = some .drum ∧ t.length ≤ 10000) ∧ ∀ z, (∃ w, z = .str w ∧ w.length ≤ 2 * t.length + 2) → Q z S := h
      obtain ⟨⟨hD, ht⟩, h⟩ := h
      have fin : ∀ w : List Nat, w.length ≤ 2 * t.length + 2 → Q (.str w) S := fun w hw => h _ ⟨w, rfl, hw⟩
      show u__law_spoilt [some (.obj a), some (.str t), none, none, none, none] S _
      have hpow : (100000 : Int) < 2 ^ 1000 := by decide
      simp only [u__law_spoilt, sC, sIf, sRt, sAs, sX, sN, sRtN, sRs, sBk, sPar, sPar3, sSub, DEnds.seq, DEnds.loop, endF, dAnd, dOr, dNot, dT, dTr, tru, dB, dCh, dC, dIsi, tyD_non, tyD_bl, tyD_int, tyD_str, tyD_tup, tyD_lst, isTN, dAndV, dOrV, dNotV, dIfE, aN, aC, dTup, dLst, dLstM_eq, dCall, dCB, dU, dSl, slD, oN, oS, gN, gT, gsC, gsN, lAny, lRng1, lRng2, lZip, itemsOf, lstOf, seqOf, dLc, wipeD, bYes, dFor, dApp, dMs, dErr, dRev, revD, dNotT, lEnum, lZip3, dCallV, opAddX, opSubX, opStrX, opAdd, opSub, opMod, opDiv, opPow, opMul, opLt, opGt, opLe, opGe, opEq, opNe, opIn, opNi, opInB, opIs, opIsn, opIsB, isNon, opNeg, opIx, opAll, opSum, opMin, opMax, opInt, opLen, opTup, opList, opBool, opJoin, eqD_int, eqD_str, eqD_bl, eqD_non, eqD_tup, eqD_lst, eqD_tup0, eqD_lst0, der_int, der_str, der_bl, der_non, der_tup, der_lst, eqOk_int, eqOk_str, PR.wp, RS.wp, dV, List.getElem?_cons_zero, List.getElem?_cons_succ, List.getElem?_nil, List.set_cons_zero, List.set_cons_succ, List.length_cons, List.length_nil, Option.some.injEq, true_and, and_true, Bool.not_true, Bool.not_false, roll_wp]
      refine ⟨⟨hD, by omega, by omega⟩, fun d hd => ?_⟩
      obtain ⟨i, rfl, i1, i2⟩ := hd
      simp only [sC, sIf, sRt, sAs, sX, sN, sRtN, sRs, sBk, sPar, sPar3, sSub, DEnds.seq, DEnds.loop, endF, dAnd, dOr, dNot, dT, dTr, tru, dB, dCh, dC, dIsi, tyD_non, tyD_bl, tyD_int, tyD_str, tyD_tup, tyD_lst, isTN, dAndV, dOrV, dNotV, dIfE, aN, aC, dTup, dLst, dLstM_eq, dCall, dCB, dU, dSl, slD, oN, oS, gN, gT, gsC, gsN, lAny, lRng1, lRng2, lZip, itemsOf, lstOf, seqOf, dLc, wipeD, bYes, dFor, dApp, dMs, dErr, dRev, revD, dNotT, lEnum, lZip3, dCallV, opAddX, opSubX, opStrX, opAdd, opSub, opMod, opDiv, opPow, opMul, opLt, opGt, opLe, opGe, opEq, opNe, opIn, opNi, opInB, opIs, opIsn, opIsB, isNon, opNeg, opIx, opAll, opSum, opMin, opMax, opInt, opLen, opTup, opList, opBool, opJoin, eqD_int, eqD_str, eqD_bl, eqD_non, eqD_tup, eqD_lst, eqD_tup0, eqD_lst0, der_int, der_str, der_bl, der_non, der_tup, der_lst, eqOk_int, eqOk_str, PR.wp, RS.wp, dV, List.getElem?_cons_zero, List.getElem?_cons_succ, List.getElem?_nil, List.set_cons_zero, List.set_cons_succ, List.length_cons, List.length_nil, Option.some.injEq, true_and, and_true, Bool.not_true, Bool.not_false, roll_wp]
      refine ⟨⟨hD, by decide, by decide⟩, fun d hd => ?_⟩
      obtain ⟨j, rfl, j1, j2⟩ := hd
      have c1 := cut_len2 t none (some i)
      have c2 := cut_len2 t (some i) none
      have c3 := cut_len2 t (some (i + 1)) none
      simp only [sC, sIf, sRt, sAs, sX, sN, sRtN, sRs, sBk, sPar, sPar3, sSub, DEnds.seq, DEnds.loop, endF, dAnd, dOr, dNot, dT, dTr, tru, dB, dCh, dC, dIsi, tyD_non, tyD_bl, tyD_int, tyD_str, tyD_tup, tyD_lst, isTN, dAndV, dOrV, dNotV, dIfE, aN, aC, dTup, dLst, dLstM_eq, dCall, dCB, dU, dSl, slD, oN, oS, gN, gT, gsC, gsN, lAny, lRng1, lRng2, lZip, itemsOf, lstOf, seqOf, dLc, wipeD, bYes, dFor, dApp, dMs, dErr, dRev, revD, dNotT, lEnum, lZip3, dCallV, opAddX, opSubX, opStrX, opAdd, opSub, opMod, opDiv, opPow, opMul, opLt, opGt, opLe, opGe, opEq, opNe, opIn, opNi, opInB, opIs, opIsn, opIsB, isNon, opNeg, opIx, opAll, opSum, opMin, opMax, opInt, opLen, opTup, opList, opBool, opJoin, eqD_int, eqD_str, eqD_bl, eqD_non, eqD_tup, eqD_lst, eqD_tup0, eqD_lst0, der_int, der_str, der_bl, der_non, der_tup, der_lst, eqOk_int, eqOk_str, PR.wp, RS.wp, dV, List.getElem?_cons_zero, List.getElem?_cons_succ, List.getElem?_nil, List.set_cons_zero, List.set_cons_succ, List.length_cons, List.length_nil, Option.some.injEq, true_and, and_true, Bool.not_true, Bool.not_false, opSplit, some_lst]
      by_cases j0 : j = 0
      · rw [decide_eq_true j0]
        refine ⟨by decide, ⟨hD, by simp, by decide⟩, fun z hz => ?_⟩
        have : ∃ c, z = .str [c] := by
          simp only [List.mem_cons, List.not_mem_nil, or_false] at hz
          rcases hz with rfl | rfl | rfl | rfl | rfl | rfl | rfl | rfl <;> exact ⟨_, rfl⟩
        obtain ⟨c, rfl⟩ := this
        have hl : ([c] : List Nat).length = 1 := rfl
        refine ⟨by omega, by rw [List.length_append]; omega, fin _ ?_⟩
        rw [List.length_append, List.length_append]; omega
      rw [decide_eq_false j0]
      by_cases j1 : j = 1
      · rw [decide_eq_true j1]
        exact ⟨by omega, fin _ (by rw [List.length_append]; omega)⟩
      rw [decide_eq_false j1]
      by_cases j2 : j = 2
      · rw [decide_eq_true j2]
        refine ⟨by decide, ⟨hD, by simp, by decide⟩, fun z hz => ?_⟩
        have : ∃ c, z = .str [c] := by
          simp only [List.mem_cons, List.not_mem_nil, or_false] at hz
          rcases hz with rfl | rfl | rfl | rfl <;> exact ⟨_, rfl⟩
        obtain ⟨c, rfl⟩ := this
        have hl : ([c] : List Nat).length = 1 := rfl
        refine ⟨by omega, by rw [List.length_append]; omega, fin _ ?_⟩
        rw [List.length_append, List.length_append]; omega
      rw [decide_eq_false j2]
      have hs := spl_sum2 (t := t)
      have hn := splD_ne 32 t []
      have hp : 0 < (splD 32 [] t).length := List.length_pos_iff.mpr hn
      rw [roll_wp]
      refine ⟨⟨by decide, by omega⟩, ⟨hD, by rw [List.length_map]; omega, by rw [List.length_map]; omega⟩, fun d hd => ?_⟩
      obtain ⟨k, rfl, k1, k2⟩ := hd
      by_cases j3 : j = 3
      · rw [decide_eq_true j3]
        simp only [cut_map, ← List.map_append]
        have e1 := sum_cut (splD 32 [] t) none (some k)
        have e2 := sum_cut (splD 32 [] t) (some (k + 1)) none
        have e3 := cut_len2 (splD 32 [] t) none (some k)
        have e4 := cut_len2 (splD 32 [] t) (some (k + 1)) none
        refine ⟨by rw [List.length_map, List.length_map]; omega, ?_⟩
        rw [← List.map_append]
        dsimp only
        rw [sts_of]
        refine ⟨?_, fin _ ?_⟩
        · rw [List.map_append, List.sum_append, List.length_append]; omega
        · refine Nat.le_trans (join_sp _) ?_
          rw [List.map_append, List.sum_append, List.length_append]; omega
      · rw [decide_eq_false j3]
        rw [← List.map_reverse]
        dsimp only
        rw [sts_of]
        have e1 : (((splD 32 [] t).reverse).map (·.length)).sum = ((splD 32 [] t).map (·.length)).sum := by rw [List.map_reverse, List.sum_reverse]
        refine ⟨?_, fin _ ?_⟩
        · rw [e1, List.length_reverse]; omega
        · refine Nat.le_trans (join_sp _) ?_
          rw [e1, List.length_reverse]; omega
    | _ => exact h.elim
  | _ => exact h.elim
end DL

namespace DL
open PySem L2
/-! ### any values -/
def ov (m : Nat) : Nat → D → Bool
  | _, .non => true
  | _, .bl _ => true
  | _, .int i => decide (i.natAbs ≤ 10 ^ 30 + m)
  | _, .str s => decide (s.length ≤ 100 + m)
  | d + 1, .tup ds => decide (ds.length ≤ 100 + m) && ds.all (ov m d)
  | d + 1, .lst ds => decide (ds.length ≤ 100 + m) && ds.all (ov m d)
  | _, _ => false
theorem ov_mono {m m' : Nat} (hm : m ≤ m') : ∀ {d d' : Nat} {v : D}, d ≤ d' → ov m d v = true → ov m' d' v = true := by
  intro d
  induction d with
  | zero =>
    intro d' v _ h
    cases v with
    | non => cases d' <;> rfl
    | bl b => cases d' <;> rfl
    | int i => have h : decide (i.natAbs ≤ 10 ^ 30 + m) = true := h; have := of_decide_eq_true h; have g : decide (i.natAbs ≤ 10 ^ 30 + m') = true := decide_eq_true (by omega); cases d' <;> exact g
    | str s => have h : decide (s.length ≤ 100 + m) = true := h; have := of_decide_eq_true h; have g : decide (s.length ≤ 100 + m') = true := decide_eq_true (by omega); cases d' <;> exact g
    | _ => cases h
  | succ d ih =>
    intro d' v hd h
    cases d' with
    | zero => omega
    | succ d' =>
      cases v with
      | non => rfl
      | bl b => rfl
      | int i => have h : decide (i.natAbs ≤ 10 ^ 30 + m) = true := h; have := of_decide_eq_true h; exact decide_eq_true (by omega)
      | str s => have h : decide (s.length ≤ 100 + m) = true := h; have := of_decide_eq_true h; exact decide_eq_true (by omega)
      | tup ds =>
        have h : (decide (ds.length ≤ 100 + m) && ds.all (ov m d)) = true := h
        rw [Bool.and_eq_true, List.all_eq_true] at h
        show (decide (ds.length ≤ 100 + m') && ds.all (ov m' d')) = true
        rw [Bool.and_eq_true, List.all_eq_true]
        exact ⟨decide_eq_true (by have := of_decide_eq_true h.1; omega), fun x hx => ih (by omega) (h.2 x hx)⟩
      | lst ds =>
        have h : (decide (ds.length ≤ 100 + m) && ds.all (ov m d)) = true := h
        rw [Bool.and_eq_true, List.all_eq_true] at h
        show (decide (ds.length ≤ 100 + m') && ds.all (ov m' d')) = true
        rw [Bool.and_eq_true, List.all_eq_true]
        exact ⟨decide_eq_true (by have := of_decide_eq_true h.1; omega), fun x hx => ih (by omega) (h.2 x hx)⟩
      | _ => cases h
theorem ov_dok {m : Nat} : ∀ {d n : Nat} {v : D}, d ≤ n → ov m d v = true → dok n v = true := by
  intro d
  induction d with
  | zero =>
    intro n v _ h
    cases v with
    | non => cases n <;> rfl
    | bl b => cases n <;> rfl
    | int i => cases n <;> rfl
    | str s => cases n <;> rfl
    | _ => cases h
  | succ d ih =>
    intro n v hd h
    cases n with
    | zero => omega
    | succ n =>
      cases v with
      | non => rfl
      | bl b => rfl
      | int i => rfl
      | str s => rfl
      | tup ds =>
        have h : (decide (ds.length ≤ 100 + m) && ds.all (ov m d)) = true := h
        rw [Bool.and_eq_true, List.all_eq_true] at h
        show dokL n ds = true
        exact dokL_of fun x hx => ih (by omega) (h.2 x hx)
      | lst ds =>
        have h : (decide (ds.length ≤ 100 + m) && ds.all (ov m d)) = true := h
        rw [Bool.and_eq_true, List.all_eq_true] at h
        show dokL n ds = true
        exact dokL_of fun x hx => ih (by omega) (h.2 x hx)
      | _ => cases h
theorem ov_tup {m d : Nat} {ds : List D} : ov m (d + 1) (.tup ds) = true ↔ ds.length ≤ 100 + m ∧ ∀ x ∈ ds, ov m d x = true := by
  show (decide (ds.length ≤ 100 + m) && ds.all (ov m d)) = true ↔ _
  rw [Bool.and_eq_true, List.all_eq_true, decide_eq_true_iff]
theorem ov_lst {m d : Nat} {ds : List D} : ov m (d + 1) (.lst ds) = true ↔ ds.length ≤ 100 + m ∧ ∀ x ∈ ds, ov m d x = true := by
  show (decide (ds.length ≤ 100 + m) && ds.all (ov m d)) = true ↔ _
  rw [Bool.and_eq_true, List.all_eq_true, decide_eq_true_iff]
def sp__law_odd : Nat → DSp
  | 0 => spNo 2
  | N + 1 => sp2 fun S d n => match d, n with
    | .obj a, .int n => .pre (S a = some .drum ∧ 0 ≤ n ∧ n ≤ (N : Int)) (.any fun z => ov 0 (n.toNat + 2) z = true)
    | _, _ => .no
def sp__law_bent : Nat → DSp
  | 0 => spNo 2
  | N + 1 => sp2 fun S d v => match d with
    | .obj a => .pre (S a = some .drum ∧ ∃ m d, m ≤ 100 ∧ d ≤ N ∧ d ≤ 50 ∧ ov m d v = true) (.any fun z => ∀ m d, m ≤ 100 → ov m d v = true → ov (m + 1) (d + 3) z = true)
    | _ => .no
def sp__law_is_book : DSp := sp1 fun S v => .pre (dok 60 v = true) (.ret (.bl (isBk v)))
def sp_is_book : DSp := sp1 fun S v => .pre (dok 60 v = true) (.ret (.bl (isBk v)))
def sp__law_judged : DSp := sp1 fun S v => .pre (dok 60 v = true) (.ret (.bl true))
def u__law_odd (spR : DSp) : DS := sC (sAs (dLst (aC (dC .non) (aC (dC (.bl true)) (aC (dC (.bl false)) (aC (dC (.int 0)) (aC (dC (.int 1)) (aC (dC (.int 2)) (aC (dC (.int 4)) (aC (dC (.int 5)) (aC (dU opNeg (dC (.int 1))) (aC (dB opPow (dC (.int 10)) (dC (.int 30))) (aC (dC (.str [])) (aC (dC (.str [48])) (aC (dC (.str [48, 49])) (aC (dC (.str [49, 48])) (aC (dC (.str [51])) (aC (dC (.str [48, 49, 50])) (aC (dC (.str [52])) (aC (dC (.str [97])) (aC (dTup (aN)) (aC (dLst (aN)) (aN)))))))))))))))))))))) (gN 2)) (sC (sAs (dB opAdd (dV 2) (dLst (aC (dTup (aC (dC (.str [48, 49])) (aN))) (aC (dTup (aC (dC (.str [48, 49])) (aC (dC (.str [49, 48])) (aN)))) (aC (dTup (aC (dC (.int 2)) (aC (dTup (aC (dC (.str [48, 49])) (aN))) (aN)))) (aC (dTup (aC (dC (.int 2)) (aC (dTup (aN)) (aN)))) (aC (dB opMul (dC (.str [48])) (dC (.int 12))) (aC (dB opMul (dC (.str [48])) (dC (.int 13))) (aC (dB opMul (dC (.str [48])) (dC (.int 61))) (aN)))))))))) (gN 2)) (sC (sIf (dOr (dT (dB opEq (dV 1) (dC (.int 0)))) (dT (dB opLt (dCall sp__law_roll (aC (dV 0) (aC (dC (.int 8)) (aN)))) (dC (.int 5))))) (sRt (dCall sp__law_some (aC (dV 0) (aC (dV 2) (aN))))) (sN)) (sC (sAs (dLc (lRng1 (aC (dCall sp__law_roll (aC (dV 0) (aC (dC (.int 5)) (aN)))) (aN))) (gN 4) (bYes) (dCall spR (aC (dV 0) (aC (dB opSub (dV 1) (dC (.int 1))) (aN)))) [4]) (gN 3)) (sRt (dIfE (dT (dB opEq (dCall sp__law_roll (aC (dV 0) (aC (dC (.int 3)) (aN)))) (dC (.int 0)))) (dV 3) (dCB opTup (aC (dV 3) (aN))))))))
def n_law_bent : DS := sC (sAs (dLst (aC (dCall (sp__law_odd 4) (aC (dV 0) (aC (dC (.int 1)) (aN)))) (aC (dCall (sp__law_odd 4) (aC (dV 0) (aC (dC (.int 1)) (aN)))) (aN)))) (gN 2)) (sC (sIf (dTr (dIsi .str (dV 1))) (sC (sAs (dB opAddX (dV 2) (dLst (aC (dSl (dV 1) (oN) (oS (dU opNeg (dC (.int 1))))) (aC (dB opAddX (dV 1) (dC (.str [48]))) (aC (dB opAddX (dV 1) (dC (.str [50]))) (aC (dRev (dV 1)) (aC (dB opAddX (dV 1) (dC (.str [32]))) (aN)))))))) (gN 2)) (sAs (dB opAddX (dV 2) (dLst (aC (dB opAddX (dC (.str [49])) (dSl (dV 1) (oS (dC (.int 1))) (oN))) (aC (dB opAddX (dC (.str [51])) (dSl (dV 1) (oS (dC (.int 1))) (oN))) (aN))))) (gN 2))) (sIf (dTr (dIsi .int (dV 1))) (sAs (dB opAddX (dV 2) (dLst (aC (dB opAddX (dV 1) (dC (.int 1))) (aC (dB opSubX (dV 1) (dC (.int 1))) (aC (dB opAddX (dV 1) (dC (.int 1))) (aC (dB opSubX (dV 1) (dC (.int 1))) (aC (dNotT (dV 1)) (aC (dCB opStrX (aC (dV 1) (aN))) (aN))))))))) (gN 2)) (sN))) (sRt (dCall sp__law_some (aC (dV 0) (aC (dV 2) (aN))))))
def r_law_bent (spR : DSp) : DS := sC (sPar 3 4 (aC (dCall sp__law_roll (aC (dV 0) (aC (dCB opLen (aC (dV 1) (aN))) (aN)))) (aC (dCall sp__law_roll (aC (dV 0) (aC (dC (.int 9)) (aN)))) (aN)))) (sC (sIf (dT (dB opEq (dV 4) (dC (.int 0)))) (sRt (dB opAddX (dSl (dV 1) (oN) (oS (dV 3))) (dSl (dV 1) (oS (dB opAddX (dV 3) (dC (.int 1)))) (oN)))) (sN)) (sC (sIf (dT (dB opEq (dV 4) (dC (.int 1)))) (sRt (dB opAddX (dSl (dV 1) (oN) (oS (dB opAddX (dV 3) (dC (.int 1))))) (dSl (dV 1) (oS (dV 3)) (oN)))) (sN)) (sC (sIf (dT (dB opEq (dV 4) (dC (.int 2)))) (sRt (dRev (dV 1))) (sN)) (sC (sIf (dT (dB opEq (dV 4) (dC (.int 3)))) (sRt (dCB opList (aC (dV 1) (aN)))) (sN)) (sRt (dB opAddX (dB opAddX (dSl (dV 1) (oN) (oS (dV 3))) (dTup (aC (dCall spR (aC (dV 0) (aC (dB opIx (dV 1) (dV 3)) (aN)))) (aN)))) (dSl (dV 1) (oS (dB opAddX (dV 3) (dC (.int 1)))) (oN))))))))
def u__law_bent (spR : DSp) : DS := sC (sIf (dOr (dNot (dTr (dIsi .tup (dV 1)))) (dOr (dT (dB opEq (dV 1) (dTup (aN)))) (dT (dB opEq (dCall sp__law_roll (aC (dV 0) (aC (dC (.int 7)) (aN)))) (dC (.int 0)))))) n_law_bent (sN)) (r_law_bent spR)
theorem odd_base : ∀ z ∈ [D.non, .bl true, .bl false, .int 0, .int 1, .int 2, .int 4, .int 5, .int (-1), .int (10 ^ Int.toNat 30), .str [], .str [48], .str [48, 49], .str [49, 48], .str [51], .str [48, 49, 50], .str [52], .str [97], .tup [], .lst [], .tup [.str [48, 49]], .tup [.str [48, 49], .str [49, 48]], .tup [.int 2, .tup [.str [48, 49]]], .tup [.int 2, .tup []], .str (List.replicate (Int.toNat 12) [48]).flatten, .str (List.replicate (Int.toNat 13) [48]).flatten, .str (List.replicate (Int.toNat 61) [48]).flatten], ov 0 2 z = true := List.all_eq_true.mp (by decide +kernel)
theorem d__law_odd {N : Nat} {ds : List D} {S : Sto} {Q : DK} {R : RK} (h : ((sp__law_odd (N + 1)).g S ds).wp S Q R) : u__law_odd (sp__law_odd N) (dStart 5 ds) S (endF Q R) := by
  have hh := sp2_inv h
  clear h
  obtain ⟨d, v, rfl, h⟩ := hh
  cases d with
  | obj a =>
    cases v with
    | int n =>
      replace h : (S a = some .drum ∧ 0 ≤ n ∧ n ≤ (N : Int)) ∧ ∀ z, ov 0 (n.toNat + 2) z = true → Q z S := h
      obtain ⟨⟨hD, h0, h1⟩, h⟩ := h
      show u__law_odd (sp__law_odd N) [some (.obj a), some (.int n), none, none, none] S _
      simp only [u__law_odd, sC, sIf, sRt, sAs, sX, sN, sRtN, sRs, sBk, sPar, sPar3, sSub, DEnds.seq, DEnds.loop, endF, dAnd, dOr, dNot, dT, dTr, tru, dB, dCh, dC, dIsi, tyD_non, tyD_bl, tyD_int, tyD_str, tyD_tup, tyD_lst, isTN, dAndV, dOrV, dNotV, dIfE, aN, aC, dTup, dLst, dLstM_eq, dCall, dCB, dU, dSl, slD, oN, oS, gN, gT, gsC, gsN, lAny, lRng1, lRng2, lZip, itemsOf, lstOf, seqOf, dLc, wipeD, bYes, dFor, dApp, dMs, dErr, dRev, revD, dNotT, lEnum, lZip3, dCallV, opAddX, opSubX, opStrX, opAdd, opSub, opMod, opDiv, opPow, opMul, opLt, opGt, opLe, opGe, opEq, opNe, opIn, opNi, opInB, opIs, opIsn, opIsB, isNon, opNeg, opIx, opAll, opSum, opMin, opMax, opInt, opLen, opTup, opList, opBool, opJoin, eqD_int, eqD_str, eqD_bl, eqD_non, eqD_tup, eqD_lst, eqD_tup0, eqD_lst0, der_int, der_str, der_bl, der_non, der_tup, der_lst, eqOk_int, eqOk_str, PR.wp, RS.wp, dV, List.getElem?_cons_zero, List.getElem?_cons_succ, List.getElem?_nil, List.set_cons_zero, List.set_cons_succ, List.length_cons, List.length_nil, Option.some.injEq, true_and, and_true, Bool.not_true, Bool.not_false, catL, roll_wp, List.cons_append, List.nil_append, some_lst]
      refine ⟨⟨by decide, by decide, by decide⟩, by decide, by decide, by decide, by decide, by decide, by decide, by decide, by decide, by decide, ⟨by decide, by decide, by decide⟩, ⟨by decide, by decide, by decide⟩, ⟨by decide, by decide, by decide⟩, by decide, by decide, ?_⟩
      have base : ∀ z, ov 0 2 z = true → Q z S := fun z hz => h z (ov_mono (Nat.le_refl _) (by omega) hz)
      by_cases n0 : n = 0
      · rw [decide_eq_true n0]
        exact ⟨⟨hD, by simp, by decide⟩, fun z hz => base z (odd_base z hz)⟩
      rw [decide_eq_false n0]
      refine ⟨⟨hD, by decide, by decide⟩, fun d hd => ?_⟩
      obtain ⟨i, rfl, i1, i2⟩ := hd
      dsimp only
      by_cases i5 : i < 5
      · rw [decide_eq_true i5]
        exact ⟨⟨hD, by simp, by decide⟩, fun z hz => base z (odd_base z hz)⟩
      rw [decide_eq_false i5]
      refine ⟨⟨hD, by decide, by decide⟩, fun d hd => ?_⟩
      obtain ⟨j, rfl, j1, j2⟩ := hd
      refine ⟨⟨by omega, by omega⟩, ?_⟩
      refine lc_any (fun z => ov 0 (n.toNat + 1) z = true) _ [] (fun d hd KN KY q => ?_) (fun ys hl hy => ?_)
      · cases N with
        | zero => omega
        | succ N =>
          simp only [lcStep, sC, sIf, sRt, sAs, sX, sN, sRtN, sRs, sBk, sPar, sPar3, sSub, DEnds.seq, DEnds.loop, endF, dAnd, dOr, dNot, dT, dTr, tru, dB, dCh, dC, dIsi, tyD_non, tyD_bl, tyD_int, tyD_str, tyD_tup, tyD_lst, isTN, dAndV, dOrV, dNotV, dIfE, aN, aC, dTup, dLst, dLstM_eq, dCall, dCB, dU, dSl, slD, oN, oS, gN, gT, gsC, gsN, lAny, lRng1, lRng2, lZip, itemsOf, lstOf, seqOf, dLc, wipeD, bYes, dFor, dApp, dMs, dErr, dRev, revD, dNotT, lEnum, lZip3, dCallV, opAddX, opSubX, opStrX, opAdd, opSub, opMod, opDiv, opPow, opMul, opLt, opGt, opLe, opGe, opEq, opNe, opIn, opNi, opInB, opIs, opIsn, opIsB, isNon, opNeg, opIx, opAll, opSum, opMin, opMax, opInt, opLen, opTup, opList, opBool, opJoin, eqD_int, eqD_str, eqD_bl, eqD_non, eqD_tup, eqD_lst, eqD_tup0, eqD_lst0, der_int, der_str, der_bl, der_non, der_tup, der_lst, eqOk_int, eqOk_str, PR.wp, RS.wp, dV, List.getElem?_cons_zero, List.getElem?_cons_succ, List.getElem?_nil, List.set_cons_zero, List.set_cons_succ, List.length_cons, List.length_nil, Option.some.injEq, true_and, and_true, Bool.not_true, Bool.not_false]
          refine ⟨⟨hD, by omega, by omega⟩, fun z hz => q z ?_⟩
          have e : (n - 1).toNat + 2 = n.toNat + 1 := by omega
          rw [e] at hz
          exact hz
      · rw [List.nil_append]
        have hlen : (rngL 0 j.toNat).length = j.toNat := by unfold rngL; rw [List.length_map, List.length_range]
        refine ⟨⟨hD, by decide, by decide⟩, fun d hd => ?_⟩
        obtain ⟨k, rfl, k1, k2⟩ := hd
        refine ⟨rfl, ?_⟩
        rw [show eqD (der S (D.int k)) (D.int 0) = decide (k = 0) from eqD_int]
        cases decide (k = 0) with
        | true => exact h _ (ov_lst.mpr ⟨by omega, hy⟩)
        | false => exact h _ (ov_tup.mpr ⟨by omega, hy⟩)
    | _ => exact h.elim
  | _ => exact h.elim
theorem ov_str {m d : Nat} {w : List Nat} : ov m d (.str w) = true ↔ w.length ≤ 100 + m := by cases d <;> exact decide_eq_true_iff
theorem ov_int {m d : Nat} {i : Int} : ov m d (.int i) = true ↔ i.natAbs ≤ 10 ^ 30 + m := by cases d <;> exact decide_eq_true_iff
theorem ov_bl {m d : Nat} {b : Bool} : ov m d (.bl b) = true := by cases d <;> rfl
theorem ov_cut {m d : Nat} {xs : List D} {lo hi : Option Int} (h : ∀ x ∈ xs, ov m d x = true) : ∀ x ∈ cut xs lo hi, ov m d x = true := fun x hx => h x (cut_mem hx)
theorem odd4 {S : Sto} {Q : DK} {R : RK} {a : Addr} {n : Int} : ((sp__law_odd 4).g S [.obj a, .int n]).wp S Q R = ((S a = some .drum ∧ 0 ≤ n ∧ n ≤ 3) ∧ ∀ z, ov 0 (n.toNat + 2) z = true → Q z S) := rfl
theorem d_near {a : Addr} {v : D} {S : Sto} {Q : DK} {R : RK} (hD : S a = some .drum) {m0 d0 : Nat} (hm0 : m0 ≤ 100) (hv : ov m0 d0 v = true) (h : ∀ z, (∀ m d, m ≤ 100 → ov m d v = true → ov (m + 1) (d + 3) z = true) → Q z S) {x2 x3 x4 : Option D} {D0 : DEnds} (hrt : D0.rt = Q) :
    n_law_bent [some (.obj a), some v, x2, x3, x4] S D0 := by
  subst hrt
  have two : ∀ {z1 z2 : D}, ov 0 (Int.toNat 1 + 2) z1 = true → ov 0 (Int.toNat 1 + 2) z2 = true → ∀ z ∈ [z1, z2], ∀ m d, m ≤ 100 → ov m d v = true → ov (m + 1) (d + 3) z = true := by
    intro z1 z2 g1 g2 z hz m d _ _
    simp only [List.mem_cons, List.not_mem_nil, or_false] at hz
    rcases hz with rfl | rfl
    · exact ov_mono (by omega) (by omega) g1
    · exact ov_mono (by omega) (by omega) g2
  cases v with
  | str w =>
    have hw := ov_str.mp hv
    simp only [n_law_bent, sC, sIf, sRt, sAs, sX, sN, sRtN, sRs, sBk, sPar, sPar3, sSub, DEnds.seq, DEnds.loop, endF, dAnd, dOr, dNot, dT, dTr, tru, dB, dCh, dC, dIsi, tyD_non, tyD_bl, tyD_int, tyD_str, tyD_tup, tyD_lst, isTN, dAndV, dOrV, dNotV, dIfE, aN, aC, dTup, dLst, dLstM_eq, dCall, dCB, dU, dSl, slD, oN, oS, gN, gT, gsC, gsN, lAny, lRng1, lRng2, lZip, itemsOf, lstOf, seqOf, dLc, wipeD, bYes, dFor, dApp, dMs, dErr, dRev, revD, dNotT, lEnum, lZip3, dCallV, opAddX, opSubX, opStrX, opAdd, opSub, opMod, opDiv, opPow, opMul, opLt, opGt, opLe, opGe, opEq, opNe, opIn, opNi, opInB, opIs, opIsn, opIsB, isNon, opNeg, opIx, opAll, opSum, opMin, opMax, opInt, opLen, opTup, opList, opBool, opJoin, eqD_int, eqD_str, eqD_bl, eqD_non, eqD_tup, eqD_lst, eqD_tup0, eqD_lst0, der_int, der_str, der_bl, der_non, der_tup, der_lst, eqOk_int, eqOk_str, PR.wp, RS.wp, dV, List.getElem?_cons_zero, List.getElem?_cons_succ, List.getElem?_nil, List.set_cons_zero, List.set_cons_succ, List.length_cons, List.length_nil, Option.some.injEq, true_and, and_true, Bool.not_true, Bool.not_false, odd4, catL, List.cons_append, List.nil_append, some_lst]
    refine ⟨⟨hD, by decide, by decide⟩, fun z1 g1 => ⟨⟨hD, by decide, by decide⟩, fun z2 g2 => ⟨by decide, ?_⟩⟩⟩
    have c1 := cut_len w none (some (-1))
    have c2 := cut_len w (some 1) none
    refine ⟨by omega, by omega, by omega, by decide, by decide, by omega, by omega, by decide, by decide, ⟨hD, by simp, by decide⟩, fun z hz => h z ?_⟩
    simp only [List.mem_cons, List.not_mem_nil, or_false] at hz
    rcases hz with hz | hz | rfl | rfl | rfl | rfl | rfl | rfl | rfl
    · subst hz; exact two g1 g2 _ (by simp)
    · subst hz; exact two g1 g2 _ (by simp)
    all_goals
      intro m d _ q
      have q := ov_str.mp q
      refine ov_str.mpr ?_
      try simp only [List.length_append, List.length_cons, List.length_nil, List.length_reverse]
      omega
  | int i =>
    have hi := ov_int.mp hv
    simp only [n_law_bent, sC, sIf, sRt, sAs, sX, sN, sRtN, sRs, sBk, sPar, sPar3, sSub, DEnds.seq, DEnds.loop, endF, dAnd, dOr, dNot, dT, dTr, tru, dB, dCh, dC, dIsi, tyD_non, tyD_bl, tyD_int, tyD_str, tyD_tup, tyD_lst, isTN, dAndV, dOrV, dNotV, dIfE, aN, aC, dTup, dLst, dLstM_eq, dCall, dCB, dU, dSl, slD, oN, oS, gN, gT, gsC, gsN, lAny, lRng1, lRng2, lZip, itemsOf, lstOf, seqOf, dLc, wipeD, bYes, dFor, dApp, dMs, dErr, dRev, revD, dNotT, lEnum, lZip3, dCallV, opAddX, opSubX, opStrX, opAdd, opSub, opMod, opDiv, opPow, opMul, opLt, opGt, opLe, opGe, opEq, opNe, opIn, opNi, opInB, opIs, opIsn, opIsB, isNon, opNeg, opIx, opAll, opSum, opMin, opMax, opInt, opLen, opTup, opList, opBool, opJoin, eqD_int, eqD_str, eqD_bl, eqD_non, eqD_tup, eqD_lst, eqD_tup0, eqD_lst0, der_int, der_str, der_bl, der_non, der_tup, der_lst, eqOk_int, eqOk_str, PR.wp, RS.wp, dV, List.getElem?_cons_zero, List.getElem?_cons_succ, List.getElem?_nil, List.set_cons_zero, List.set_cons_succ, List.length_cons, List.length_nil, Option.some.injEq, true_and, and_true, Bool.not_true, Bool.not_false, odd4, catL, List.cons_append, List.nil_append, some_lst]
    refine ⟨⟨hD, by decide, by decide⟩, fun z1 g1 => ⟨⟨hD, by decide, by decide⟩, fun z2 g2 => ⟨by decide, ?_⟩⟩⟩
    refine ⟨by omega, by decide, by decide, ⟨hD, by simp, by decide⟩, fun z hz => h z ?_⟩
    simp only [List.mem_cons, List.not_mem_nil, or_false] at hz
    rcases hz with hz | hz | rfl | rfl | rfl | rfl | rfl | rfl
    · subst hz; exact two g1 g2 _ (by simp)
    · subst hz; exact two g1 g2 _ (by simp)
    iterate 4
      · intro m d _ q
        have q := ov_int.mp q
        exact ov_int.mpr (by omega)
    · exact fun m d _ _ => ov_bl
    · intro m d _ q
      have := int_len (i := i) (by omega)
      exact ov_str.mpr (by omega)
  | bl b =>
    simp only [n_law_bent, sC, sIf, sRt, sAs, sX, sN, sRtN, sRs, sBk, sPar, sPar3, sSub, DEnds.seq, DEnds.loop, endF, dAnd, dOr, dNot, dT, dTr, tru, dB, dCh, dC, dIsi, tyD_non, tyD_bl, tyD_int, tyD_str, tyD_tup, tyD_lst, isTN, dAndV, dOrV, dNotV, dIfE, aN, aC, dTup, dLst, dLstM_eq, dCall, dCB, dU, dSl, slD, oN, oS, gN, gT, gsC, gsN, lAny, lRng1, lRng2, lZip, itemsOf, lstOf, seqOf, dLc, wipeD, bYes, dFor, dApp, dMs, dErr, dRev, revD, dNotT, lEnum, lZip3, dCallV, opAddX, opSubX, opStrX, opAdd, opSub, opMod, opDiv, opPow, opMul, opLt, opGt, opLe, opGe, opEq, opNe, opIn, opNi, opInB, opIs, opIsn, opIsB, isNon, opNeg, opIx, opAll, opSum, opMin, opMax, opInt, opLen, opTup, opList, opBool, opJoin, eqD_int, eqD_str, eqD_bl, eqD_non, eqD_tup, eqD_lst, eqD_tup0, eqD_lst0, der_int, der_str, der_bl, der_non, der_tup, der_lst, eqOk_int, eqOk_str, PR.wp, RS.wp, dV, List.getElem?_cons_zero, List.getElem?_cons_succ, List.getElem?_nil, List.set_cons_zero, List.set_cons_succ, List.length_cons, List.length_nil, Option.some.injEq, true_and, and_true, Bool.not_true, Bool.not_false, odd4, catL, List.cons_append, List.nil_append, some_lst]
    refine ⟨⟨hD, by decide, by decide⟩, fun z1 g1 => ⟨⟨hD, by decide, by decide⟩, fun z2 g2 => ⟨by decide, ?_⟩⟩⟩
    refine ⟨by decide, by decide, ⟨hD, by simp, by decide⟩, fun z hz => h z ?_⟩
    simp only [List.mem_cons, List.not_mem_nil, or_false] at hz
    rcases hz with hz | hz | rfl | rfl | rfl | rfl | rfl | rfl
    · subst hz; exact two g1 g2 _ (by simp)
    · subst hz; exact two g1 g2 _ (by simp)
    iterate 4
      · intro m d _ q
        refine ov_int.mpr ?_
        unfold b2
        cases b <;> simp <;> omega
    · exact fun m d _ _ => ov_bl
    · intro m d _ q
      refine ov_str.mpr ?_
      unfold boolStr
      cases b <;> simp <;> omega
  | obj _ => cases d0 <;> cases hv
  | cst _ => cases d0 <;> cases hv
  | scr _ => cases d0 <;> cases hv
  | non =>
    simp only [n_law_bent, sC, sIf, sRt, sAs, sX, sN, sRtN, sRs, sBk, sPar, sPar3, sSub, DEnds.seq, DEnds.loop, endF, dAnd, dOr, dNot, dT, dTr, tru, dB, dCh, dC, dIsi, tyD_non, tyD_bl, tyD_int, tyD_str, tyD_tup, tyD_lst, isTN, dAndV, dOrV, dNotV, dIfE, aN, aC, dTup, dLst, dLstM_eq, dCall, dCB, dU, dSl, slD, oN, oS, gN, gT, gsC, gsN, lAny, lRng1, lRng2, lZip, itemsOf, lstOf, seqOf, dLc, wipeD, bYes, dFor, dApp, dMs, dErr, dRev, revD, dNotT, lEnum, lZip3, dCallV, opAddX, opSubX, opStrX, opAdd, opSub, opMod, opDiv, opPow, opMul, opLt, opGt, opLe, opGe, opEq, opNe, opIn, opNi, opInB, opIs, opIsn, opIsB, isNon, opNeg, opIx, opAll, opSum, opMin, opMax, opInt, opLen, opTup, opList, opBool, opJoin, eqD_int, eqD_str, eqD_bl, eqD_non, eqD_tup, eqD_lst, eqD_tup0, eqD_lst0, der_int, der_str, der_bl, der_non, der_tup, der_lst, eqOk_int, eqOk_str, PR.wp, RS.wp, dV, List.getElem?_cons_zero, List.getElem?_cons_succ, List.getElem?_nil, List.set_cons_zero, List.set_cons_succ, List.length_cons, List.length_nil, Option.some.injEq, true_and, and_true, Bool.not_true, Bool.not_false, odd4, some_lst]
    exact ⟨⟨hD, by decide, by decide⟩, fun z1 g1 => ⟨⟨hD, by decide, by decide⟩, fun z2 g2 => ⟨by decide, ⟨hD, by simp, by simp⟩, fun z hz => h z (two g1 g2 z hz)⟩⟩⟩
  | tup _ =>
    simp only [n_law_bent, sC, sIf, sRt, sAs, sX, sN, sRtN, sRs, sBk, sPar, sPar3, sSub, DEnds.seq, DEnds.loop, endF, dAnd, dOr, dNot, dT, dTr, tru, dB, dCh, dC, dIsi, tyD_non, tyD_bl, tyD_int, tyD_str, tyD_tup, tyD_lst, isTN, dAndV, dOrV, dNotV, dIfE, aN, aC, dTup, dLst, dLstM_eq, dCall, dCB, dU, dSl, slD, oN, oS, gN, gT, gsC, gsN, lAny, lRng1, lRng2, lZip, itemsOf, lstOf, seqOf, dLc, wipeD, bYes, dFor, dApp, dMs, dErr, dRev, revD, dNotT, lEnum, lZip3, dCallV, opAddX, opSubX, opStrX, opAdd, opSub, opMod, opDiv, opPow, opMul, opLt, opGt, opLe, opGe, opEq, opNe, opIn, opNi, opInB, opIs, opIsn, opIsB, isNon, opNeg, opIx, opAll, opSum, opMin, opMax, opInt, opLen, opTup, opList, opBool, opJoin, eqD_int, eqD_str, eqD_bl, eqD_non, eqD_tup, eqD_lst, eqD_tup0, eqD_lst0, der_int, der_str, der_bl, der_non, der_tup, der_lst, eqOk_int, eqOk_str, PR.wp, RS.wp, dV, List.getElem?_cons_zero, List.getElem?_cons_succ, List.getElem?_nil, List.set_cons_zero, List.set_cons_succ, List.length_cons, List.length_nil, Option.some.injEq, true_and, and_true, Bool.not_true, Bool.not_false, odd4, some_lst]
    exact ⟨⟨hD, by decide, by decide⟩, fun z1 g1 => ⟨⟨hD, by decide, by decide⟩, fun z2 g2 => ⟨by decide, ⟨hD, by simp, by simp⟩, fun z hz => h z (two g1 g2 z hz)⟩⟩⟩
  | lst _ =>
    simp only [n_law_bent, sC, sIf, sRt, sAs, sX, sN, sRtN, sRs, sBk, sPar, sPar3, sSub, DEnds.seq, DEnds.loop, endF, dAnd, dOr, dNot, dT, dTr, tru, dB, dCh, dC, dIsi, tyD_non, tyD_bl, tyD_int, tyD_str, tyD_tup, tyD_lst, isTN, dAndV, dOrV, dNotV, dIfE, aN, aC, dTup, dLst, dLstM_eq, dCall, dCB, dU, dSl, slD, oN, oS, gN, gT, gsC, gsN, lAny, lRng1, lRng2, lZip, itemsOf, lstOf, seqOf, dLc, wipeD, bYes, dFor, dApp, dMs, dErr, dRev, revD, dNotT, lEnum, lZip3, dCallV, opAddX, opSubX, opStrX, opAdd, opSub, opMod, opDiv, opPow, opMul, opLt, opGt, opLe, opGe, opEq, opNe, opIn, opNi, opInB, opIs, opIsn, opIsB, isNon, opNeg, opIx, opAll, opSum, opMin, opMax, opInt, opLen, opTup, opList, opBool, opJoin, eqD_int, eqD_str, eqD_bl, eqD_non, eqD_tup, eqD_lst, eqD_tup0, eqD_lst0, der_int, der_str, der_bl, der_non, der_tup, der_lst, eqOk_int, eqOk_str, PR.wp, RS.wp, dV, List.getElem?_cons_zero, List.getElem?_cons_succ, List.getElem?_nil, List.set_cons_zero, List.set_cons_succ, List.length_cons, List.length_nil, Option.some.injEq, true_and, and_true, Bool.not_true, Bool.not_false, odd4, some_lst]
    exact ⟨⟨hD, by decide, by decide⟩, fun z1 g1 => ⟨⟨hD, by decide, by decide⟩, fun z2 g2 => ⟨by decide, ⟨hD, by simp, by simp⟩, fun z hz => h z (two g1 g2 z hz)⟩⟩⟩
theorem len_lo {α : Type} {xs : List α} {i : Int} (h : 0 ≤ i) : (cut xs none (some i)).length = min i.toNat xs.length := by
  have e1 : HT.sIx xs.length xs.length (some i) = min i.toNat xs.length := (if_neg (show ¬ i < 0 by omega) : (if i < 0 then (i + (xs.length : Int)).toNat else min i.toNat xs.length) = min i.toNat xs.length)
  have e2 : HT.sIx xs.length 0 none = 0 := rfl
  unfold cut
  rw [e1, e2, List.drop_zero, List.length_take]
  omega
theorem len_hi {α : Type} {xs : List α} {i : Int} (h : 0 ≤ i) : (cut xs (some i) none).length = xs.length - i.toNat := by
  have e1 : HT.sIx xs.length 0 (some i) = min i.toNat xs.length := (if_neg (show ¬ i < 0 by omega) : (if i < 0 then (i + (xs.length : Int)).toNat else min i.toNat xs.length) = min i.toNat xs.length)
  have e2 : HT.sIx xs.length xs.length none = xs.length := rfl
  unfold cut
  rw [e1, e2, List.length_take, List.length_drop]
  omega
theorem d_rest {N : Nat} {a : Addr} {x : D} {r : List D} {S : Sto} {Q : DK} {R : RK} (hD : S a = some .drum) {m0 d0 : Nat} (hm0 : m0 ≤ 100) (hN : d0 ≤ N) (hd0 : d0 ≤ 50) (hv : ov m0 d0 (.tup (x :: r)) = true) (h : ∀ z, (∀ m d, m ≤ 100 → ov m d (.tup (x :: r)) = true → ov (m + 1) (d + 3) z = true) → Q z S) {x2 x3 x4 : Option D} :
    r_law_bent (sp__law_bent N) [some (.obj a), some (.tup (x :: r)), x2, x3, x4] S (endF Q R) := by
  have hl : (x :: r).length ≤ 100 + m0 := by
    cases d0 with
    | zero => cases hv
    | succ d0 => exact (ov_tup.mp hv).1
  have go : ∀ xs : List D, xs.length ≤ (x :: r).length + 1 → (∀ y ∈ xs, y ∈ x :: r) → Q (.tup xs) S := fun xs hl hm => h _ fun m d hm1 q => by
    cases d with
    | zero => cases q
    | succ d =>
      obtain ⟨q1, q2⟩ := ov_tup.mp q
      exact ov_tup.mpr ⟨by omega, fun y hy => ov_mono (by omega) (by omega) (q2 y (hm y hy))⟩
  have big : (x :: r).length ≤ 200 := by omega
  have hpw : (200 : Int) < 2 ^ 1000 := by decide
  have hlp : 0 < (x :: r).length := by simp
  generalize hds : x :: r = ds at *
  simp only [r_law_bent, sC, sIf, sRt, sAs, sX, sN, sRtN, sRs, sBk, sPar, sPar3, sSub, DEnds.seq, DEnds.loop, endF, dAnd, dOr, dNot, dT, dTr, tru, dB, dCh, dC, dIsi, tyD_non, tyD_bl, tyD_int, tyD_str, tyD_tup, tyD_lst, isTN, dAndV, dOrV, dNotV, dIfE, aN, aC, dTup, dLst, dLstM_eq, dCall, dCB, dU, dSl, slD, oN, oS, gN, gT, gsC, gsN, lAny, lRng1, lRng2, lZip, itemsOf, lstOf, seqOf, dLc, wipeD, bYes, dFor, dApp, dMs, dErr, dRev, revD, dNotT, lEnum, lZip3, dCallV, opAddX, opSubX, opStrX, opAdd, opSub, opMod, opDiv, opPow, opMul, opLt, opGt, opLe, opGe, opEq, opNe, opIn, opNi, opInB, opIs, opIsn, opIsB, isNon, opNeg, opIx, opAll, opSum, opMin, opMax, opInt, opLen, opTup, opList, opBool, opJoin, eqD_int, eqD_str, eqD_bl, eqD_non, eqD_tup, eqD_lst, eqD_tup0, eqD_lst0, der_int, der_str, der_bl, der_non, der_tup, der_lst, eqOk_int, eqOk_str, PR.wp, RS.wp, dV, List.getElem?_cons_zero, List.getElem?_cons_succ, List.getElem?_nil, List.set_cons_zero, List.set_cons_succ, List.length_cons, List.length_nil, Option.some.injEq, true_and, and_true, Bool.not_true, Bool.not_false, roll_wp]
  refine ⟨⟨hD, by omega, by omega⟩, fun z hz => ?_⟩
  obtain ⟨i, rfl, i1, i2⟩ := hz
  simp only [sC, sIf, sRt, sAs, sX, sN, sRtN, sRs, sBk, sPar, sPar3, sSub, DEnds.seq, DEnds.loop, endF, dAnd, dOr, dNot, dT, dTr, tru, dB, dCh, dC, dIsi, tyD_non, tyD_bl, tyD_int, tyD_str, tyD_tup, tyD_lst, isTN, dAndV, dOrV, dNotV, dIfE, aN, aC, dTup, dLst, dLstM_eq, dCall, dCB, dU, dSl, slD, oN, oS, gN, gT, gsC, gsN, lAny, lRng1, lRng2, lZip, itemsOf, lstOf, seqOf, dLc, wipeD, bYes, dFor, dApp, dMs, dErr, dRev, revD, dNotT, lEnum, lZip3, dCallV, opAddX, opSubX, opStrX, opAdd, opSub, opMod, opDiv, opPow, opMul, opLt, opGt, opLe, opGe, opEq, opNe, opIn, opNi, opInB, opIs, opIsn, opIsB, isNon, opNeg, opIx, opAll, opSum, opMin, opMax, opInt, opLen, opTup, opList, opBool, opJoin, eqD_int, eqD_str, eqD_bl, eqD_non, eqD_tup, eqD_lst, eqD_tup0, eqD_lst0, der_int, der_str, der_bl, der_non, der_tup, der_lst, eqOk_int, eqOk_str, PR.wp, RS.wp, dV, List.getElem?_cons_zero, List.getElem?_cons_succ, List.getElem?_nil, List.set_cons_zero, List.set_cons_succ, List.length_cons, List.length_nil, Option.some.injEq, true_and, and_true, Bool.not_true, Bool.not_false, roll_wp]
  refine ⟨⟨hD, by decide, by decide⟩, fun z hz => ?_⟩
  obtain ⟨k, rfl, k1, k2⟩ := hz
  have c1 := len_lo (xs := ds) i1
  have c2 := len_hi (xs := ds) (i := i + 1) (by omega)
  have c3 := len_lo (xs := ds) (i := i + 1) (by omega)
  have c4 := len_hi (xs := ds) i1
  have ek : ∀ j : Int, eqD (der S (D.int k)) (D.int j) = decide (k = j) := fun j => eqD_int
  refine ⟨rfl, ?_⟩
  rw [ek]
  by_cases k0 : k = 0
  · rw [decide_eq_true k0]
    refine ⟨by omega, go _ (by rw [List.length_append]; omega) fun y hy => ?_⟩
    rcases List.mem_append.mp hy with hy | hy <;> exact cut_mem hy
  rw [decide_eq_false k0]
  refine ⟨rfl, ?_⟩
  rw [ek]
  by_cases k1 : k = 1
  · rw [decide_eq_true k1]
    refine ⟨by omega, go _ (by rw [List.length_append]; omega) fun y hy => ?_⟩
    rcases List.mem_append.mp hy with hy | hy <;> exact cut_mem hy
  rw [decide_eq_false k1]
  refine ⟨rfl, ?_⟩
  rw [ek]
  by_cases k2 : k = 2
  · rw [decide_eq_true k2]
    exact go _ (by rw [List.length_reverse]; omega) fun y hy => List.mem_reverse.mp hy
  rw [decide_eq_false k2]
  refine ⟨rfl, ?_⟩
  rw [ek]
  by_cases k3 : k = 3
  · rw [decide_eq_true k3]
    refine h _ fun m d hm1 q => ?_
    cases d with
    | zero => cases q
    | succ d =>
      obtain ⟨q1, q2⟩ := ov_tup.mp q
      exact ov_lst.mpr ⟨by omega, fun y hy => ov_mono (by omega) (by omega) (q2 y hy)⟩
  rw [decide_eq_false k3]
  have hat : atI ds i = some (ds[i.toNat]'(by omega)) := by
    have := atI_nat (xs := ds) (i := i.toNat) (by omega)
    rw [Int.toNat_of_nonneg i1] at this
    exact this
  have hmem : (ds[i.toNat]'(by omega)) ∈ ds := List.getElem_mem _
  rw [hat]
  generalize (ds[i.toNat]'(by omega)) = y at hmem
  dsimp only
  cases d0 with
  | zero => cases hv
  | succ d0 =>
    cases N with
    | zero => omega
    | succ N =>
      refine ⟨⟨hD, m0, d0, hm0, by omega, by omega, (ov_tup.mp hv).2 y hmem⟩, fun z hz => ?_⟩
      refine ⟨by decide, by omega, ?_, h _ fun m d hm1 q => ?_⟩
      · rw [List.length_append, show ([z] : List D).length = 1 from rfl]; omega
      · cases d with
        | zero => cases q
        | succ d =>
          obtain ⟨q1, q2⟩ := ov_tup.mp q
          refine ov_tup.mpr ⟨?_, fun w hw => ?_⟩
          · rw [List.length_append, List.length_append, show ([z] : List D).length = 1 from rfl]; omega
          · rcases List.mem_append.mp hw with hw | hw
            · rcases List.mem_append.mp hw with hw | hw
              · exact ov_mono (by omega) (by omega) (q2 w (cut_mem hw))
              · rw [List.mem_singleton.mp hw]
                exact hz m d hm1 (q2 y hmem)
            · exact ov_mono (by omega) (by omega) (q2 w (cut_mem hw))
theorem d__law_bent {N : Nat} {ds : List D} {S : Sto} {Q : DK} {R : RK} (h : ((sp__law_bent (N + 1)).g S ds).wp S Q R) : u__law_bent (sp__law_bent N) (dStart 5 ds) S (endF Q R) := by
  have hh := sp2_inv h
  clear h
  obtain ⟨dd, v, rfl, h⟩ := hh
  cases dd with
  | obj a =>
    replace h : (S a = some .drum ∧ ∃ m d, m ≤ 100 ∧ d ≤ N ∧ d ≤ 50 ∧ ov m d v = true) ∧ ∀ z, (∀ m d, m ≤ 100 → ov m d v = true → ov (m + 1) (d + 3) z = true) → Q z S := h
    obtain ⟨⟨hD, m0, d0, hm0, hN, hd0, hv⟩, h⟩ := h
    show u__law_bent (sp__law_bent N) [some (.obj a), some v, none, none, none] S _
    have near := d_near (R := R) hD hm0 hv h (x2 := none) (x3 := none) (x4 := none) (D0 := (endF Q R).seq (r_law_bent (sp__law_bent N))) rfl
    have hdk : dok 60 v = true := ov_dok (by omega) hv
    cases v with
    | tup ds =>
      simp only [u__law_bent, sC, sIf, sRt, sAs, sX, sN, sRtN, sRs, sBk, sPar, sPar3, sSub, DEnds.seq, DEnds.loop, endF, dAnd, dOr, dNot, dT, dTr, tru, dB, dCh, dC, dIsi, tyD_non, tyD_bl, tyD_int, tyD_str, tyD_tup, tyD_lst, isTN, dAndV, dOrV, dNotV, dIfE, aN, aC, dTup, dLst, dLstM_eq, dCall, dCB, dU, dSl, slD, oN, oS, gN, gT, gsC, gsN, lAny, lRng1, lRng2, lZip, itemsOf, lstOf, seqOf, dLc, wipeD, bYes, dFor, dApp, dMs, dErr, dRev, revD, dNotT, lEnum, lZip3, dCallV, opAddX, opSubX, opStrX, opAdd, opSub, opMod, opDiv, opPow, opMul, opLt, opGt, opLe, opGe, opEq, opNe, opIn, opNi, opInB, opIs, opIsn, opIsB, isNon, opNeg, opIx, opAll, opSum, opMin, opMax, opInt, opLen, opTup, opList, opBool, opJoin, eqD_int, eqD_str, eqD_bl, eqD_non, eqD_tup, eqD_lst, eqD_tup0, eqD_lst0, der_int, der_str, der_bl, der_non, der_tup, der_lst, eqOk_int, eqOk_str, PR.wp, RS.wp, dV, List.getElem?_cons_zero, List.getElem?_cons_succ, List.getElem?_nil, List.set_cons_zero, List.set_cons_succ, List.length_cons, List.length_nil, Option.some.injEq, true_and, and_true, Bool.not_true, Bool.not_false, roll_wp]
      refine ⟨Nat.zero_le _, by show (dok 60 (.tup ds) && true) = true; rw [hdk]; rfl, ?_⟩
      cases ds with
      | nil => exact near
      | cons x r =>
        have e1 : eqD (.tup (x :: r)) (.tup []) = false := rfl
        rw [e1]
        dsimp only
        refine ⟨⟨hD, by decide, by decide⟩, fun z hz => ?_⟩
        obtain ⟨i, rfl, i1, i2⟩ := hz
        refine ⟨rfl, ?_⟩
        rw [show eqD (der S (D.int i)) (D.int 0) = decide (i = 0) from eqD_int]
        by_cases i0 : i = 0
        · rw [decide_eq_true i0]; exact near
        · rw [decide_eq_false i0]
          exact d_rest hD hm0 hN hd0 hv h
    | non => simp only [u__law_bent, sC, sIf, sRt, sAs, sX, sN, sRtN, sRs, sBk, sPar, sPar3, sSub, DEnds.seq, DEnds.loop, endF, dAnd, dOr, dNot, dT, dTr, tru, dB, dCh, dC, dIsi, tyD_non, tyD_bl, tyD_int, tyD_str, tyD_tup, tyD_lst, isTN, dAndV, dOrV, dNotV, dIfE, aN, aC, dTup, dLst, dLstM_eq, dCall, dCB, dU, dSl, slD, oN, oS, gN, gT, gsC, gsN, lAny, lRng1, lRng2, lZip, itemsOf, lstOf, seqOf, dLc, wipeD, bYes, dFor, dApp, dMs, dErr, dRev, revD, dNotT, lEnum, lZip3, dCallV, opAddX, opSubX, opStrX, opAdd, opSub, opMod, opDiv, opPow, opMul, opLt, opGt, opLe, opGe, opEq, opNe, opIn, opNi, opInB, opIs, opIsn, opIsB, isNon, opNeg, opIx, opAll, opSum, opMin, opMax, opInt, opLen, opTup, opList, opBool, opJoin, eqD_int, eqD_str, eqD_bl, eqD_non, eqD_tup, eqD_lst, eqD_tup0, eqD_lst0, der_int, der_str, der_bl, der_non, der_tup, der_lst, eqOk_int, eqOk_str, PR.wp, RS.wp, dV, List.getElem?_cons_zero, List.getElem?_cons_succ, List.getElem?_nil, List.set_cons_zero, List.set_cons_succ, List.length_cons, List.length_nil, Option.some.injEq, true_and, and_true, Bool.not_true, Bool.not_false]; exact near
    | bl b => simp only [u__law_bent, sC, sIf, sRt, sAs, sX, sN, sRtN, sRs, sBk, sPar, sPar3, sSub, DEnds.seq, DEnds.loop, endF, dAnd, dOr, dNot, dT, dTr, tru, dB, dCh, dC, dIsi, tyD_non, tyD_bl, tyD_int, tyD_str, tyD_tup, tyD_lst, isTN, dAndV, dOrV, dNotV, dIfE, aN, aC, dTup, dLst, dLstM_eq, dCall, dCB, dU, dSl, slD, oN, oS, gN, gT, gsC, gsN, lAny, lRng1, lRng2, lZip, itemsOf, lstOf, seqOf, dLc, wipeD, bYes, dFor, dApp, dMs, dErr, dRev, revD, dNotT, lEnum, lZip3, dCallV, opAddX, opSubX, opStrX, opAdd, opSub, opMod, opDiv, opPow, opMul, opLt, opGt, opLe, opGe, opEq, opNe, opIn, opNi, opInB, opIs, opIsn, opIsB, isNon, opNeg, opIx, opAll, opSum, opMin, opMax, opInt, opLen, opTup, opList, opBool, opJoin, eqD_int, eqD_str, eqD_bl, eqD_non, eqD_tup, eqD_lst, eqD_tup0, eqD_lst0, der_int, der_str, der_bl, der_non, der_tup, der_lst, eqOk_int, eqOk_str, PR.wp, RS.wp, dV, List.getElem?_cons_zero, List.getElem?_cons_succ, List.getElem?_nil, List.set_cons_zero, List.set_cons_succ, List.length_cons, List.length_nil, Option.some.injEq, true_and, and_true, Bool.not_true, Bool.not_false]; exact near
    | int i => simp only [u__law_bent, sC, sIf, sRt, sAs, sX, sN, sRtN, sRs, sBk, sPar, sPar3, sSub, DEnds.seq, DEnds.loop, endF, dAnd, dOr, dNot, dT, dTr, tru, dB, dCh, dC, dIsi, tyD_non, tyD_bl, tyD_int, tyD_str, tyD_tup, tyD_lst, isTN, dAndV, dOrV, dNotV, dIfE, aN, aC, dTup, dLst, dLstM_eq, dCall, dCB, dU, dSl, slD, oN, oS, gN, gT, gsC, gsN, lAny, lRng1, lRng2, lZip, itemsOf, lstOf, seqOf, dLc, wipeD, bYes, dFor, dApp, dMs, dErr, dRev, revD, dNotT, lEnum, lZip3, dCallV, opAddX, opSubX, opStrX, opAdd, opSub, opMod, opDiv, opPow, opMul, opLt, opGt, opLe, opGe, opEq, opNe, opIn, opNi, opInB, opIs, opIsn, opIsB, isNon, opNeg, opIx, opAll, opSum, opMin, opMax, opInt, opLen, opTup, opList, opBool, opJoin, eqD_int, eqD_str, eqD_bl, eqD_non, eqD_tup, eqD_lst, eqD_tup0, eqD_lst0, der_int, der_str, der_bl, der_non, der_tup, der_lst, eqOk_int, eqOk_str, PR.wp, RS.wp, dV, List.getElem?_cons_zero, List.getElem?_cons_succ, List.getElem?_nil, List.set_cons_zero, List.set_cons_succ, List.length_cons, List.length_nil, Option.some.injEq, true_and, and_true, Bool.not_true, Bool.not_false]; exact near
    | str i => simp only [u__law_bent, sC, sIf, sRt, sAs, sX, sN, sRtN, sRs, sBk, sPar, sPar3, sSub, DEnds.seq, DEnds.loop, endF, dAnd, dOr, dNot, dT, dTr, tru, dB, dCh, dC, dIsi, tyD_non, tyD_bl, tyD_int, tyD_str, tyD_tup, tyD_lst, isTN, dAndV, dOrV, dNotV, dIfE, aN, aC, dTup, dLst, dLstM_eq, dCall, dCB, dU, dSl, slD, oN, oS, gN, gT, gsC, gsN, lAny, lRng1, lRng2, lZip, itemsOf, lstOf, seqOf, dLc, wipeD, bYes, dFor, dApp, dMs, dErr, dRev, revD, dNotT, lEnum, lZip3, dCallV, opAddX, opSubX, opStrX, opAdd, opSub, opMod, opDiv, opPow, opMul, opLt, opGt, opLe, opGe, opEq, opNe, opIn, opNi, opInB, opIs, opIsn, opIsB, isNon, opNeg, opIx, opAll, opSum, opMin, opMax, opInt, opLen, opTup, opList, opBool, opJoin, eqD_int, eqD_str, eqD_bl, eqD_non, eqD_tup, eqD_lst, eqD_tup0, eqD_lst0, der_int, der_str, der_bl, der_non, der_tup, der_lst, eqOk_int, eqOk_str, PR.wp, RS.wp, dV, List.getElem?_cons_zero, List.getElem?_cons_succ, List.getElem?_nil, List.set_cons_zero, List.set_cons_succ, List.length_cons, List.length_nil, Option.some.injEq, true_and, and_true, Bool.not_true, Bool.not_false]; exact near
    | lst i => simp only [u__law_bent, sC, sIf, sRt, sAs, sX, sN, sRtN, sRs, sBk, sPar, sPar3, sSub, DEnds.seq, DEnds.loop, endF, dAnd, dOr, dNot, dT, dTr, tru, dB, dCh, dC, dIsi, tyD_non, tyD_bl, tyD_int, tyD_str, tyD_tup, tyD_lst, isTN, dAndV, dOrV, dNotV, dIfE, aN, aC, dTup, dLst, dLstM_eq, dCall, dCB, dU, dSl, slD, oN, oS, gN, gT, gsC, gsN, lAny, lRng1, lRng2, lZip, itemsOf, lstOf, seqOf, dLc, wipeD, bYes, dFor, dApp, dMs, dErr, dRev, revD, dNotT, lEnum, lZip3, dCallV, opAddX, opSubX, opStrX, opAdd, opSub, opMod, opDiv, opPow, opMul, opLt, opGt, opLe, opGe, opEq, opNe, opIn, opNi, opInB, opIs, opIsn, opIsB, isNon, opNeg, opIx, opAll, opSum, opMin, opMax, opInt, opLen, opTup, opList, opBool, opJoin, eqD_int, eqD_str, eqD_bl, eqD_non, eqD_tup, eqD_lst, eqD_tup0, eqD_lst0, der_int, der_str, der_bl, der_non, der_tup, der_lst, eqOk_int, eqOk_str, PR.wp, RS.wp, dV, List.getElem?_cons_zero, List.getElem?_cons_succ, List.getElem?_nil, List.set_cons_zero, List.set_cons_succ, List.length_cons, List.length_nil, Option.some.injEq, true_and, and_true, Bool.not_true, Bool.not_false]; exact near
    | obj _ => cases d0 <;> cases hv
    | cst _ => cases d0 <;> cases hv
    | scr _ => cases d0 <;> cases hv
  | _ => exact h.elim
end DL

namespace DL
open PySem L2
def ids : List Nat := [3, 4]
def u_is_book : DS := sRt (dCall sp_fits_book (aC (dV 0) (aN)))
def b1_law_is_book : DS := sC (sIf (dOr (dNot (dTr (dIsi .str (dV 1)))) (dOr (dNot (dT (dCh opLe opLe (dC (.int 1)) (dCB opLen (aC (dV 1) (aN))) (dC (.int 12))))) (dT (dB opNe (dCB opLen (aC (dV 1) (aN))) (dCB opLen (aC (dB opIx (dB opIx (dV 0) (dC (.int 1))) (dC (.int 0))) (aN))))))) (sRt (dC (.bl false))) (sN)) (sIf (dT (dB opNe (dLc (lAny (dV 1)) (gN 2) (dT (dB opNi (dV 2) (dCB opList (aC (dSl (dC (.str [48, 49, 50, 51])) (oN) (oS (dB opIx (dV 0) (dC (.int 0))))) (aN))))) (dV 2) [2]) (dLst (aN)))) (sRt (dC (.bl false))) (sN))
def u__law_is_book : DS := sC (sIf (dOr (dNot (dTr (dIsi .tup (dV 0)))) (dOr (dT (dB opNe (dCB opLen (aC (dV 0) (aN))) (dC (.int 2)))) (dOr (dNot (dTr (dIsi .tup (dB opIx (dV 0) (dC (.int 1)))))) (dT (dB opGt (dCB opLen (aC (dB opIx (dV 0) (dC (.int 1))) (aN))) (dC (.int 40))))))) (sRt (dC (.bl false))) (sN)) (sC (sIf (dOr (dNot (dTr (dIsi .int (dB opIx (dV 0) (dC (.int 0)))))) (dOr (dTr (dIsi .bl (dB opIx (dV 0) (dC (.int 0))))) (dNot (dT (dCh opLe opLe (dC (.int 2)) (dB opIx (dV 0) (dC (.int 0))) (dC (.int 4))))))) (sRt (dC (.bl false))) (sN)) (sC (dFor (lAny (dB opIx (dV 0) (dC (.int 1)))) (gN 1) (b1_law_is_book)) (sRt (dB opEq (dCB opList (aC (dB opIx (dV 0) (dC (.int 1))) (aN))) (dU opSset (dB opIx (dV 0) (dC (.int 1))))))))
def j2_judged : DS := sC (sAs (dLstM (aC (dErr ids (dCall sp_shows (aC (dV 0) (aC (dC .non) (aN))))) (aN))) (gN 2)) (sC (sX (dApp (dV 2) (aC (dErr ids (dCall sp_bad_pair (aC (dV 0) (aC (dC (.int 0)) (aN))))) (aN)))) (sC (sX (dApp (dV 2) (aC (dErr ids (dCall sp_sure_steps (aC (dV 0) (aN)))) (aN)))) (sC (sX (dApp (dV 2) (aC (dErr ids (dCall sp_mends (aC (dV 0) (aN)))) (aN)))) (sRt (dB opEq (dV 2) (dB opMul (dLst (aC (dIfE (dTr (dV 1)) (dC (.str [])) (dC (.str [98, 111, 111, 107, 32, 118, 97, 108, 117, 101]))) (aN))) (dC (.int 4))))))))
def u__law_judged : DS := sC (sAs (dCall sp__law_is_book (aC (dV 0) (aN))) (gN 1)) (sC (sIf (dOr (dT (dB opNe (dCall sp_is_book (aC (dV 0) (aN))) (dV 1))) (dNot (dTr (dIsi .bl (dCall sp_is_book (aC (dV 0) (aN))))))) (sRt (dC (.bl false))) (sN)) j2_judged)
def b1_law : DS := sC (sAs (dCall (sp__law_bent 40) (aC (dV 4) (aC (dIfE (dT (dB opEq (dB opMod (dCB opInt (aC (dV 9) (aN))) (dC (.int 3))) (dC (.int 0)))) (dV 7) (dV 8)) (aN)))) (gN 8)) (sIf (dNot (dTr (dCall sp__law_judged (aC (dV 8) (aN))))) (sRt (dC (.bl false))) (sN))
def b2_law : DS := sC (sAs (dCall sp__law_book (aC (dV 4) (aC (dC (.int 9)) (aC (dC (.int 12)) (aN))))) (gN 7)) (sC (sIf (dOr (dNot (dTr (dCall sp__law_judged (aC (dV 7) (aN))))) (dNot (dTr (dCall sp__law_is_book (aC (dV 7) (aN)))))) (sRt (dC (.bl false))) (sN)) (sC (sAs (dV 7) (gN 8)) (dFor (lRng1 (aC (dC (.int 9)) (aN))) (gN 9) (b1_law))))
def b3_law : DS := sC (sIf (dT (dB opNe (dErr ids (dCall sp_shows (aC (dV 7) (aC (dV 6) (aN))))) (dC (.str [110, 117, 109, 98, 101, 114, 32, 118, 97, 108, 117, 101])))) (sRt (dC (.bl false))) (sN)) (sIf (dT (dB opNe (dErr ids (dCall sp_bad_pair (aC (dV 7) (aC (dV 6) (aN))))) (dC (.str [110, 117, 109, 98, 101, 114, 32, 118, 97, 108, 117, 101])))) (sRt (dC (.bl false))) (sN))
def b4t_law : DS := sC (sIf (dNot (dTr (dCall sp__law_judged (aC (dCall (sp__law_odd 4) (aC (dV 4) (aC (dC (.int 2)) (aN)))) (aN))))) (sRt (dC (.bl false))) (sN)) (dFor (lAny (dTup (aC (dC (.bl true)) (aC (dU opNeg (dC (.int 1))) (aC (dB opAdd (dB opPow (dC (.int 10)) (dC (.int 30))) (dC (.int 1))) (aC (dC (.str [48])) (aC (dTup (aC (dC (.int 1)) (aN))) (aN)))))))) (gN 6) (b3_law))
def b4_law : DS := sC (sAs (dCall sp__law_drum (aC (dV 1) (aC (dC (.int 3)) (aN)))) (gN 4)) (sC (dFor (lRng1 (aC (dC (.int 3)) (aN))) (gN 5) (b2_law)) b4t_law)
def e3_law : DS := sC (sAs (dCB opTup (aC (dSl (dCall sp__law_all (aC (dC (.int 4)) (aC (dC (.int 3)) (aN)))) (oN) (oS (dC (.int 41)))) (aN))) (gN 3)) (sRt (dAndV (dB opIs (dCall sp_is_book (aC (dTup (aC (dC (.int 4)) (aC (dSl (dV 3) (oN) (oS (dC (.int 40)))) (aN)))) (aN))) (dC (.bl true))) (dB opIs (dCall sp_is_book (aC (dTup (aC (dC (.int 4)) (aC (dV 3) (aN)))) (aN))) (dC (.bl false)))))
def e2_law : DS := sC (sIf (dT (dB opNe (dLc (lAny (dSl (dV 2) (oN) (oS (dC (.int 9))))) (gN 10) (bYes) (dCall sp_is_book (aC (dV 10) (aN))) [10]) (dLst (aC (dC (.bl false)) (aC (dC (.bl false)) (aC (dC (.bl true)) (aC (dC (.bl false)) (aC (dC (.bl true)) (aC (dC (.bl false)) (aC (dC (.bl false)) (aC (dC (.bl false)) (aC (dC (.bl false)) (aN))))))))))))) (sRt (dC (.bl false))) (sN)) (sC (sIf (dT (dB opNe (dLc (lAny (dSl (dV 2) (oS (dC (.int 9))) (oN))) (gN 10) (bYes) (dCall sp_is_book (aC (dV 10) (aN))) [10]) (dLst (aC (dC (.bl true)) (aC (dC (.bl false)) (aC (dC (.bl false)) (aC (dC (.bl false)) (aC (dC (.bl false)) (aN))))))))) (sRt (dC (.bl false))) (sN)) e3_law)
def e_law : DS := sC (sAs (dLst (aC (dTup (aC (dC (.int 2)) (aC (dTup (aC (dC (.str [48, 49])) (aC (dC (.str [49])) (aN)))) (aN)))) (aC (dTup (aC (dC (.int 2)) (aC (dTup (aC (dC (.str [49])) (aC (dC (.str [48])) (aN)))) (aN)))) (aC (dTup (aC (dC (.int 2)) (aC (dTup (aN)) (aN)))) (aC (dTup (aC (dC (.int 2)) (aC (dTup (aC (dC (.str [50])) (aN))) (aN)))) (aC (dTup (aC (dC (.int 3)) (aC (dTup (aC (dC (.str [50])) (aN))) (aN)))) (aC (dTup (aC (dC (.int 1)) (aC (dTup (aN)) (aN)))) (aC (dTup (aC (dC (.int 5)) (aC (dTup (aN)) (aN)))) (aC (dTup (aC (dC (.bl true)) (aC (dTup (aN)) (aN)))) (aC (dTup (aC (dC (.int 2)) (aC (dLst (aN)) (aN)))) (aN))))))))))) (gN 2)) (sC (sAs (dB opAdd (dV 2) (dLst (aC (dTup (aC (dC (.int 2)) (aC (dTup (aC (dB opMul (dC (.str [48])) (dC (.int 12))) (aN))) (aN)))) (aC (dTup (aC (dC (.int 2)) (aC (dTup (aC (dB opMul (dC (.str [48])) (dC (.int 13))) (aN))) (aN)))) (aC (dTup (aC (dC (.int 2)) (aC (dTup (aC (dC (.str [])) (aN))) (aN)))) (aC (dLst (aC (dC (.int 2)) (aC (dTup (aN)) (aN)))) (aC (dTup (aC (dC (.int 2)) (aC (dTup (aC (dC (.str [48])) (aC (dC (.str [48])) (aN)))) (aN)))) (aN)))))))) (gN 2)) e2_law)
def u_law : DS := sC (dFor (lAny (dSl (dB opAdd (dLst (aC (dC (.int 0)) (aN))) (dV 0)) (oN) (oS (dC (.int 8))))) (gN 1) (b4_law)) e_law
theorem d_is_book {ds : List D} {S : Sto} {Q : DK} {R : RK} (h : (sp_is_book.g S ds).wp S Q R) : u_is_book (dStart 1 ds) S (endF Q R) := by
  have hh := sp1_inv h
  clear h
  obtain ⟨v, rfl, h1, h⟩ := hh
  exact ⟨h1, h⟩
def goodD (s : Int) (n : Nat) : D → Bool
  | .str w => decide (1 ≤ w.length) && decide (w.length ≤ 12) && okW s n w
  | _ => false
def hdL : List D → Nat
  | .str w :: _ => w.length
  | _ => 0
theorem good_of {s : Int} {l : List (List Nat)} (h : bkL s l = true) : ∀ d ∈ l.map D.str, goodD s (hdL (l.map D.str)) d = true := by
  cases l with
  | nil => intro d hd; cases hd
  | cons x r =>
    intro d hd
    obtain ⟨w, hw, rfl⟩ := List.mem_map.mp hd
    obtain ⟨⟨h1, h2⟩, _, h3⟩ := bkL_iff.mp h
    obtain ⟨g1, g2⟩ := h3 w hw
    show (decide (1 ≤ w.length) && decide (w.length ≤ 12) && (decide (w.length = x.length) && w.all fun c => decide (c ∈ figs s))) = true
    rw [decide_eq_true (by omega), decide_eq_true (by omega), decide_eq_true g1]
    exact List.all_eq_true.mpr fun c hc => decide_eq_true (g2 c hc)
theorem isBk_good {s : Int} {ws : List D} (h : isBk (.tup [.int s, .tup ws]) = true) : ∀ d ∈ ws, goodD s (hdL ws) d = true := by
  obtain ⟨s', l, e, _, _, _, hb, _⟩ := isBk_inv h
  obtain ⟨e1, e2⟩ := List.cons.inj (D.tup.inj e)
  obtain rfl := D.int.inj e1
  obtain rfl := D.tup.inj (List.cons.inj e2).1
  exact good_of hb
theorem good_str {s : Int} {n : Nat} : ∀ {ws : List D}, (∀ d ∈ ws, goodD s n d = true) → ∃ l : List (List Nat), ws = l.map D.str
  | [], _ => ⟨[], rfl⟩
  | d :: r, h => by
    obtain ⟨l, rfl⟩ := good_str fun x hx => h x (List.mem_cons_of_mem _ hx)
    have := h d List.mem_cons_self
    cases d with
    | str w => exact ⟨w :: l, rfl⟩
    | _ => cases this
theorem good_bk {s : Int} {l : List (List Nat)} (h : ∀ d ∈ l.map D.str, goodD s (hdL (l.map D.str)) d = true) : bkL s l = ascB l := by
  cases l with
  | nil => rfl
  | cons x r =>
    have g : ∀ w ∈ x :: r, (1 ≤ w.length ∧ w.length ≤ 12) ∧ w.length = x.length ∧ ∀ c ∈ w, c ∈ figs s := fun w hw => by
      have := h (.str w) (List.mem_map.mpr ⟨w, hw, rfl⟩)
      replace this : (decide (1 ≤ w.length) && decide (w.length ≤ 12) && (decide (w.length = x.length) && w.all fun c => decide (c ∈ figs s))) = true := this
      rw [Bool.and_eq_true, Bool.and_eq_true, Bool.and_eq_true, List.all_eq_true] at this
      exact ⟨⟨of_decide_eq_true this.1.1, of_decide_eq_true this.1.2⟩, of_decide_eq_true this.2.1, fun c hc => of_decide_eq_true (this.2.2 c hc)⟩
    rw [Bool.eq_iff_iff, bkL_iff]
    exact ⟨fun z => z.2.1, fun z => ⟨(g x List.mem_cons_self).1, z, fun w hw => (g w hw).2⟩⟩
theorem d_b1ib {s : Int} {ws : List D} {d : D} (hk : dok 58 d = true) (hd : ∀ w, d = .str w → ∃ w0 r, ws = .str w0 :: r) {x2 : Option D} {D0 : DEnds}
    (ok : goodD s (hdL ws) d = true → D0.nx [some (.tup [.int s, .tup ws]), some d, x2] S) (no : goodD s (hdL ws) d = false → D0.rt (.bl false) S) :
    b1_law_is_book [some (.tup [.int s, .tup ws]), some d, x2] S D0 := by
  have i0 : atI [D.int s, .tup ws] (0 : Int) = some (.int s) := rfl
  have i1 : atI [D.int s, .tup ws] (1 : Int) = some (.tup ws) := rfl
  cases d with
  | str w =>
    obtain ⟨w0, r, rfl⟩ := hd w rfl
    have i2 : atI (D.str w0 :: r) (0 : Int) = some (.str w0) := atI_nat (xs := D.str w0 :: r) (i := 0) (by simp)
    have eg : goodD s (hdL (.str w0 :: r)) (.str w) = (decide (1 ≤ w.length) && decide (w.length ≤ 12) && (decide (w.length = w0.length) && w.all fun c => decide (c ∈ figs s))) := rfl
    rw [eg] at ok no
    simp only [b1_law_is_book, sC, sIf, sRt, sAs, sX, sN, sRtN, sRs, sBk, sPar, sPar3, sSub, DEnds.seq, DEnds.loop, endF, dAnd, dOr, dNot, dT, dTr, tru, dB, dCh, dC, dIsi, tyD_non, tyD_bl, tyD_int, tyD_str, tyD_tup, tyD_lst, isTN, dAndV, dOrV, dNotV, dIfE, aN, aC, dTup, dLst, dLstM, dCall, dCB, dU, dSl, slD, oN, oS, gN, gT, gsC, gsN, lAny, lRng1, lRng2, lZip, itemsOf, lstOf, seqOf, dLc, wipeD, bYes, dFor, dApp, dMs, dErr, dRev, revD, dNotT, lEnum, lZip3, dCallV, opAddX, opSubX, opStrX, opAdd, opSub, opMod, opDiv, opPow, opMul, opLt, opGt, opLe, opGe, opEq, opNe, opIn, opNi, opInB, opIs, opIsn, opIsB, isNon, opNeg, opIx, opAll, opSum, opMin, opMax, opInt, opLen, opTup, opList, opBool, opJoin, eqD_int, eqD_str, eqD_bl, eqD_non, eqD_tup, eqD_lst, eqD_tup0, eqD_lst0, der_int, der_str, der_bl, der_non, der_tup, der_lst, eqOk_int, eqOk_str, PR.wp, RS.wp, sp0, sp1, sp2, sp3, sp4, dV, List.getElem?_cons_zero, List.getElem?_cons_succ, List.getElem?_nil, List.set_cons_zero, List.set_cons_succ, List.length_cons, List.length_nil, Option.some.injEq, true_and, and_true, Bool.not_true, Bool.not_false, i0, i1, i2]
    by_cases h1 : 1 ≤ w.length
    · rw [decide_eq_true h1, Bool.true_and] at ok no
      rw [decide_eq_true (show (1 : Int) ≤ w.length by omega)]
      dsimp only
      by_cases h2 : w.length ≤ 12
      · rw [decide_eq_true h2, Bool.true_and] at ok no
        rw [decide_eq_true (show (w.length : Int) ≤ 12 by omega)]
        simp only [Bool.not_true]
        by_cases h3 : w.length = w0.length
        · rw [decide_eq_true h3, Bool.true_and] at ok no
          rw [decide_eq_true (show (w.length : Int) = w0.length by omega)]
          simp only [Bool.not_true]
          refine lc_mf (fun c : Nat => D.str [c]) (fun y => !decide (y ∈ figs s)) (fun c : Nat => D.str [c]) w [] (fun y hy KN KY q => ?_) ?_
          · simp only [lcStep, sC, sIf, sRt, sAs, sX, sN, sRtN, sRs, sBk, sPar, sPar3, sSub, DEnds.seq, DEnds.loop, endF, dAnd, dOr, dNot, dT, dTr, tru, dB, dCh, dC, dIsi, tyD_non, tyD_bl, tyD_int, tyD_str, tyD_tup, tyD_lst, isTN, dAndV, dOrV, dNotV, dIfE, aN, aC, dTup, dLst, dLstM, dCall, dCB, dU, dSl, slD, oN, oS, gN, gT, gsC, gsN, lAny, lRng1, lRng2, lZip, itemsOf, lstOf, seqOf, dLc, wipeD, bYes, dFor, dApp, dMs, dErr, dRev, revD, dNotT, lEnum, lZip3, dCallV, opAddX, opSubX, opStrX, opAdd, opSub, opMod, opDiv, opPow, opMul, opLt, opGt, opLe, opGe, opEq, opNe, opIn, opNi, opInB, opIs, opIsn, opIsB, isNon, opNeg, opIx, opAll, opSum, opMin, opMax, opInt, opLen, opTup, opList, opBool, opJoin, eqD_int, eqD_str, eqD_bl, eqD_non, eqD_tup, eqD_lst, eqD_tup0, eqD_lst0, der_int, der_str, der_bl, der_non, der_tup, der_lst, eqOk_int, eqOk_str, PR.wp, RS.wp, sp0, sp1, sp2, sp3, sp4, dV, List.getElem?_cons_zero, List.getElem?_cons_succ, List.getElem?_nil, List.set_cons_zero, List.set_cons_succ, List.length_cons, List.length_nil, Option.some.injEq, true_and, and_true, Bool.not_true, Bool.not_false, i0]
            refine ⟨⟨rfl, all_figs⟩, ?_⟩
            rw [any_figs]
            cases hd : decide (y ∈ figs s) with
            | true => rw [hd] at q; exact q
            | false => rw [hd] at q; exact q
          · rw [List.nil_append]
            have hm : ((w.filter fun y => !decide (y ∈ figs s)).map fun c => D.str [c]) = ((w.filter fun y => !decide (y ∈ figs s)).map fun c => [c]).map D.str := by rw [List.map_map]; rfl
            rw [hm]
            refine ⟨Nat.zero_le _, eqOk_strs (m := []), ?_⟩
            rw [show ∀ l : List (List Nat), eqD (.lst (l.map D.str)) (.lst []) = decide (l = []) from fun l => eqD_strs2 l []]
            cases ha : (w.all fun c_1 => decide (c_1 ∈ figs s)) with
            | true =>
              have : (w.filter fun y => !decide (y ∈ figs s)) = [] := by
                rw [List.filter_eq_nil_iff]
                intro y hy
                rw [List.all_eq_true] at ha
                rw [ha y hy]
                exact Bool.false_ne_true
              rw [this]
              exact ok ha
            | false =>
              have : ¬ (w.filter fun y => !decide (y ∈ figs s)).map (fun c => [c]) = [] := by
                rw [List.map_eq_nil_iff, List.filter_eq_nil_iff]
                intro g
                have : (w.all fun c_1 => decide (c_1 ∈ figs s)) = true := List.all_eq_true.mpr fun y hy => by
                  have := g y hy
                  cases hd : decide (y ∈ figs s) with
                  | true => rfl
                  | false => rw [hd] at this; exact absurd rfl this
                rw [ha] at this
                cases this
              rw [decide_eq_false this]
              exact no ha
        · rw [decide_eq_false h3, Bool.false_and] at no
          rw [decide_eq_false (show ¬(w.length : Int) = w0.length by omega)]
          exact no rfl
      · rw [decide_eq_false h2, Bool.false_and] at no
        rw [decide_eq_false (show ¬(w.length : Int) ≤ 12 by omega)]
        exact no rfl
    · rw [decide_eq_false h1, Bool.false_and, Bool.false_and] at no
      rw [decide_eq_false (show ¬(1 : Int) ≤ w.length by omega)]
      exact no rfl
  | non => simp only [b1_law_is_book, sC, sIf, sRt, sAs, sX, sN, sRtN, sRs, sBk, sPar, sPar3, sSub, DEnds.seq, DEnds.loop, endF, dAnd, dOr, dNot, dT, dTr, tru, dB, dCh, dC, dIsi, tyD_non, tyD_bl, tyD_int, tyD_str, tyD_tup, tyD_lst, isTN, dAndV, dOrV, dNotV, dIfE, aN, aC, dTup, dLst, dLstM, dCall, dCB, dU, dSl, slD, oN, oS, gN, gT, gsC, gsN, lAny, lRng1, lRng2, lZip, itemsOf, lstOf, seqOf, dLc, wipeD, bYes, dFor, dApp, dMs, dErr, dRev, revD, dNotT, lEnum, lZip3, dCallV, opAddX, opSubX, opStrX, opAdd, opSub, opMod, opDiv, opPow, opMul, opLt, opGt, opLe, opGe, opEq, opNe, opIn, opNi, opInB, opIs, opIsn, opIsB, isNon, opNeg, opIx, opAll, opSum, opMin, opMax, opInt, opLen, opTup, opList, opBool, opJoin, eqD_int, eqD_str, eqD_bl, eqD_non, eqD_tup, eqD_lst, eqD_tup0, eqD_lst0, der_int, der_str, der_bl, der_non, der_tup, der_lst, eqOk_int, eqOk_str, PR.wp, RS.wp, sp0, sp1, sp2, sp3, sp4, dV, List.getElem?_cons_zero, List.getElem?_cons_succ, List.getElem?_nil, List.set_cons_zero, List.set_cons_succ, List.length_cons, List.length_nil, Option.some.injEq, true_and, and_true, Bool.not_true, Bool.not_false]; exact no rfl
  | bl _ => simp only [b1_law_is_book, sC, sIf, sRt, sAs, sX, sN, sRtN, sRs, sBk, sPar, sPar3, sSub, DEnds.seq, DEnds.loop, endF, dAnd, dOr, dNot, dT, dTr, tru, dB, dCh, dC, dIsi, tyD_non, tyD_bl, tyD_int, tyD_str, tyD_tup, tyD_lst, isTN, dAndV, dOrV, dNotV, dIfE, aN, aC, dTup, dLst, dLstM, dCall, dCB, dU, dSl, slD, oN, oS, gN, gT, gsC, gsN, lAny, lRng1, lRng2, lZip, itemsOf, lstOf, seqOf, dLc, wipeD, bYes, dFor, dApp, dMs, dErr, dRev, revD, dNotT, lEnum, lZip3, dCallV, opAddX, opSubX, opStrX, opAdd, opSub, opMod, opDiv, opPow, opMul, opLt, opGt, opLe, opGe, opEq, opNe, opIn, opNi, opInB, opIs, opIsn, opIsB, isNon, opNeg, opIx, opAll, opSum, opMin, opMax, opInt, opLen, opTup, opList, opBool, opJoin, eqD_int, eqD_str, eqD_bl, eqD_non, eqD_tup, eqD_lst, eqD_tup0, eqD_lst0, der_int, der_str, der_bl, der_non, der_tup, der_lst, eqOk_int, eqOk_str, PR.wp, RS.wp, sp0, sp1, sp2, sp3, sp4, dV, List.getElem?_cons_zero, List.getElem?_cons_succ, List.getElem?_nil, List.set_cons_zero, List.set_cons_succ, List.length_cons, List.length_nil, Option.some.injEq, true_and, and_true, Bool.not_true, Bool.not_false]; exact no rfl
  | int _ => simp only [b1_law_is_book, sC, sIf, sRt, sAs, sX, sN, sRtN, sRs, sBk, sPar, sPar3, sSub, DEnds.seq, DEnds.loop, endF, dAnd, dOr, dNot, dT, dTr, tru, dB, dCh, dC, dIsi, tyD_non, tyD_bl, tyD_int, tyD_str, tyD_tup, tyD_lst, isTN, dAndV, dOrV, dNotV, dIfE, aN, aC, dTup, dLst, dLstM, dCall, dCB, dU, dSl, slD, oN, oS, gN, gT, gsC, gsN, lAny, lRng1, lRng2, lZip, itemsOf, lstOf, seqOf, dLc, wipeD, bYes, dFor, dApp, dMs, dErr, dRev, revD, dNotT, lEnum, lZip3, dCallV, opAddX, opSubX, opStrX, opAdd, opSub, opMod, opDiv, opPow, opMul, opLt, opGt, opLe, opGe, opEq, opNe, opIn, opNi, opInB, opIs, opIsn, opIsB, isNon, opNeg, opIx, opAll, opSum, opMin, opMax, opInt, opLen, opTup, opList, opBool, opJoin, eqD_int, eqD_str, eqD_bl, eqD_non, eqD_tup, eqD_lst, eqD_tup0, eqD_lst0, der_int, der_str, der_bl, der_non, der_tup, der_lst, eqOk_int, eqOk_str, PR.wp, RS.wp, sp0, sp1, sp2, sp3, sp4, dV, List.getElem?_cons_zero, List.getElem?_cons_succ, List.getElem?_nil, List.set_cons_zero, List.set_cons_succ, List.length_cons, List.length_nil, Option.some.injEq, true_and, and_true, Bool.not_true, Bool.not_false]; exact no rfl
  | tup _ => simp only [b1_law_is_book, sC, sIf, sRt, sAs, sX, sN, sRtN, sRs, sBk, sPar, sPar3, sSub, DEnds.seq, DEnds.loop, endF, dAnd, dOr, dNot, dT, dTr, tru, dB, dCh, dC, dIsi, tyD_non, tyD_bl, tyD_int, tyD_str, tyD_tup, tyD_lst, isTN, dAndV, dOrV, dNotV, dIfE, aN, aC, dTup, dLst, dLstM, dCall, dCB, dU, dSl, slD, oN, oS, gN, gT, gsC, gsN, lAny, lRng1, lRng2, lZip, itemsOf, lstOf, seqOf, dLc, wipeD, bYes, dFor, dApp, dMs, dErr, dRev, revD, dNotT, lEnum, lZip3, dCallV, opAddX, opSubX, opStrX, opAdd, opSub, opMod, opDiv, opPow, opMul, opLt, opGt, opLe, opGe, opEq, opNe, opIn, opNi, opInB, opIs, opIsn, opIsB, isNon, opNeg, opIx, opAll, opSum, opMin, opMax, opInt, opLen, opTup, opList, opBool, opJoin, eqD_int, eqD_str, eqD_bl, eqD_non, eqD_tup, eqD_lst, eqD_tup0, eqD_lst0, der_int, der_str, der_bl, der_non, der_tup, der_lst, eqOk_int, eqOk_str, PR.wp, RS.wp, sp0, sp1, sp2, sp3, sp4, dV, List.getElem?_cons_zero, List.getElem?_cons_succ, List.getElem?_nil, List.set_cons_zero, List.set_cons_succ, List.length_cons, List.length_nil, Option.some.injEq, true_and, and_true, Bool.not_true, Bool.not_false]; exact no rfl
  | lst _ => simp only [b1_law_is_book, sC, sIf, sRt, sAs, sX, sN, sRtN, sRs, sBk, sPar, sPar3, sSub, DEnds.seq, DEnds.loop, endF, dAnd, dOr, dNot, dT, dTr, tru, dB, dCh, dC, dIsi, tyD_non, tyD_bl, tyD_int, tyD_str, tyD_tup, tyD_lst, isTN, dAndV, dOrV, dNotV, dIfE, aN, aC, dTup, dLst, dLstM, dCall, dCB, dU, dSl, slD, oN, oS, gN, gT, gsC, gsN, lAny, lRng1, lRng2, lZip, itemsOf, lstOf, seqOf, dLc, wipeD, bYes, dFor, dApp, dMs, dErr, dRev, revD, dNotT, lEnum, lZip3, dCallV, opAddX, opSubX, opStrX, opAdd, opSub, opMod, opDiv, opPow, opMul, opLt, opGt, opLe, opGe, opEq, opNe, opIn, opNi, opInB, opIs, opIsn, opIsB, isNon, opNeg, opIx, opAll, opSum, opMin, opMax, opInt, opLen, opTup, opList, opBool, opJoin, eqD_int, eqD_str, eqD_bl, eqD_non, eqD_tup, eqD_lst, eqD_tup0, eqD_lst0, der_int, der_str, der_bl, der_non, der_tup, der_lst, eqOk_int, eqOk_str, PR.wp, RS.wp, sp0, sp1, sp2, sp3, sp4, dV, List.getElem?_cons_zero, List.getElem?_cons_succ, List.getElem?_nil, List.set_cons_zero, List.set_cons_succ, List.length_cons, List.length_nil, Option.some.injEq, true_and, and_true, Bool.not_true, Bool.not_false]; exact no rfl
  | _ => cases hk
theorem d_ib_loop {s : Int} {ws : List D} {S : Sto} {Q : DK} (hk : ∀ d ∈ ws, dok 58 d = true) (hl : ws.length ≤ 40)
    (h : Q (.bl (match sts ws with | some l => bkL s l | none => false)) S) {x1 x2 : Option D} {D0 : DEnds} (hrt : D0.rt = Q)
    (hnx : ∀ (l : List (List Nat)) x1 x2, ws = l.map D.str → (Q (.bl (ascB l)) S) → D0.nx [some (.tup [.int s, .tup ws]), x1, x2] S) :
    forGo (gN 1) b1_law_is_book ws [some (.tup [.int s, .tup ws]), x1, x2] S D0 := by
  subst hrt
  have bad : ∀ d ∈ ws, goodD s (hdL ws) d = false → D0.rt (.bl false) S := fun d hd hg => by
    have : (match sts ws with | some l => bkL s l | none => false) = false := by
      cases e : sts ws with
      | none => rfl
      | some l =>
        cases e2 : bkL s l with
        | false => exact e2
        | true =>
          have hw : ws = l.map D.str := sts_eq e
          rw [hw] at hg hd
          rw [good_of e2 d hd] at hg
          cases hg
    rw [this] at h
    exact h
  have key : ∀ (rest : List D), ∀ done, ws = done ++ rest → (∀ d ∈ done, goodD s (hdL ws) d = true) → ∀ x1 x2, forGo (gN 1) b1_law_is_book rest [some (.tup [.int s, .tup ws]), x1, x2] S D0 := by
    intro rest
    induction rest with
    | nil =>
      intro done e hg x1 x2
      rw [List.append_nil] at e
      subst e
      obtain ⟨l, hl2⟩ := good_str hg
      refine hnx l x1 x2 hl2 ?_
      rw [hl2] at h hg
      rw [sts_of] at h
      rw [← good_bk hg]
      exact h
    | cons d r ih =>
      intro done e hg x1 x2
      have hm : d ∈ ws := by rw [e]; exact List.mem_append_right _ List.mem_cons_self
      show gN 1 d [some (.tup [.int s, .tup ws]), x1, x2] S fun e1 S1 => b1_law_is_book e1 S1 (D0.loop fun e2 S2 => forGo (gN 1) b1_law_is_book r e2 S2 D0)
      refine d_b1ib (hk d hm) (fun w hw => ?_) (fun g => ?_) (fun g => bad d hm g)
      · cases done with
        | nil => exact ⟨w, r, by rw [e, hw]; rfl⟩
        | cons d0 dr =>
          have := hg d0 List.mem_cons_self
          cases d0 with
          | str w0 => exact ⟨w0, dr ++ d :: r, by rw [e]; rfl⟩
          | _ => cases this
      · refine ih (done ++ [d]) (by rw [e, List.append_assoc]; rfl) (fun y hy => ?_) _ _
        rcases List.mem_append.mp hy with hy | hy
        · exact hg y hy
        · rw [List.mem_singleton.mp hy]; exact g
  exact key ws [] rfl (fun _ hd => by cases hd) x1 x2
theorem dokL_mem {m : Nat} {xs : List D} (h : dokL m xs = true) {d : D} (hd : d ∈ xs) : dok m d = true := by
  induction xs with
  | nil => cases hd
  | cons x r ih =>
    have h : (dok m x && dokL m r) = true := h
    rw [Bool.and_eq_true] at h
    rcases List.mem_cons.mp hd with rfl | hd
    · exact h.1
    · exact ih h.2 hd
theorem d__law_is_book {ds : List D} {S : Sto} {Q : DK} {R : RK} (h : (sp__law_is_book.g S ds).wp S Q R) : u__law_is_book (dStart 3 ds) S (endF Q R) := by
  have hh := sp1_inv h
  clear h
  obtain ⟨v, rfl, hk, h⟩ := hh
  replace h : Q (.bl (isBk v)) S := h
  show u__law_is_book [some v, none, none] S _
  cases v with
  | tup ds =>
    match ds, hk, h with
    | [], hk, h => simp only [u__law_is_book, sC, sIf, sRt, sAs, sX, sN, sRtN, sRs, sBk, sPar, sPar3, sSub, DEnds.seq, DEnds.loop, endF, dAnd, dOr, dNot, dT, dTr, tru, dB, dCh, dC, dIsi, tyD_non, tyD_bl, tyD_int, tyD_str, tyD_tup, tyD_lst, isTN, dAndV, dOrV, dNotV, dIfE, aN, aC, dTup, dLst, dLstM, dCall, dCB, dU, dSl, slD, oN, oS, gN, gT, gsC, gsN, lAny, lRng1, lRng2, lZip, itemsOf, lstOf, seqOf, dLc, wipeD, bYes, dFor, dApp, dMs, dErr, dRev, revD, dNotT, lEnum, lZip3, dCallV, opAddX, opSubX, opStrX, opAdd, opSub, opMod, opDiv, opPow, opMul, opLt, opGt, opLe, opGe, opEq, opNe, opIn, opNi, opInB, opIs, opIsn, opIsB, isNon, opNeg, opIx, opAll, opSum, opMin, opMax, opInt, opLen, opTup, opList, opBool, opJoin, eqD_int, eqD_str, eqD_bl, eqD_non, eqD_tup, eqD_lst, eqD_tup0, eqD_lst0, der_int, der_str, der_bl, der_non, der_tup, der_lst, eqOk_int, eqOk_str, PR.wp, RS.wp, sp0, sp1, sp2, sp3, sp4, dV, List.getElem?_cons_zero, List.getElem?_cons_succ, List.getElem?_nil, List.set_cons_zero, List.set_cons_succ, List.length_cons, List.length_nil, Option.some.injEq, true_and, and_true, Bool.not_true, Bool.not_false]; exact h
    | [x], hk, h => simp only [u__law_is_book, sC, sIf, sRt, sAs, sX, sN, sRtN, sRs, sBk, sPar, sPar3, sSub, DEnds.seq, DEnds.loop, endF, dAnd, dOr, dNot, dT, dTr, tru, dB, dCh, dC, dIsi, tyD_non, tyD_bl, tyD_int, tyD_str, tyD_tup, tyD_lst, isTN, dAndV, dOrV, dNotV, dIfE, aN, aC, dTup, dLst, dLstM, dCall, dCB, dU, dSl, slD, oN, oS, gN, gT, gsC, gsN, lAny, lRng1, lRng2, lZip, itemsOf, lstOf, seqOf, dLc, wipeD, bYes, dFor, dApp, dMs, dErr, dRev, revD, dNotT, lEnum, lZip3, dCallV, opAddX, opSubX, opStrX, opAdd, opSub, opMod, opDiv, opPow, opMul, opLt, opGt, opLe, opGe, opEq, opNe, opIn, opNi, opInB, opIs, opIsn, opIsB, isNon, opNeg, opIx, opAll, opSum, opMin, opMax, opInt, opLen, opTup, opList, opBool, opJoin, eqD_int, eqD_str, eqD_bl, eqD_non, eqD_tup, eqD_lst, eqD_tup0, eqD_lst0, der_int, der_str, der_bl, der_non, der_tup, der_lst, eqOk_int, eqOk_str, PR.wp, RS.wp, sp0, sp1, sp2, sp3, sp4, dV, List.getElem?_cons_zero, List.getElem?_cons_succ, List.getElem?_nil, List.set_cons_zero, List.set_cons_succ, List.length_cons, List.length_nil, Option.some.injEq, true_and, and_true, Bool.not_true, Bool.not_false]; cases x <;> exact h
    | x :: y :: z :: r, hk, h =>
      have e : isBk (.tup (x :: y :: z :: r)) = false := by cases x <;> cases y <;> rfl
      rw [e] at h
      simp only [u__law_is_book, sC, sIf, sRt, sAs, sX, sN, sRtN, sRs, sBk, sPar, sPar3, sSub, DEnds.seq, DEnds.loop, endF, dAnd, dOr, dNot, dT, dTr, tru, dB, dCh, dC, dIsi, tyD_non, tyD_bl, tyD_int, tyD_str, tyD_tup, tyD_lst, isTN, dAndV, dOrV, dNotV, dIfE, aN, aC, dTup, dLst, dLstM, dCall, dCB, dU, dSl, slD, oN, oS, gN, gT, gsC, gsN, lAny, lRng1, lRng2, lZip, itemsOf, lstOf, seqOf, dLc, wipeD, bYes, dFor, dApp, dMs, dErr, dRev, revD, dNotT, lEnum, lZip3, dCallV, opAddX, opSubX, opStrX, opAdd, opSub, opMod, opDiv, opPow, opMul, opLt, opGt, opLe, opGe, opEq, opNe, opIn, opNi, opInB, opIs, opIsn, opIsB, isNon, opNeg, opIx, opAll, opSum, opMin, opMax, opInt, opLen, opTup, opList, opBool, opJoin, eqD_int, eqD_str, eqD_bl, eqD_non, eqD_tup, eqD_lst, eqD_tup0, eqD_lst0, der_int, der_str, der_bl, der_non, der_tup, der_lst, eqOk_int, eqOk_str, PR.wp, RS.wp, sp0, sp1, sp2, sp3, sp4, dV, List.getElem?_cons_zero, List.getElem?_cons_succ, List.getElem?_nil, List.set_cons_zero, List.set_cons_succ, List.length_cons, List.length_nil, Option.some.injEq, true_and, and_true, Bool.not_true, Bool.not_false]
      rw [decide_eq_false (by omega)]
      exact h
    | [x, y], hk, h =>
      replace hk : (dok 59 x && (dok 59 y && true)) = true := hk
      rw [Bool.and_true, Bool.and_eq_true] at hk
      have i0 : atI [x, y] (0 : Int) = some x := rfl
      have i1 : atI [x, y] (1 : Int) = some y := rfl
      cases y with
      | tup ws =>
        by_cases hl : ws.length ≤ 40
        · cases x with
          | int s =>
            by_cases h2 : 2 ≤ s
            · by_cases h4 : s ≤ 4
              · have e : isBk (.tup [.int s, .tup ws]) = (match sts ws with | some l => bkL s l | none => false) := by
                  show (decide (2 ≤ s) && decide (s ≤ 4) && decide (ws.length ≤ 40) && (match sts ws with | some l => bkL s l | none => false)) = _
                  rw [decide_eq_true h2, decide_eq_true h4, decide_eq_true hl]; rfl
                rw [e] at h
                simp only [u__law_is_book, sC, sIf, sRt, sAs, sX, sN, sRtN, sRs, sBk, sPar, sPar3, sSub, DEnds.seq, DEnds.loop, endF, dAnd, dOr, dNot, dT, dTr, tru, dB, dCh, dC, dIsi, tyD_non, tyD_bl, tyD_int, tyD_str, tyD_tup, tyD_lst, isTN, dAndV, dOrV, dNotV, dIfE, aN, aC, dTup, dLst, dLstM, dCall, dCB, dU, dSl, slD, oN, oS, gN, gT, gsC, gsN, lAny, lRng1, lRng2, lZip, itemsOf, lstOf, seqOf, dLc, wipeD, bYes, dFor, dApp, dMs, dErr, dRev, revD, dNotT, lEnum, lZip3, dCallV, opAddX, opSubX, opStrX, opAdd, opSub, opMod, opDiv, opPow, opMul, opLt, opGt, opLe, opGe, opEq, opNe, opIn, opNi, opInB, opIs, opIsn, opIsB, isNon, opNeg, opIx, opAll, opSum, opMin, opMax, opInt, opLen, opTup, opList, opBool, opJoin, eqD_int, eqD_str, eqD_bl, eqD_non, eqD_tup, eqD_lst, eqD_tup0, eqD_lst0, der_int, der_str, der_bl, der_non, der_tup, der_lst, eqOk_int, eqOk_str, PR.wp, RS.wp, sp0, sp1, sp2, sp3, sp4, dV, List.getElem?_cons_zero, List.getElem?_cons_succ, List.getElem?_nil, List.set_cons_zero, List.set_cons_succ, List.length_cons, List.length_nil, Option.some.injEq, true_and, and_true, Bool.not_true, Bool.not_false, i0, i1]
                rw [decide_eq_false (show ¬(40 : Int) < ws.length by omega), decide_eq_true h2, decide_eq_true h4]
                simp only [decide_true, Bool.not_true]
                refine d_ib_loop (fun d hd => dokL_mem (m := 58) hk.2 hd) hl h rfl fun l x1 x2 hw hq => ?_
                subst hw
                rw [List.length_map] at hl
                simp only [sC, sIf, sRt, sAs, sX, sN, sRtN, sRs, sBk, sPar, sPar3, sSub, DEnds.seq, DEnds.loop, endF, dAnd, dOr, dNot, dT, dTr, tru, dB, dCh, dC, dIsi, tyD_non, tyD_bl, tyD_int, tyD_str, tyD_tup, tyD_lst, isTN, dAndV, dOrV, dNotV, dIfE, aN, aC, dTup, dLst, dLstM, dCall, dCB, dU, dSl, slD, oN, oS, gN, gT, gsC, gsN, lAny, lRng1, lRng2, lZip, itemsOf, lstOf, seqOf, dLc, wipeD, bYes, dFor, dApp, dMs, dErr, dRev, revD, dNotT, lEnum, lZip3, dCallV, opAddX, opSubX, opStrX, opAdd, opSub, opMod, opDiv, opPow, opMul, opLt, opGt, opLe, opGe, opEq, opNe, opIn, opNi, opInB, opIs, opIsn, opIsB, isNon, opNeg, opIx, opAll, opSum, opMin, opMax, opInt, opLen, opTup, opList, opBool, opJoin, eqD_int, eqD_str, eqD_bl, eqD_non, eqD_tup, eqD_lst, eqD_tup0, eqD_lst0, der_int, der_str, der_bl, der_non, der_tup, der_lst, eqOk_int, eqOk_str, PR.wp, RS.wp, sp0, sp1, sp2, sp3, sp4, dV, List.getElem?_cons_zero, List.getElem?_cons_succ, List.getElem?_nil, List.set_cons_zero, List.set_cons_succ, List.length_cons, List.length_nil, Option.some.injEq, true_and, and_true, Bool.not_true, Bool.not_false, i1]
                rw [show opSset S (D.tup (l.map D.str)) = .pre (l.length < 60) (.lst ((ssetD l).map D.str)) from opSset_str rfl]
                refine ⟨by omega, eqOk_strs, ?_⟩
                rw [show eqD (.lst (l.map D.str)) (der S (.lst ((ssetD l).map D.str))) = decide (l = ssetD l) from eqD_strs2 l _]
                have : decide (l = ssetD l) = ascB l := by rw [Bool.eq_iff_iff, decide_eq_true_iff]; exact sset_self
                rw [this]
                exact hq
              · have e : isBk (.tup [.int s, .tup ws]) = false := by
                  show (decide (2 ≤ s) && decide (s ≤ 4) && _ && _) = false
                  rw [decide_eq_false h4, Bool.and_false]; rfl
                rw [e] at h
                simp only [u__law_is_book, sC, sIf, sRt, sAs, sX, sN, sRtN, sRs, sBk, sPar, sPar3, sSub, DEnds.seq, DEnds.loop, endF, dAnd, dOr, dNot, dT, dTr, tru, dB, dCh, dC, dIsi, tyD_non, tyD_bl, tyD_int, tyD_str, tyD_tup, tyD_lst, isTN, dAndV, dOrV, dNotV, dIfE, aN, aC, dTup, dLst, dLstM, dCall, dCB, dU, dSl, slD, oN, oS, gN, gT, gsC, gsN, lAny, lRng1, lRng2, lZip, itemsOf, lstOf, seqOf, dLc, wipeD, bYes, dFor, dApp, dMs, dErr, dRev, revD, dNotT, lEnum, lZip3, dCallV, opAddX, opSubX, opStrX, opAdd, opSub, opMod, opDiv, opPow, opMul, opLt, opGt, opLe, opGe, opEq, opNe, opIn, opNi, opInB, opIs, opIsn, opIsB, isNon, opNeg, opIx, opAll, opSum, opMin, opMax, opInt, opLen, opTup, opList, opBool, opJoin, eqD_int, eqD_str, eqD_bl, eqD_non, eqD_tup, eqD_lst, eqD_tup0, eqD_lst0, der_int, der_str, der_bl, der_non, der_tup, der_lst, eqOk_int, eqOk_str, PR.wp, RS.wp, sp0, sp1, sp2, sp3, sp4, dV, List.getElem?_cons_zero, List.getElem?_cons_succ, List.getElem?_nil, List.set_cons_zero, List.set_cons_succ, List.length_cons, List.length_nil, Option.some.injEq, true_and, and_true, Bool.not_true, Bool.not_false, i0, i1]
                rw [decide_eq_false (show ¬(40 : Int) < ws.length by omega), decide_eq_true h2, decide_eq_false h4]
                simp only [decide_true, Bool.not_true]
                exact h
            · have e : isBk (.tup [.int s, .tup ws]) = false := by
                show (decide (2 ≤ s) && decide (s ≤ 4) && _ && _) = false
                rw [decide_eq_false h2]; rfl
              rw [e] at h
              simp only [u__law_is_book, sC, sIf, sRt, sAs, sX, sN, sRtN, sRs, sBk, sPar, sPar3, sSub, DEnds.seq, DEnds.loop, endF, dAnd, dOr, dNot, dT, dTr, tru, dB, dCh, dC, dIsi, tyD_non, tyD_bl, tyD_int, tyD_str, tyD_tup, tyD_lst, isTN, dAndV, dOrV, dNotV, dIfE, aN, aC, dTup, dLst, dLstM, dCall, dCB, dU, dSl, slD, oN, oS, gN, gT, gsC, gsN, lAny, lRng1, lRng2, lZip, itemsOf, lstOf, seqOf, dLc, wipeD, bYes, dFor, dApp, dMs, dErr, dRev, revD, dNotT, lEnum, lZip3, dCallV, opAddX, opSubX, opStrX, opAdd, opSub, opMod, opDiv, opPow, opMul, opLt, opGt, opLe, opGe, opEq, opNe, opIn, opNi, opInB, opIs, opIsn, opIsB, isNon, opNeg, opIx, opAll, opSum, opMin, opMax, opInt, opLen, opTup, opList, opBool, opJoin, eqD_int, eqD_str, eqD_bl, eqD_non, eqD_tup, eqD_lst, eqD_tup0, eqD_lst0, der_int, der_str, der_bl, der_non, der_tup, der_lst, eqOk_int, eqOk_str, PR.wp, RS.wp, sp0, sp1, sp2, sp3, sp4, dV, List.getElem?_cons_zero, List.getElem?_cons_succ, List.getElem?_nil, List.set_cons_zero, List.set_cons_succ, List.length_cons, List.length_nil, Option.some.injEq, true_and, and_true, Bool.not_true, Bool.not_false, i0, i1]
              rw [decide_eq_false (show ¬(40 : Int) < ws.length by omega), decide_eq_false h2]
              simp only [decide_true, Bool.not_true]
              exact h
          | obj _ => cases hk.1
          | cst _ => cases hk.1
          | scr _ => cases hk.1
          | _ =>
            simp only [u__law_is_book, sC, sIf, sRt, sAs, sX, sN, sRtN, sRs, sBk, sPar, sPar3, sSub, DEnds.seq, DEnds.loop, endF, dAnd, dOr, dNot, dT, dTr, tru, dB, dCh, dC, dIsi, tyD_non, tyD_bl, tyD_int, tyD_str, tyD_tup, tyD_lst, isTN, dAndV, dOrV, dNotV, dIfE, aN, aC, dTup, dLst, dLstM, dCall, dCB, dU, dSl, slD, oN, oS, gN, gT, gsC, gsN, lAny, lRng1, lRng2, lZip, itemsOf, lstOf, seqOf, dLc, wipeD, bYes, dFor, dApp, dMs, dErr, dRev, revD, dNotT, lEnum, lZip3, dCallV, opAddX, opSubX, opStrX, opAdd, opSub, opMod, opDiv, opPow, opMul, opLt, opGt, opLe, opGe, opEq, opNe, opIn, opNi, opInB, opIs, opIsn, opIsB, isNon, opNeg, opIx, opAll, opSum, opMin, opMax, opInt, opLen, opTup, opList, opBool, opJoin, eqD_int, eqD_str, eqD_bl, eqD_non, eqD_tup, eqD_lst, eqD_tup0, eqD_lst0, der_int, der_str, der_bl, der_non, der_tup, der_lst, eqOk_int, eqOk_str, PR.wp, RS.wp, sp0, sp1, sp2, sp3, sp4, dV, List.getElem?_cons_zero, List.getElem?_cons_succ, List.getElem?_nil, List.set_cons_zero, List.set_cons_succ, List.length_cons, List.length_nil, Option.some.injEq, true_and, and_true, Bool.not_true, Bool.not_false, i0, i1]
            rw [decide_eq_false (show ¬(40 : Int) < ws.length by omega)]
            simp only [decide_true, Bool.not_true]
            exact h
        · have e : isBk (.tup [x, .tup ws]) = false := by
            cases x with
            | int s =>
              show (decide (2 ≤ s) && decide (s ≤ 4) && decide (ws.length ≤ 40) && _) = false
              rw [decide_eq_false hl, Bool.and_false]; rfl
            | _ => rfl
          rw [e] at h
          simp only [u__law_is_book, sC, sIf, sRt, sAs, sX, sN, sRtN, sRs, sBk, sPar, sPar3, sSub, DEnds.seq, DEnds.loop, endF, dAnd, dOr, dNot, dT, dTr, tru, dB, dCh, dC, dIsi, tyD_non, tyD_bl, tyD_int, tyD_str, tyD_tup, tyD_lst, isTN, dAndV, dOrV, dNotV, dIfE, aN, aC, dTup, dLst, dLstM, dCall, dCB, dU, dSl, slD, oN, oS, gN, gT, gsC, gsN, lAny, lRng1, lRng2, lZip, itemsOf, lstOf, seqOf, dLc, wipeD, bYes, dFor, dApp, dMs, dErr, dRev, revD, dNotT, lEnum, lZip3, dCallV, opAddX, opSubX, opStrX, opAdd, opSub, opMod, opDiv, opPow, opMul, opLt, opGt, opLe, opGe, opEq, opNe, opIn, opNi, opInB, opIs, opIsn, opIsB, isNon, opNeg, opIx, opAll, opSum, opMin, opMax, opInt, opLen, opTup, opList, opBool, opJoin, eqD_int, eqD_str, eqD_bl, eqD_non, eqD_tup, eqD_lst, eqD_tup0, eqD_lst0, der_int, der_str, der_bl, der_non, der_tup, der_lst, eqOk_int, eqOk_str, PR.wp, RS.wp, sp0, sp1, sp2, sp3, sp4, dV, List.getElem?_cons_zero, List.getElem?_cons_succ, List.getElem?_nil, List.set_cons_zero, List.set_cons_succ, List.length_cons, List.length_nil, Option.some.injEq, true_and, and_true, Bool.not_true, Bool.not_false, i0, i1]
          rw [decide_eq_true (show (40 : Int) < ws.length by omega)]
          simp only [decide_true, Bool.not_true]
          exact h
      | obj _ => cases hk.2
      | cst _ => cases hk.2
      | scr _ => cases hk.2
      | _ =>
        have e : ∀ z : D, (∀ ws, z ≠ .tup ws) → isBk (.tup [x, z]) = false := fun z hz => by
          cases x with
          | int s => cases z with
            | tup ws => exact absurd rfl (hz ws)
            | _ => rfl
          | _ => rfl
        rw [e _ (fun ws z => by cases z)] at h
        simp only [u__law_is_book, sC, sIf, sRt, sAs, sX, sN, sRtN, sRs, sBk, sPar, sPar3, sSub, DEnds.seq, DEnds.loop, endF, dAnd, dOr, dNot, dT, dTr, tru, dB, dCh, dC, dIsi, tyD_non, tyD_bl, tyD_int, tyD_str, tyD_tup, tyD_lst, isTN, dAndV, dOrV, dNotV, dIfE, aN, aC, dTup, dLst, dLstM, dCall, dCB, dU, dSl, slD, oN, oS, gN, gT, gsC, gsN, lAny, lRng1, lRng2, lZip, itemsOf, lstOf, seqOf, dLc, wipeD, bYes, dFor, dApp, dMs, dErr, dRev, revD, dNotT, lEnum, lZip3, dCallV, opAddX, opSubX, opStrX, opAdd, opSub, opMod, opDiv, opPow, opMul, opLt, opGt, opLe, opGe, opEq, opNe, opIn, opNi, opInB, opIs, opIsn, opIsB, isNon, opNeg, opIx, opAll, opSum, opMin, opMax, opInt, opLen, opTup, opList, opBool, opJoin, eqD_int, eqD_str, eqD_bl, eqD_non, eqD_tup, eqD_lst, eqD_tup0, eqD_lst0, der_int, der_str, der_bl, der_non, der_tup, der_lst, eqOk_int, eqOk_str, PR.wp, RS.wp, sp0, sp1, sp2, sp3, sp4, dV, List.getElem?_cons_zero, List.getElem?_cons_succ, List.getElem?_nil, List.set_cons_zero, List.set_cons_succ, List.length_cons, List.length_nil, Option.some.injEq, true_and, and_true, Bool.not_true, Bool.not_false, i0, i1]
        exact h
  | obj _ => cases hk
  | cst _ => cases hk
  | scr _ => cases hk
  | _ => simp only [u__law_is_book, sC, sIf, sRt, sAs, sX, sN, sRtN, sRs, sBk, sPar, sPar3, sSub, DEnds.seq, DEnds.loop, endF, dAnd, dOr, dNot, dT, dTr, tru, dB, dCh, dC, dIsi, tyD_non, tyD_bl, tyD_int, tyD_str, tyD_tup, tyD_lst, isTN, dAndV, dOrV, dNotV, dIfE, aN, aC, dTup, dLst, dLstM, dCall, dCB, dU, dSl, slD, oN, oS, gN, gT, gsC, gsN, lAny, lRng1, lRng2, lZip, itemsOf, lstOf, seqOf, dLc, wipeD, bYes, dFor, dApp, dMs, dErr, dRev, revD, dNotT, lEnum, lZip3, dCallV, opAddX, opSubX, opStrX, opAdd, opSub, opMod, opDiv, opPow, opMul, opLt, opGt, opLe, opGe, opEq, opNe, opIn, opNi, opInB, opIs, opIsn, opIsB, isNon, opNeg, opIx, opAll, opSum, opMin, opMax, opInt, opLen, opTup, opList, opBool, opJoin, eqD_int, eqD_str, eqD_bl, eqD_non, eqD_tup, eqD_lst, eqD_tup0, eqD_lst0, der_int, der_str, der_bl, der_non, der_tup, der_lst, eqOk_int, eqOk_str, PR.wp, RS.wp, sp0, sp1, sp2, sp3, sp4, dV, List.getElem?_cons_zero, List.getElem?_cons_succ, List.getElem?_nil, List.set_cons_zero, List.set_cons_succ, List.length_cons, List.length_nil, Option.some.injEq, true_and, and_true, Bool.not_true, Bool.not_false]; exact h
section
variable {S : Sto} {Q : DK} {R : RK} {v m : D}
theorem libk_wp : (sp__law_is_book.g S [v]).wp S Q R = (dok 60 v = true ∧ Q (.bl (isBk v)) S) := rfl
theorem isbk_wp : (sp_is_book.g S [v]).wp S Q R = (dok 60 v = true ∧ Q (.bl (isBk v)) S) := rfl
theorem ljud_wp : (sp__law_judged.g S [v]).wp S Q R = (dok 60 v = true ∧ Q (.bl true) S) := rfl
theorem shows_g : (sp_shows.g S [v, m]).wp S Q R = ((dok 60 v = true ∧ dok 60 m = true) ∧ (if isBk v = true then (if okMost m = true then RS.ret (.bl (firstB (bkW v) (mostV m)).isNone) else .err ⟨3, none⟩) else .err ⟨4, none⟩).wp S Q R) := rfl
theorem bad_g : (sp_bad_pair.g S [v, m]).wp S Q R = ((dok 60 v = true ∧ dok 60 m = true) ∧ (if isBk v = true then (if okMost m = true then RS.ret (pairD (firstB (bkW v) (mostV m))) else .err ⟨3, none⟩) else .err ⟨4, none⟩).wp S Q R) := rfl
theorem sure_g : (sp_sure_steps.g S [v]).wp S Q R = (dok 60 v = true ∧ (if isBk v = true then RS.ret (optI (sureB (bkW v))) else .err ⟨4, none⟩).wp S Q R) := rfl
theorem mends_g : (sp_mends.g S [v]).wp S Q R = (dok 60 v = true ∧ (if isBk v = true then RS.ret (optI (mendB (bkW v))) else .err ⟨4, none⟩).wp S Q R) := rfl
end
theorem d_j2 {v : D} {S : Sto} {Q : DK} {R : RK} (qm : QMono Q) (hk : dok 60 v = true) (h : Q (.bl true) S) {x2 : Option D} : j2_judged [some v, some (.bl (isBk v)), x2] S (endF Q R) := by
  have ok0 : okMost (.int 0) = true := by decide +kernel
  have okn : okMost .non = true := rfl
  cases e : isBk v with
  | true =>
    simp only [j2_judged, sC, sIf, sRt, sAs, sX, sN, sRtN, sRs, sBk, sPar, sPar3, sSub, DEnds.seq, DEnds.loop, endF, dAnd, dOr, dNot, dT, dTr, tru, dB, dCh, dC, dIsi, tyD_non, tyD_bl, tyD_int, tyD_str, tyD_tup, tyD_lst, isTN, dAndV, dOrV, dNotV, dIfE, aN, aC, dTup, dLst, dLstM_eq, dCall, dCB, dU, dSl, slD, oN, oS, gN, gT, gsC, gsN, lAny, lRng1, lRng2, lZip, itemsOf, lstOf, seqOf, dLc, wipeD, bYes, dFor, dApp, dMs, dErr, dRev, revD, dNotT, lEnum, lZip3, dCallV, opAddX, opSubX, opStrX, opAdd, opSub, opMod, opDiv, opPow, opMul, opLt, opGt, opLe, opGe, opEq, opNe, opIn, opNi, opInB, opIs, opIsn, opIsB, isNon, opNeg, opIx, opAll, opSum, opMin, opMax, opInt, opLen, opTup, opList, opBool, opJoin, eqD_int, eqD_str, eqD_bl, eqD_non, eqD_tup, eqD_lst, eqD_tup0, eqD_lst0, der_int, der_str, der_bl, der_non, der_tup, der_lst, eqOk_int, eqOk_str, PR.wp, RS.wp, dV, List.getElem?_cons_zero, List.getElem?_cons_succ, List.getElem?_nil, List.set_cons_zero, List.set_cons_succ, List.length_cons, List.length_nil, Option.some.injEq, true_and, and_true, Bool.not_true, Bool.not_false, shows_g, bad_g, sure_g, mends_g, e, if_pos ok0, if_pos okn, if_true, put_same, put_put, List.cons_append, List.nil_append]
    refine ⟨⟨hk, rfl⟩, by decide, fun b hb => ?_⟩
    refine ⟨⟨_, rfl⟩, ⟨hk, rfl⟩, by decide, ⟨_, rfl⟩, hk, by decide, ⟨_, rfl⟩, hk, by decide, by decide, by decide, ?_, ?_⟩
    · rw [eqOk, der_obj put_same]; rfl
    · rw [der_obj put_same]
      exact qm _ _ _ (SLe.put hb) h
  | false => 
    simp only [j2_judged, sC, sIf, sRt, sAs, sX, sN, sRtN, sRs, sBk, sPar, sPar3, sSub, DEnds.seq, DEnds.loop, endF, dAnd, dOr, dNot, dT, dTr, tru, dB, dCh, dC, dIsi, tyD_non, tyD_bl, tyD_int, tyD_str, tyD_tup, tyD_lst, isTN, dAndV, dOrV, dNotV, dIfE, aN, aC, dTup, dLst, dLstM_eq, dCall, dCB, dU, dSl, slD, oN, oS, gN, gT, gsC, gsN, lAny, lRng1, lRng2, lZip, itemsOf, lstOf, seqOf, dLc, wipeD, bYes, dFor, dApp, dMs, dErr, dRev, revD, dNotT, lEnum, lZip3, dCallV, opAddX, opSubX, opStrX, opAdd, opSub, opMod, opDiv, opPow, opMul, opLt, opGt, opLe, opGe, opEq, opNe, opIn, opNi, opInB, opIs, opIsn, opIsB, isNon, opNeg, opIx, opAll, opSum, opMin, opMax, opInt, opLen, opTup, opList, opBool, opJoin, eqD_int, eqD_str, eqD_bl, eqD_non, eqD_tup, eqD_lst, eqD_tup0, eqD_lst0, der_int, der_str, der_bl, der_non, der_tup, der_lst, eqOk_int, eqOk_str, PR.wp, RS.wp, dV, List.getElem?_cons_zero, List.getElem?_cons_succ, List.getElem?_nil, List.set_cons_zero, List.set_cons_succ, List.length_cons, List.length_nil, Option.some.injEq, true_and, and_true, Bool.not_true, Bool.not_false, shows_g, bad_g, sure_g, mends_g, e, Bool.false_eq_true, if_false, put_same, put_put, List.cons_append, List.nil_append]
    refine ⟨⟨hk, rfl⟩, by decide, by decide, fun b hb => ?_⟩
    refine ⟨⟨_, rfl⟩, ⟨hk, rfl⟩, by decide, by decide, ⟨_, rfl⟩, hk, by decide, by decide, ⟨_, rfl⟩, hk, by decide, by decide, by decide, by decide, ?_, ?_⟩
    · rw [eqOk, der_obj put_same]; rfl
    · rw [der_obj put_same]
      exact qm _ _ _ (SLe.put hb) h
theorem d__law_judged {ds : List D} {S : Sto} {Q : DK} {R : RK} (qm : QMono Q) (rm : RMono R) (h : (sp__law_judged.g S ds).wp S Q R) : u__law_judged (dStart 3 ds) S (endF Q R) := by
  have hh := sp1_inv h
  clear h
  obtain ⟨v, rfl, hk, h⟩ := hh
  replace h : Q (.bl true) S := h
  show u__law_judged [some v, none, none] S _
  have := d_j2 (R := R) qm hk h (x2 := none)
  simp only [u__law_judged, sC, sIf, sRt, sAs, sX, sN, sRtN, sRs, sBk, sPar, sPar3, sSub, DEnds.seq, DEnds.loop, endF, dAnd, dOr, dNot, dT, dTr, tru, dB, dCh, dC, dIsi, tyD_non, tyD_bl, tyD_int, tyD_str, tyD_tup, tyD_lst, isTN, dAndV, dOrV, dNotV, dIfE, aN, aC, dTup, dLst, dLstM, dCall, dCB, dU, dSl, slD, oN, oS, gN, gT, gsC, gsN, lAny, lRng1, lRng2, lZip, itemsOf, lstOf, seqOf, dLc, wipeD, bYes, dFor, dApp, dMs, dErr, dRev, revD, dNotT, lEnum, lZip3, dCallV, opAddX, opSubX, opStrX, opAdd, opSub, opMod, opDiv, opPow, opMul, opLt, opGt, opLe, opGe, opEq, opNe, opIn, opNi, opInB, opIs, opIsn, opIsB, isNon, opNeg, opIx, opAll, opSum, opMin, opMax, opInt, opLen, opTup, opList, opBool, opJoin, eqD_int, eqD_str, eqD_bl, eqD_non, eqD_tup, eqD_lst, eqD_tup0, eqD_lst0, der_int, der_str, der_bl, der_non, der_tup, der_lst, eqOk_int, eqOk_str, PR.wp, RS.wp, sp0, sp1, sp2, sp3, sp4, dV, List.getElem?_cons_zero, List.getElem?_cons_succ, List.getElem?_nil, List.set_cons_zero, List.set_cons_succ, List.length_cons, List.length_nil, Option.some.injEq, true_and, and_true, Bool.not_true, Bool.not_false, libk_wp, isbk_wp]
  refine ⟨hk, hk, ?_⟩
  have e : (isBk v == isBk v) = true := by simp
  rw [e]
  exact ⟨by cases isBk v <;> rfl, hk, this⟩
theorem ov_bk {s : Int} {l : List (List Nat)} (h : BkOk s l) : ov 0 2 (bkD s l) = true := by
  have h2 := h.h2
  have h4 := h.h4
  have hl := h.hl
  refine ov_tup.mpr ⟨Nat.le_of_ble_eq_true rfl, fun x hx => ?_⟩
  simp only [List.mem_cons, List.not_mem_nil, or_false] at hx
  rcases hx with rfl | rfl
  · exact ov_int.mpr (by omega)
  · refine ov_tup.mpr ⟨by rw [List.length_map]; omega, fun d hd => ?_⟩
    obtain ⟨w, hw, rfl⟩ := List.mem_map.mp hd
    have := (bk_len h.hb w hw).2
    exact ov_str.mpr (by omega)
theorem bent_wp {S : Sto} {Q : DK} {R : RK} {a : Addr} {v : D} : ((sp__law_bent 40).g S [.obj a, v]).wp S Q R = ((S a = some .drum ∧ ∃ m d, m ≤ 100 ∧ d ≤ 39 ∧ d ≤ 50 ∧ ov m d v = true) ∧ ∀ z, (∀ m d, m ≤ 100 → ov m d v = true → ov (m + 1) (d + 3) z = true) → Q z S) := rfl
section
variable {ns : List Int} {a : Addr} {s : Int} {l : List (List Nat)} {S : Sto} {D0 : DEnds}
theorem d_b1 (hD : S a = some .drum) (h : BkOk s l) {v : D} {t : Nat} (ht : t ≤ 8) (hv : ov t (2 + 3 * t) v = true) {j : Int} {x1 x2 x3 x5 x6 x10 : Option D}
    (hnx : ∀ z, ov (t + 1) (2 + 3 * (t + 1)) z = true → D0.nx [some (.scr ns), x1, x2, x3, some (.obj a), x5, x6, some (bkD s l), some (z), some (.int j), x10] S) : b1_law [some (.scr ns), x1, x2, x3, some (.obj a), x5, x6, some (bkD s l), some (v), some (.int j), x10] S D0 := by
  have fin : ∀ u, ov t (2 + 3 * t) u = true → (S a = some .drum ∧ ∃ m d, m ≤ 100 ∧ d ≤ 39 ∧ d ≤ 50 ∧ ov m d u = true) ∧ ∀ z, (∀ m d, m ≤ 100 → ov m d u = true → ov (m + 1) (d + 3) z = true) → dok 60 z = true ∧ D0.nx [some (.scr ns), x1, x2, x3, some (.obj a), x5, x6, some (bkD s l), some (z), some (.int j), x10] S := fun u hu => ⟨⟨hD, t, 2 + 3 * t, by omega, by omega, by omega, hu⟩, fun z hz => by
    have g := hz t (2 + 3 * t) (by omega) hu
    have e : 2 + 3 * t + 3 = 2 + 3 * (t + 1) := by omega
    rw [e] at g
    exact ⟨ov_dok (by omega) g, hnx z g⟩⟩
  simp only [b1_law, sC, sIf, sRt, sAs, sX, sN, sRtN, sRs, sBk, sPar, sPar3, sSub, DEnds.seq, DEnds.loop, endF, dAnd, dOr, dNot, dT, dTr, tru, dB, dCh, dC, dIsi, tyD_non, tyD_bl, tyD_int, tyD_str, tyD_tup, tyD_lst, isTN, dAndV, dOrV, dNotV, dIfE, aN, aC, dTup, dLst, dLstM_eq, dCall, dCB, dU, dSl, slD, oN, oS, gN, gT, gsC, gsN, lAny, lRng1, lRng2, lZip, itemsOf, lstOf, seqOf, dLc, wipeD, bYes, dFor, dApp, dMs, dErr, dRev, revD, dNotT, lEnum, lZip3, dCallV, opAddX, opSubX, opStrX, opAdd, opSub, opMod, opDiv, opPow, opMul, opLt, opGt, opLe, opGe, opEq, opNe, opIn, opNi, opInB, opIs, opIsn, opIsB, isNon, opNeg, opIx, opAll, opSum, opMin, opMax, opInt, opLen, opTup, opList, opBool, opJoin, eqD_int, eqD_str, eqD_bl, eqD_non, eqD_tup, eqD_lst, eqD_tup0, eqD_lst0, der_int, der_str, der_bl, der_non, der_tup, der_lst, eqOk_int, eqOk_str, PR.wp, RS.wp, dV, List.getElem?_cons_zero, List.getElem?_cons_succ, List.getElem?_nil, List.set_cons_zero, List.set_cons_succ, List.length_cons, List.length_nil, Option.some.injEq, true_and, and_true, Bool.not_true, Bool.not_false, bent_wp, ljud_wp]
  refine ⟨by decide, ?_⟩
  by_cases h3 : j % 3 = 0
  · rw [decide_eq_true h3]
    exact fin _ (ov_mono (by omega) (by omega) (ov_bk h))
  · rw [decide_eq_false h3]
    exact fin _ hv
theorem d_b2 (hD : S a = some .drum) {x1 x2 x3 x5 x6 x7 x8 x9 x10 : Option D} (hnx : ∀ s l, BkOk s l → ∀ x1 x2 x3 x5 x6 x8 x9 x10, D0.nx [some (.scr ns), x1, x2, x3, some (.obj a), x5, x6, some (bkD s l), x8, x9, x10] S) : b2_law [some (.scr ns), x1, x2, x3, some (.obj a), x5, x6, x7, x8, x9, x10] S D0 := by
  simp only [b2_law, sC, sIf, sRt, sAs, sX, sN, sRtN, sRs, sBk, sPar, sPar3, sSub, DEnds.seq, DEnds.loop, endF, dAnd, dOr, dNot, dT, dTr, tru, dB, dCh, dC, dIsi, tyD_non, tyD_bl, tyD_int, tyD_str, tyD_tup, tyD_lst, isTN, dAndV, dOrV, dNotV, dIfE, aN, aC, dTup, dLst, dLstM_eq, dCall, dCB, dU, dSl, slD, oN, oS, gN, gT, gsC, gsN, lAny, lRng1, lRng2, lZip, itemsOf, lstOf, seqOf, dLc, wipeD, bYes, dFor, dApp, dMs, dErr, dRev, revD, dNotT, lEnum, lZip3, dCallV, opAddX, opSubX, opStrX, opAdd, opSub, opMod, opDiv, opPow, opMul, opLt, opGt, opLe, opGe, opEq, opNe, opIn, opNi, opInB, opIs, opIsn, opIsB, isNon, opNeg, opIx, opAll, opSum, opMin, opMax, opInt, opLen, opTup, opList, opBool, opJoin, eqD_int, eqD_str, eqD_bl, eqD_non, eqD_tup, eqD_lst, eqD_tup0, eqD_lst0, der_int, der_str, der_bl, der_non, der_tup, der_lst, eqOk_int, eqOk_str, PR.wp, RS.wp, dV, List.getElem?_cons_zero, List.getElem?_cons_succ, List.getElem?_nil, List.set_cons_zero, List.set_cons_succ, List.length_cons, List.length_nil, Option.some.injEq, true_and, and_true, Bool.not_true, Bool.not_false, book_wp]
  refine ⟨⟨hD, by decide, by decide, by decide, by decide⟩, fun z hz => ?_⟩
  obtain ⟨s, l, rfl, h, hl, hc⟩ := BkOk.of (by decide) hz
  simp only [sC, sIf, sRt, sAs, sX, sN, sRtN, sRs, sBk, sPar, sPar3, sSub, DEnds.seq, DEnds.loop, endF, dAnd, dOr, dNot, dT, dTr, tru, dB, dCh, dC, dIsi, tyD_non, tyD_bl, tyD_int, tyD_str, tyD_tup, tyD_lst, isTN, dAndV, dOrV, dNotV, dIfE, aN, aC, dTup, dLst, dLstM_eq, dCall, dCB, dU, dSl, slD, oN, oS, gN, gT, gsC, gsN, lAny, lRng1, lRng2, lZip, itemsOf, lstOf, seqOf, dLc, wipeD, bYes, dFor, dApp, dMs, dErr, dRev, revD, dNotT, lEnum, lZip3, dCallV, opAddX, opSubX, opStrX, opAdd, opSub, opMod, opDiv, opPow, opMul, opLt, opGt, opLe, opGe, opEq, opNe, opIn, opNi, opInB, opIs, opIsn, opIsB, isNon, opNeg, opIx, opAll, opSum, opMin, opMax, opInt, opLen, opTup, opList, opBool, opJoin, eqD_int, eqD_str, eqD_bl, eqD_non, eqD_tup, eqD_lst, eqD_tup0, eqD_lst0, der_int, der_str, der_bl, der_non, der_tup, der_lst, eqOk_int, eqOk_str, PR.wp, RS.wp, dV, List.getElem?_cons_zero, List.getElem?_cons_succ, List.getElem?_nil, List.set_cons_zero, List.set_cons_succ, List.length_cons, List.length_nil, Option.some.injEq, true_and, and_true, Bool.not_true, Bool.not_false, ljud_wp, libk_wp, h.is]
  refine ⟨bkD_dok, bkD_dok, by decide, ?_⟩
  refine for_inv (fun rest env S1 => S1 = S ∧ rest.length ≤ 9 ∧ (∀ d ∈ rest, ∃ j, d = .int j) ∧ ∃ v, ov (9 - rest.length) (2 + 3 * (9 - rest.length)) v = true ∧ ∃ x1 x2 x3 x5 x6 x9 x10, env = [some (.scr ns), x1, x2, x3, some (.obj a), x5, x6, some (bkD s l), some (v), x9, x10]) ?_ ?_ _ _ _ ⟨rfl, by decide, ?_, bkD s l, ov_bk h, _, _, _, _, _, _, _, rfl⟩
  · rintro d rest env S1 ⟨rfl, hl, hi, v, hv, x1, x2, x3, x5, x6, x9, x10, rfl⟩ K hK
    obtain ⟨j, rfl⟩ := hi d List.mem_cons_self
    rw [List.length_cons] at hl hv
    refine d_b1 (t := 9 - (rest.length + 1)) hD h (by omega) hv fun z hz => hK _ _ ⟨rfl, by omega, fun d hd => hi d (List.mem_cons_of_mem _ hd), z, ?_, _, _, _, _, _, _, _, rfl⟩
    have e : 9 - (rest.length + 1) + 1 = 9 - rest.length := by omega
    rw [e] at hz
    exact hz
  · rintro env S1 ⟨rfl, _, _, v, _, x1, x2, x3, x5, x6, x9, x10, rfl⟩
    exact hnx s l h _ _ _ _ _ _ _ _
  · intro d hd
    obtain ⟨i, _, rfl⟩ := List.mem_map.mp hd
    exact ⟨_, rfl⟩
theorem d_b3 (h : BkOk s l) {v : D} (hk : dok 60 v = true) (hv : okMost v = false) {x1 x2 x3 x4 x5 x8 x9 x10 : Option D}
    (hnx : D0.nx [some (.scr ns), x1, x2, x3, x4, x5, some (v), some (bkD s l), x8, x9, x10] S) : b3_law [some (.scr ns), x1, x2, x3, x4, x5, some (v), some (bkD s l), x8, x9, x10] S D0 := by
  simp only [b3_law, sC, sIf, sRt, sAs, sX, sN, sRtN, sRs, sBk, sPar, sPar3, sSub, DEnds.seq, DEnds.loop, endF, dAnd, dOr, dNot, dT, dTr, tru, dB, dCh, dC, dIsi, tyD_non, tyD_bl, tyD_int, tyD_str, tyD_tup, tyD_lst, isTN, dAndV, dOrV, dNotV, dIfE, aN, aC, dTup, dLst, dLstM_eq, dCall, dCB, dU, dSl, slD, oN, oS, gN, gT, gsC, gsN, lAny, lRng1, lRng2, lZip, itemsOf, lstOf, seqOf, dLc, wipeD, bYes, dFor, dApp, dMs, dErr, dRev, revD, dNotT, lEnum, lZip3, dCallV, opAddX, opSubX, opStrX, opAdd, opSub, opMod, opDiv, opPow, opMul, opLt, opGt, opLe, opGe, opEq, opNe, opIn, opNi, opInB, opIs, opIsn, opIsB, isNon, opNeg, opIx, opAll, opSum, opMin, opMax, opInt, opLen, opTup, opList, opBool, opJoin, eqD_int, eqD_str, eqD_bl, eqD_non, eqD_tup, eqD_lst, eqD_tup0, eqD_lst0, der_int, der_str, der_bl, der_non, der_tup, der_lst, eqOk_int, eqOk_str, PR.wp, RS.wp, dV, List.getElem?_cons_zero, List.getElem?_cons_succ, List.getElem?_nil, List.set_cons_zero, List.set_cons_succ, List.length_cons, List.length_nil, Option.some.injEq, true_and, and_true, Bool.not_true, Bool.not_false, shows_g, bad_g, h.is, hv, if_true, Bool.false_eq_true, if_false]
  exact ⟨⟨bkD_dok, hk⟩, by decide, ⟨bkD_dok, hk⟩, by decide, hnx⟩
theorem bad_m : ∀ d ∈ [D.bl true, .int (-1), .int (10 ^ Int.toNat 30 + 1), .str [48], .tup [.int 1]], dok 60 d = true ∧ okMost d = false := by
  intro d hd
  simp only [List.mem_cons, List.not_mem_nil, or_false] at hd
  rcases hd with rfl | rfl | rfl | rfl | rfl <;> exact ⟨by decide +kernel, by decide +kernel⟩
theorem d_b4t (hD : S a = some .drum) (h : BkOk s l) {x1 x2 x3 x5 x6 x8 x9 x10 : Option D} (hnx : ∀ x1 x2 x3 x4 x5 x6 x7 x8 x9 x10, D0.nx [some (.scr ns), x1, x2, x3, x4, x5, x6, x7, x8, x9, x10] S) : b4t_law [some (.scr ns), x1, x2, x3, some (.obj a), x5, x6, some (bkD s l), x8, x9, x10] S D0 := by
  simp only [b4t_law, sC, sIf, sRt, sAs, sX, sN, sRtN, sRs, sBk, sPar, sPar3, sSub, DEnds.seq, DEnds.loop, endF, dAnd, dOr, dNot, dT, dTr, tru, dB, dCh, dC, dIsi, tyD_non, tyD_bl, tyD_int, tyD_str, tyD_tup, tyD_lst, isTN, dAndV, dOrV, dNotV, dIfE, aN, aC, dTup, dLst, dLstM_eq, dCall, dCB, dU, dSl, slD, oN, oS, gN, gT, gsC, gsN, lAny, lRng1, lRng2, lZip, itemsOf, lstOf, seqOf, dLc, wipeD, bYes, dFor, dApp, dMs, dErr, dRev, revD, dNotT, lEnum, lZip3, dCallV, opAddX, opSubX, opStrX, opAdd, opSub, opMod, opDiv, opPow, opMul, opLt, opGt, opLe, opGe, opEq, opNe, opIn, opNi, opInB, opIs, opIsn, opIsB, isNon, opNeg, opIx, opAll, opSum, opMin, opMax, opInt, opLen, opTup, opList, opBool, opJoin, eqD_int, eqD_str, eqD_bl, eqD_non, eqD_tup, eqD_lst, eqD_tup0, eqD_lst0, der_int, der_str, der_bl, der_non, der_tup, der_lst, eqOk_int, eqOk_str, PR.wp, RS.wp, dV, List.getElem?_cons_zero, List.getElem?_cons_succ, List.getElem?_nil, List.set_cons_zero, List.set_cons_succ, List.length_cons, List.length_nil, Option.some.injEq, true_and, and_true, Bool.not_true, Bool.not_false, odd4, ljud_wp]
  refine ⟨⟨hD, by decide, by decide⟩, fun z hz => ⟨ov_dok (by decide) hz, ?_⟩⟩
  refine ⟨⟨by decide, by decide, by decide⟩, by decide, by decide, ?_⟩
  refine for_inv (fun rest env S1 => S1 = S ∧ (∀ d ∈ rest, dok 60 d = true ∧ okMost d = false) ∧ ∃ x1 x2 x3 x4 x5 x6 x8 x9 x10, env = [some (.scr ns), x1, x2, x3, x4, x5, x6, some (bkD s l), x8, x9, x10]) ?_ ?_ _ _ _ ⟨rfl, bad_m, _, _, _, _, _, _, _, _, _, rfl⟩
  · rintro d rest env S1 ⟨rfl, hi, x1, x2, x3, x4, x5, x6, x8, x9, x10, rfl⟩ K hK
    obtain ⟨g1, g2⟩ := hi d List.mem_cons_self
    exact d_b3 h g1 g2 (hK _ _ ⟨rfl, fun d hd => hi d (List.mem_cons_of_mem _ hd), _, _, _, _, _, _, _, _, _, rfl⟩)
  · rintro env S1 ⟨rfl, _, x1, x2, x3, x4, x5, x6, x8, x9, x10, rfl⟩
    exact hnx _ _ _ _ _ _ _ _ _ _
theorem d_b4 {cell : Int} {x2 x3 x4 x5 x6 x7 x8 x9 x10 : Option D} (hnx : ∀ x1 x2 x3 x4 x5 x6 x7 x8 x9 x10 S1, D0.nx [some (.scr ns), x1, x2, x3, x4, x5, x6, x7, x8, x9, x10] S1) : b4_law [some (.scr ns), some (.int cell), x2, x3, x4, x5, x6, x7, x8, x9, x10] S D0 := by
  simp only [b4_law, sC, sIf, sRt, sAs, sX, sN, sRtN, sRs, sBk, sPar, sPar3, sSub, DEnds.seq, DEnds.loop, endF, dAnd, dOr, dNot, dT, dTr, tru, dB, dCh, dC, dIsi, tyD_non, tyD_bl, tyD_int, tyD_str, tyD_tup, tyD_lst, isTN, dAndV, dOrV, dNotV, dIfE, aN, aC, dTup, dLst, dLstM_eq, dCall, dCB, dU, dSl, slD, oN, oS, gN, gT, gsC, gsN, lAny, lRng1, lRng2, lZip, itemsOf, lstOf, seqOf, dLc, wipeD, bYes, dFor, dApp, dMs, dErr, dRev, revD, dNotT, lEnum, lZip3, dCallV, opAddX, opSubX, opStrX, opAdd, opSub, opMod, opDiv, opPow, opMul, opLt, opGt, opLe, opGe, opEq, opNe, opIn, opNi, opInB, opIs, opIsn, opIsB, isNon, opNeg, opIx, opAll, opSum, opMin, opMax, opInt, opLen, opTup, opList, opBool, opJoin, eqD_int, eqD_str, eqD_bl, eqD_non, eqD_tup, eqD_lst, eqD_tup0, eqD_lst0, der_int, der_str, der_bl, der_non, der_tup, der_lst, eqOk_int, eqOk_str, PR.wp, RS.wp, dV, List.getElem?_cons_zero, List.getElem?_cons_succ, List.getElem?_nil, List.set_cons_zero, List.set_cons_succ, List.length_cons, List.length_nil, Option.some.injEq, true_and, and_true, Bool.not_true, Bool.not_false, drum_wp]
  refine ⟨by decide, fun a ha => ?_⟩
  have hD : put S a .drum a = some .drum := put_same
  refine ⟨by decide, ?_⟩
  have er : rngL 0 (3 : Int).toNat = [D.int 0, .int 1, .int 2] := rfl
  rw [er]
  refine for_inv (fun rest env S1 => S1 = put S a .drum ∧ ((∃ s l, BkOk s l ∧ ∃ x1 x2 x3 x5 x6 x8 x9 x10, env = [some (.scr ns), x1, x2, x3, some (.obj a), x5, x6, some (bkD s l), x8, x9, x10]) ∨ (rest.length = 3 ∧ ∃ x1 x2 x3 x5 x6 x7 x8 x9 x10, env = [some (.scr ns), x1, x2, x3, some (.obj a), x5, x6, x7, x8, x9, x10]))) ?_ ?_ _ _ _ ⟨rfl, .inr ⟨rfl, _, _, _, _, _, _, _, _, _, rfl⟩⟩
  · rintro t rest env S1 ⟨rfl, he⟩ K hK
    have he2 : ∃ y : Unit, ∃ x1 x2 x3 x5 x6 x7 x8 x9 x10, env = [some (.scr ns), x1, x2, x3, some (.obj a), x5, x6, x7, x8, x9, x10] := by
      rcases he with ⟨s, l, _, x1, x2, x3, x5, x6, x8, x9, x10, rfl⟩ | ⟨_, x1, x2, x3, x5, x6, x7, x8, x9, x10, rfl⟩
      · exact ⟨(), _, _, _, _, _, _, _, _, _, rfl⟩
      · exact ⟨(), _, _, _, _, _, _, _, _, _, rfl⟩
    obtain ⟨_, x1, x2, x3, x5, x6, x7, x8, x9, x10, rfl⟩ := he2
    exact d_b2 hD fun s l h x1 x2 x3 x5 x6 x8 x9 x10 => hK _ _ ⟨rfl, .inl ⟨s, l, h, _, _, _, _, _, _, _, _, rfl⟩⟩
  · rintro env S1 ⟨rfl, he⟩
    rcases he with ⟨s, l, h, x1, x2, x3, x5, x6, x8, x9, x10, rfl⟩ | ⟨z, _⟩
    · exact d_b4t hD h fun x1 x2 x3 x4 x5 x6 x7 x8 x9 x10 => hnx _ _ _ _ _ _ _ _ _ _ _
    · cases z
theorem lc_dk {g : GT} {tt : BT} {te : ET} {env : DEnv} {S : Sto} (f : D → D) {K : List D → Sto → Prop} (l acc : List D)
    (h : ∀ x ∈ l, ∀ KN KY, KY (f x) S → lcStep g tt te env x S KN KY) (k : K (acc ++ l.map f) S) : lcGo g tt te env l acc S K := by
  have := lc_map (fun d : D => d) f l acc h k
  rwa [List.map_id'] at this
theorem d_e3 {S : Sto} {Q : DK} {R : RK} {x1 x2 x3 x4 x5 x6 x7 x8 x9 x10 : Option D} (h : ∀ S, Q (.bl true) S) : e3_law [some (.scr ns), x1, x2, x3, x4, x5, x6, x7, x8, x9, x10] S (endF Q R) := by
  simp only [e3_law, sC, sIf, sRt, sAs, sX, sN, sRtN, sRs, sBk, sPar, sPar3, sSub, DEnds.seq, DEnds.loop, endF, dAnd, dOr, dNot, dT, dTr, tru, dB, dCh, dC, dIsi, tyD_non, tyD_bl, tyD_int, tyD_str, tyD_tup, tyD_lst, isTN, dAndV, dOrV, dNotV, dIfE, aN, aC, dTup, dLst, dLstM_eq, dCall, dCB, dU, dSl, slD, oN, oS, gN, gT, gsC, gsN, lAny, lRng1, lRng2, lZip, itemsOf, lstOf, seqOf, dLc, wipeD, bYes, dFor, dApp, dMs, dErr, dRev, revD, dNotT, lEnum, lZip3, dCallV, opAddX, opSubX, opStrX, opAdd, opSub, opMod, opDiv, opPow, opMul, opLt, opGt, opLe, opGe, opEq, opNe, opIn, opNi, opInB, opIs, opIsn, opIsB, isNon, opNeg, opIx, opAll, opSum, opMin, opMax, opInt, opLen, opTup, opList, opBool, opJoin, eqD_int, eqD_str, eqD_bl, eqD_non, eqD_tup, eqD_lst, eqD_tup0, eqD_lst0, der_int, der_str, der_bl, der_non, der_tup, der_lst, eqOk_int, eqOk_str, PR.wp, RS.wp, dV, List.getElem?_cons_zero, List.getElem?_cons_succ, List.getElem?_nil, List.set_cons_zero, List.set_cons_succ, List.length_cons, List.length_nil, Option.some.injEq, true_and, and_true, Bool.not_true, Bool.not_false, all_wp, cut_map, isbk_wp]
  have e1 : isBk (D.tup [D.int 4, D.tup (List.map D.str (cut (cut (allW 4 (Int.toNat 3)) none (some 41)) none (some 40)))]) = true := by decide +kernel
  have e2 : isBk (D.tup [D.int 4, D.tup (List.map D.str (cut (allW 4 (Int.toNat 3)) none (some 41)))]) = false := by decide +kernel
  have d1 : dok 60 (D.tup [D.int 4, D.tup (List.map D.str (cut (cut (allW 4 (Int.toNat 3)) none (some 41)) none (some 40)))]) = true := by decide +kernel
  have d2 : dok 60 (D.tup [D.int 4, D.tup (List.map D.str (cut (allW 4 (Int.toNat 3)) none (some 41)))]) = true := by decide +kernel
  rw [e1, e2]
  exact ⟨⟨by decide, by decide, by decide, by decide⟩, by decide, d1, by decide, d2, h _⟩
def e9 : List D := [.bl false, .bl false, .bl true, .bl false, .bl true, .bl false, .bl false, .bl false, .bl false]
def e5 : List D := [.bl true, .bl false, .bl false, .bl false, .bl false]
theorem d_e2 {S : Sto} {Q : DK} {R : RK} {zs : List D} (hz : (zs.all (dok 60)) = true)
    (a1 : eqD (.lst ((cut zs none (some 9)).map fun d => .bl (isBk d))) (.lst e9) = true) (b1 : (dok 60 (.lst ((cut zs none (some 9)).map fun d => .bl (isBk d))) && dok 60 (.lst e9)) = true)
    (a2 : eqD (.lst ((cut zs (some 9) none).map fun d => .bl (isBk d))) (.lst e5) = true) (b2 : (dok 60 (.lst ((cut zs (some 9) none).map fun d => .bl (isBk d))) && dok 60 (.lst e5)) = true)
    {x1 x3 x4 x5 x6 x7 x8 x9 x10 : Option D} (h : ∀ S, Q (.bl true) S) : e2_law [some (.scr ns), x1, some (.lst zs), x3, x4, x5, x6, x7, x8, x9, x10] S (endF Q R) := by
  rw [List.all_eq_true] at hz
  simp only [e2_law, sC, sIf, sRt, sAs, sX, sN, sRtN, sRs, sBk, sPar, sPar3, sSub, DEnds.seq, DEnds.loop, endF, dAnd, dOr, dNot, dT, dTr, tru, dB, dCh, dC, dIsi, tyD_non, tyD_bl, tyD_int, tyD_str, tyD_tup, tyD_lst, isTN, dAndV, dOrV, dNotV, dIfE, aN, aC, dTup, dLst, dLstM_eq, dCall, dCB, dU, dSl, slD, oN, oS, gN, gT, gsC, gsN, lAny, lRng1, lRng2, lZip, itemsOf, lstOf, seqOf, dLc, wipeD, bYes, dFor, dApp, dMs, dErr, dRev, revD, dNotT, lEnum, lZip3, dCallV, opAddX, opSubX, opStrX, opAdd, opSub, opMod, opDiv, opPow, opMul, opLt, opGt, opLe, opGe, opEq, opNe, opIn, opNi, opInB, opIs, opIsn, opIsB, isNon, opNeg, opIx, opAll, opSum, opMin, opMax, opInt, opLen, opTup, opList, opBool, opJoin, eqD_int, eqD_str, eqD_bl, eqD_non, eqD_tup, eqD_lst, eqD_tup0, eqD_lst0, der_int, der_str, der_bl, der_non, der_tup, der_lst, eqOk_int, eqOk_str, PR.wp, RS.wp, dV, List.getElem?_cons_zero, List.getElem?_cons_succ, List.getElem?_nil, List.set_cons_zero, List.set_cons_succ, List.length_cons, List.length_nil, Option.some.injEq, true_and, and_true, Bool.not_true, Bool.not_false]
  refine lc_dk (fun d => .bl (isBk d)) _ [] (fun d hd KN KY q => ?_) ?_
  · simp only [lcStep, sC, sIf, sRt, sAs, sX, sN, sRtN, sRs, sBk, sPar, sPar3, sSub, DEnds.seq, DEnds.loop, endF, dAnd, dOr, dNot, dT, dTr, tru, dB, dCh, dC, dIsi, tyD_non, tyD_bl, tyD_int, tyD_str, tyD_tup, tyD_lst, isTN, dAndV, dOrV, dNotV, dIfE, aN, aC, dTup, dLst, dLstM_eq, dCall, dCB, dU, dSl, slD, oN, oS, gN, gT, gsC, gsN, lAny, lRng1, lRng2, lZip, itemsOf, lstOf, seqOf, dLc, wipeD, bYes, dFor, dApp, dMs, dErr, dRev, revD, dNotT, lEnum, lZip3, dCallV, opAddX, opSubX, opStrX, opAdd, opSub, opMod, opDiv, opPow, opMul, opLt, opGt, opLe, opGe, opEq, opNe, opIn, opNi, opInB, opIs, opIsn, opIsB, isNon, opNeg, opIx, opAll, opSum, opMin, opMax, opInt, opLen, opTup, opList, opBool, opJoin, eqD_int, eqD_str, eqD_bl, eqD_non, eqD_tup, eqD_lst, eqD_tup0, eqD_lst0, der_int, der_str, der_bl, der_non, der_tup, der_lst, eqOk_int, eqOk_str, PR.wp, RS.wp, dV, List.getElem?_cons_zero, List.getElem?_cons_succ, List.getElem?_nil, List.set_cons_zero, List.set_cons_succ, List.length_cons, List.length_nil, Option.some.injEq, true_and, and_true, Bool.not_true, Bool.not_false, isbk_wp]
    exact ⟨hz d (cut_mem hd), q⟩
  · rw [List.nil_append]
    refine ⟨by decide, b1, ?_⟩
    rw [show eqD (.lst ((cut zs none (some 9)).map fun d => .bl (isBk d))) (.lst [.bl false, .bl false, .bl true, .bl false, .bl true, .bl false, .bl false, .bl false, .bl false]) = true from a1]
    refine lc_dk (fun d => .bl (isBk d)) _ [] (fun d hd KN KY q => ?_) ?_
    · simp only [lcStep, sC, sIf, sRt, sAs, sX, sN, sRtN, sRs, sBk, sPar, sPar3, sSub, DEnds.seq, DEnds.loop, endF, dAnd, dOr, dNot, dT, dTr, tru, dB, dCh, dC, dIsi, tyD_non, tyD_bl, tyD_int, tyD_str, tyD_tup, tyD_lst, isTN, dAndV, dOrV, dNotV, dIfE, aN, aC, dTup, dLst, dLstM_eq, dCall, dCB, dU, dSl, slD, oN, oS, gN, gT, gsC, gsN, lAny, lRng1, lRng2, lZip, itemsOf, lstOf, seqOf, dLc, wipeD, bYes, dFor, dApp, dMs, dErr, dRev, revD, dNotT, lEnum, lZip3, dCallV, opAddX, opSubX, opStrX, opAdd, opSub, opMod, opDiv, opPow, opMul, opLt, opGt, opLe, opGe, opEq, opNe, opIn, opNi, opInB, opIs, opIsn, opIsB, isNon, opNeg, opIx, opAll, opSum, opMin, opMax, opInt, opLen, opTup, opList, opBool, opJoin, eqD_int, eqD_str, eqD_bl, eqD_non, eqD_tup, eqD_lst, eqD_tup0, eqD_lst0, der_int, der_str, der_bl, der_non, der_tup, der_lst, eqOk_int, eqOk_str, PR.wp, RS.wp, dV, List.getElem?_cons_zero, List.getElem?_cons_succ, List.getElem?_nil, List.set_cons_zero, List.set_cons_succ, List.length_cons, List.length_nil, Option.some.injEq, true_and, and_true, Bool.not_true, Bool.not_false, isbk_wp]
      exact ⟨hz d (cut_mem hd), q⟩
    · rw [List.nil_append]
      refine ⟨by decide, b2, ?_⟩
      rw [show eqD (.lst ((cut zs (some 9) none).map fun d => .bl (isBk d))) (.lst [.bl true, .bl false, .bl false, .bl false, .bl false]) = true from a2]
      exact d_e3 h
theorem d_e {S : Sto} {Q : DK} {R : RK} {x1 x2 x3 x4 x5 x6 x7 x8 x9 x10 : Option D} (h : ∀ S, Q (.bl true) S) : e_law [some (.scr ns), x1, x2, x3, x4, x5, x6, x7, x8, x9, x10] S (endF Q R) := by
  simp only [e_law, sC, sIf, sRt, sAs, sX, sN, sRtN, sRs, sBk, sPar, sPar3, sSub, DEnds.seq, DEnds.loop, endF, dAnd, dOr, dNot, dT, dTr, tru, dB, dCh, dC, dIsi, tyD_non, tyD_bl, tyD_int, tyD_str, tyD_tup, tyD_lst, isTN, dAndV, dOrV, dNotV, dIfE, aN, aC, dTup, dLst, dLstM_eq, dCall, dCB, dU, dSl, slD, oN, oS, gN, gT, gsC, gsN, lAny, lRng1, lRng2, lZip, itemsOf, lstOf, seqOf, dLc, wipeD, bYes, dFor, dApp, dMs, dErr, dRev, revD, dNotT, lEnum, lZip3, dCallV, opAddX, opSubX, opStrX, opAdd, opSub, opMod, opDiv, opPow, opMul, opLt, opGt, opLe, opGe, opEq, opNe, opIn, opNi, opInB, opIs, opIsn, opIsB, isNon, opNeg, opIx, opAll, opSum, opMin, opMax, opInt, opLen, opTup, opList, opBool, opJoin, eqD_int, eqD_str, eqD_bl, eqD_non, eqD_tup, eqD_lst, eqD_tup0, eqD_lst0, der_int, der_str, der_bl, der_non, der_tup, der_lst, eqOk_int, eqOk_str, PR.wp, RS.wp, dV, List.getElem?_cons_zero, List.getElem?_cons_succ, List.getElem?_nil, List.set_cons_zero, List.set_cons_succ, List.length_cons, List.length_nil, Option.some.injEq, true_and, and_true, Bool.not_true, Bool.not_false, catL, List.cons_append, List.nil_append]
  iterate 33 refine ⟨by decide, ?_⟩
  exact d_e2 (by decide +kernel) (by decide +kernel) (by decide +kernel) (by decide +kernel) (by decide +kernel) h
end
theorem d_law {ds : List D} {S : Sto} {Q : DK} {R : RK} (qm : QMono Q) (rm : RMono R) (h : (sp_law.g S ds).wp S Q R) : u_law (dStart 11 ds) S (endF Q R) := by
  have hh := sp1_inv h
  clear h
  obtain ⟨z, rfl, h⟩ := hh
  cases z with
  | scr ns =>
    obtain ⟨hl, h⟩ := h
    replace h : ∀ S', Q (.bl true) S' := h
    show u_law [some (.scr ns), none, none, none, none, none, none, none, none, none, none] S _
    simp only [u_law, sC, sIf, sRt, sAs, sX, sN, sRtN, sRs, sBk, sPar, sPar3, sSub, DEnds.seq, DEnds.loop, endF, dAnd, dOr, dNot, dT, dTr, tru, dB, dCh, dC, dIsi, tyD_non, tyD_bl, tyD_int, tyD_str, tyD_tup, tyD_lst, isTN, dAndV, dOrV, dNotV, dIfE, aN, aC, dTup, dLst, dLstM_eq, dCall, dCB, dU, dSl, slD, oN, oS, gN, gT, gsC, gsN, lAny, lRng1, lRng2, lZip, itemsOf, lstOf, seqOf, dLc, wipeD, bYes, dFor, dApp, dMs, dErr, dRev, revD, dNotT, lEnum, lZip3, dCallV, opAddX, opSubX, opStrX, opAdd, opSub, opMod, opDiv, opPow, opMul, opLt, opGt, opLe, opGe, opEq, opNe, opIn, opNi, opInB, opIs, opIsn, opIsB, isNon, opNeg, opIx, opAll, opSum, opMin, opMax, opInt, opLen, opTup, opList, opBool, opJoin, eqD_int, eqD_str, eqD_bl, eqD_non, eqD_tup, eqD_lst, eqD_tup0, eqD_lst0, der_int, der_str, der_bl, der_non, der_tup, der_lst, eqOk_int, eqOk_str, PR.wp, RS.wp, dV, List.getElem?_cons_zero, List.getElem?_cons_succ, List.getElem?_nil, List.set_cons_zero, List.set_cons_succ, List.length_cons, List.length_nil, Option.some.injEq, true_and, and_true, Bool.not_true, Bool.not_false, add_scr, List.cons_append, List.nil_append]
    refine ⟨by decide, by omega, ?_⟩
    refine for_inv (fun rest env S1 => (∀ d ∈ rest, ∃ i, d = .int i) ∧ ∃ x1 x2 x3 x4 x5 x6 x7 x8 x9 x10, env = [some (.scr ns), x1, x2, x3, x4, x5, x6, x7, x8, x9, x10]) ?_ ?_ _ _ _ ⟨fun d hd => ?_, _, _, _, _, _, _, _, _, _, _, rfl⟩
    · rintro d rest env S1 ⟨hi, x1, x2, x3, x4, x5, x6, x7, x8, x9, x10, rfl⟩ K hK
      obtain ⟨cell, rfl⟩ := hi d List.mem_cons_self
      exact d_b4 fun x1 x2 x3 x4 x5 x6 x7 x8 x9 x10 S1 => hK _ _ ⟨fun d hd => hi d (List.mem_cons_of_mem _ hd), _, _, _, _, _, _, _, _, _, _, rfl⟩
    · rintro env S1 ⟨hi, x1, x2, x3, x4, x5, x6, x7, x8, x9, x10, rfl⟩
      exact d_e h
    · have hd := cut_mem hd
      rcases List.mem_cons.mp hd with rfl | hd
      · exact ⟨0, rfl⟩
      · obtain ⟨i, _, rfl⟩ := List.mem_map.mp hd
        exact ⟨i, rfl⟩
  | _ => exact h.elim
end DL

namespace DL
open PySem PySem.Spec PyProof.Rows L2 L2H LamX
def top (i : Nat) : Stmt := PySem.Challenge.pw_onestaken_k02_books_known.main.body.getD i (.Pass ⟨0, 0, 0, 0⟩)
abbrev s_is_whole : Stmt := top 19
abbrev s_fits_word : Stmt := top 20
abbrev s_weight_of : Stmt := top 21
abbrev s_is_within : Stmt := top 22
abbrev s_loss_of : Stmt := top 23
abbrev s_least_of : Stmt := top 24
abbrev s_fits_steps : Stmt := top 25
abbrev s_need_number : Stmt := top 26
abbrev s_need_most : Stmt := top 27
abbrev s_fits_book : Stmt := top 31
abbrev s_first_bad : Stmt := top 32
abbrev s_far_apart : Stmt := top 33
abbrev s_need_book : Stmt := top 34
abbrev s_is_book : Stmt := top 35
abbrev s_shows : Stmt := top 36
abbrev s_bad_pair : Stmt := top 37
abbrev s_sure_steps : Stmt := top 38
abbrev s_mends : Stmt := top 39
abbrev s__law_drum : Stmt := top 41
abbrev s__law_roll : Stmt := top 42
abbrev s__law_some : Stmt := top 43
abbrev s__law_word : Stmt := top 44
abbrev s__law_all : Stmt := top 45
abbrev s__law_near : Stmt := top 46
abbrev s__law_book : Stmt := top 47
abbrev s__law_odd : Stmt := top 48
abbrev s__law_bent : Stmt := top 49
abbrev s__law_names : Stmt := top 50
abbrev s__law_error : Stmt := top 51
abbrev s__law_is_book : Stmt := top 52
abbrev s__law_judged : Stmt := top 53
abbrev s_law : Stmt := top 54
theorem c_is_whole : FnScope ["value", "low", "high"] ["value", "low", "high"] (defScope s_is_whole) := ⟨rfl, rfl, rfl, by decide +kernel, rfl, by decide +kernel, by decide +kernel⟩
theorem c_fits_word : FnScope ["stands", "value", "figure"] ["stands", "value"] (defScope s_fits_word) := ⟨rfl, rfl, rfl, by decide +kernel, rfl, by decide +kernel, by decide +kernel⟩
theorem c_weight_of : FnScope ["word", "figure"] ["word"] (defScope s_weight_of) := ⟨rfl, rfl, rfl, by decide +kernel, rfl, by decide +kernel, by decide +kernel⟩
theorem c_is_within : FnScope ["one", "other", "mine", "yours"] ["one", "other"] (defScope s_is_within) := ⟨rfl, rfl, rfl, by decide +kernel, rfl, by decide +kernel, by decide +kernel⟩
theorem c_loss_of : FnScope ["one", "other"] ["one", "other"] (defScope s_loss_of) := ⟨rfl, rfl, rfl, by decide +kernel, rfl, by decide +kernel, by decide +kernel⟩
theorem c_least_of : FnScope ["one", "other", "mine", "yours"] ["one", "other"] (defScope s_least_of) := ⟨rfl, rfl, rfl, by decide +kernel, rfl, by decide +kernel, by decide +kernel⟩
theorem c_fits_steps : FnScope ["steps", "most"] ["steps", "most"] (defScope s_fits_steps) := ⟨rfl, rfl, rfl, by decide +kernel, rfl, by decide +kernel, by decide +kernel⟩
theorem c_need_number : FnScope ["value", "low", "high"] ["value", "low", "high"] (defScope s_need_number) := ⟨rfl, rfl, rfl, by decide +kernel, rfl, by decide +kernel, by decide +kernel⟩
theorem c_need_most : FnScope ["value"] ["value"] (defScope s_need_most) := ⟨rfl, rfl, rfl, by decide +kernel, rfl, by decide +kernel, by decide +kernel⟩
theorem c_fits_book : FnScope ["value", "words", "at", "word"] ["value"] (defScope s_fits_book) := ⟨rfl, rfl, rfl, by decide +kernel, rfl, by decide +kernel, by decide +kernel⟩
theorem c_first_bad : FnScope ["words", "most", "one", "other"] ["words", "most"] (defScope s_first_bad) := ⟨rfl, rfl, rfl, by decide +kernel, rfl, by decide +kernel, by decide +kernel⟩
theorem c_far_apart : FnScope ["one", "other", "shared"] ["one", "other"] (defScope s_far_apart) := ⟨rfl, rfl, rfl, by decide +kernel, rfl, by decide +kernel, by decide +kernel⟩
theorem c_need_book : FnScope ["value"] ["value"] (defScope s_need_book) := ⟨rfl, rfl, rfl, by decide +kernel, rfl, by decide +kernel, by decide +kernel⟩
theorem c_is_book : FnScope ["value"] ["value"] (defScope s_is_book) := ⟨rfl, rfl, rfl, by decide +kernel, rfl, by decide +kernel, by decide +kernel⟩
theorem c_shows : FnScope ["book", "most"] ["book", "most"] (defScope s_shows) := ⟨rfl, rfl, rfl, by decide +kernel, rfl, by decide +kernel, by decide +kernel⟩
theorem c_bad_pair : FnScope ["book", "most"] ["book", "most"] (defScope s_bad_pair) := ⟨rfl, rfl, rfl, by decide +kernel, rfl, by decide +kernel, by decide +kernel⟩
theorem c_sure_steps : FnScope ["book", "some", "one", "other", "steps"] ["book"] (defScope s_sure_steps) := ⟨rfl, rfl, rfl, by decide +kernel, rfl, by decide +kernel, by decide +kernel⟩
theorem c_mends : FnScope ["book", "some", "one", "other"] ["book"] (defScope s_mends) := ⟨rfl, rfl, rfl, by decide +kernel, rfl, by decide +kernel, by decide +kernel⟩
theorem c__law_drum : FnScope ["cell", "turn", "great"] ["cell", "turn"] (defScope s__law_drum) := ⟨rfl, rfl, rfl, by decide +kernel, rfl, by decide +kernel, by decide +kernel⟩
theorem c__law_roll : FnScope ["drum", "many", "deep", "found"] ["drum", "many"] (defScope s__law_roll) := ⟨rfl, rfl, rfl, by decide +kernel, rfl, by decide +kernel, by decide +kernel⟩
theorem c__law_some : FnScope ["drum", "things"] ["drum", "things"] (defScope s__law_some) := ⟨rfl, rfl, rfl, by decide +kernel, rfl, by decide +kernel, by decide +kernel⟩
theorem c__law_word : FnScope ["drum", "stands", "length", "cell"] ["drum", "stands", "length"] (defScope s__law_word) := ⟨rfl, rfl, rfl, by decide +kernel, rfl, by decide +kernel, by decide +kernel⟩
theorem c__law_all : FnScope ["stands", "length", "found", "cell", "longer", "text", "sign"] ["stands", "length"] (defScope s__law_all) := ⟨rfl, rfl, rfl, by decide +kernel, rfl, by decide +kernel, by decide +kernel⟩
theorem c__law_near : FnScope ["drum", "stands", "text", "turn", "at"] ["drum", "stands", "text"] (defScope s__law_near) := ⟨rfl, rfl, rfl, by decide +kernel, rfl, by decide +kernel, by decide +kernel⟩
theorem c__law_book : FnScope ["drum", "many", "cells", "turn", "some", "stands", "length", "words"] ["drum", "many", "cells"] (defScope s__law_book) := ⟨rfl, rfl, rfl, by decide +kernel, rfl, by decide +kernel, by decide +kernel⟩
theorem c__law_odd : FnScope ["drum", "depth", "some", "row", "part"] ["drum", "depth"] (defScope s__law_odd) := ⟨rfl, rfl, rfl, by decide +kernel, rfl, by decide +kernel, by decide +kernel⟩
theorem c__law_bent : FnScope ["drum", "value", "near", "at", "way"] ["drum", "value"] (defScope s__law_bent) := ⟨rfl, rfl, rfl, by decide +kernel, rfl, by decide +kernel, by decide +kernel⟩
theorem c__law_names : FnScope ["e", "some", "labels", "label", "good"] ["e"] (defScope s__law_names) := ⟨rfl, rfl, rfl, by decide +kernel, rfl, by decide +kernel, by decide +kernel⟩
theorem c__law_error : FnScope ["call", "e"] ["call"] (defScope s__law_error) := ⟨rfl, rfl, rfl, by decide +kernel, rfl, by decide +kernel, by decide +kernel⟩
theorem c__law_is_book : FnScope ["value", "text", "sign"] ["value"] (defScope s__law_is_book) := ⟨rfl, rfl, rfl, by decide +kernel, rfl, by decide +kernel, by decide +kernel⟩
theorem c__law_judged : FnScope ["value", "good", "found"] ["value"] (defScope s__law_judged) := ⟨rfl, rfl, rfl, by decide +kernel, rfl, by decide +kernel, by decide +kernel⟩
theorem c_law : FnScope ["script", "cell", "some", "forty", "drum", "turn", "odd", "one", "bent", "step", "value"] ["script"] (defScope s_law) := ⟨rfl, rfl, rfl, by decide +kernel, rfl, by decide +kernel, by decide +kernel⟩
structure Ads where
  a_is_whole : Addr
  a_fits_word : Addr
  a_weight_of : Addr
  a_is_within : Addr
  a_loss_of : Addr
  a_least_of : Addr
  a_fits_steps : Addr
  a_need_number : Addr
  a_need_most : Addr
  a_fits_book : Addr
  a_first_bad : Addr
  a_far_apart : Addr
  a_need_book : Addr
  a_is_book : Addr
  a_shows : Addr
  a_bad_pair : Addr
  a_sure_steps : Addr
  a_mends : Addr
  a__law_drum : Addr
  a__law_roll : Addr
  a__law_some : Addr
  a__law_word : Addr
  a__law_all : Addr
  a__law_near : Addr
  a__law_book : Addr
  a__law_odd : Addr
  a__law_bent : Addr
  a__law_names : Addr
  a__law_error : Addr
  a__law_is_book : Addr
  a__law_judged : Addr
  a_law : Addr
  a_TakenError : Addr
  a_InvalidStands : Addr
  a_InvalidWord : Addr
  a_InvalidNumber : Addr
  a_InvalidBook : Addr
  a_InvalidWeights : Addr
  a_InvalidIndex : Addr
  a_InvalidPrices : Addr
  a_InvalidCell : Addr
  a_InvalidText : Addr
  a_Unlike : Addr
  a_Empty : Addr
  a_NothingToUndo : Addr
  a_TooMany : Addr
  c__law_judged : Addr
  p__law_judged : Addr
  c_law : Addr
  p_law : Addr
def tp (K : PySem.W.Frag) (a : Ads) : Tp := ⟨[(a.p__law_judged, lamq "_law_judged"), (a.p_law, lamq "law")], fun i => match i with | 0 => .ref a.a_TakenError | 1 => .ref a.a_InvalidStands | 2 => .ref a.a_InvalidWord | 3 => .ref a.a_InvalidNumber | 4 => .ref a.a_InvalidBook | 5 => .ref a.a_InvalidWeights | 6 => .ref a.a_InvalidIndex | 7 => .ref a.a_InvalidPrices | 8 => .ref a.a_InvalidCell | 9 => .ref a.a_InvalidText | 10 => .ref a.a_Unlike | 11 => .ref a.a_Empty | 12 => .ref a.a_NothingToUndo | 13 => .ref a.a_TooMany | _ => .none, ⟨fun _ => .non, inK K⟩⟩
theorem sck {K : PySem.W.Frag} {a : Ads} {X : Cx} (e : X.K = K) : ScK (tp K a) X := by subst e; exact fun _ _ h => h
structure Top (K : PySem.W.Frag) (mg : Str → Option Value) (base : Heap) (a : Ads) : Prop where
  f_is_whole : FnE K mg "is_whole" s_is_whole ["value", "low", "high"] a.a_is_whole
  f_fits_word : FnE K mg "fits_word" s_fits_word ["stands", "value"] a.a_fits_word
  f_weight_of : FnE K mg "weight_of" s_weight_of ["word"] a.a_weight_of
  f_is_within : FnE K mg "is_within" s_is_within ["one", "other"] a.a_is_within
  f_loss_of : FnE K mg "loss_of" s_loss_of ["one", "other"] a.a_loss_of
  f_least_of : FnE K mg "least_of" s_least_of ["one", "other"] a.a_least_of
  f_fits_steps : FnE K mg "fits_steps" s_fits_steps ["steps", "most"] a.a_fits_steps
  f_need_number : FnE K mg "need_number" s_need_number ["value", "low", "high"] a.a_need_number
  f_need_most : FnE K mg "need_most" s_need_most ["value"] a.a_need_most
  f_fits_book : FnE K mg "fits_book" s_fits_book ["value"] a.a_fits_book
  f_first_bad : FnE K mg "first_bad" s_first_bad ["words", "most"] a.a_first_bad
  f_far_apart : FnE K mg "far_apart" s_far_apart ["one", "other"] a.a_far_apart
  f_need_book : FnE K mg "need_book" s_need_book ["value"] a.a_need_book
  f_is_book : FnE K mg "is_book" s_is_book ["value"] a.a_is_book
  f_shows : FnE K mg "shows" s_shows ["book", "most"] a.a_shows
  f_bad_pair : FnE K mg "bad_pair" s_bad_pair ["book", "most"] a.a_bad_pair
  f_sure_steps : FnE K mg "sure_steps" s_sure_steps ["book"] a.a_sure_steps
  f_mends : FnE K mg "mends" s_mends ["book"] a.a_mends
  f__law_drum : FnE K mg "_law_drum" s__law_drum ["cell", "turn"] a.a__law_drum
  f__law_roll : FnE K mg "_law_roll" s__law_roll ["drum", "many"] a.a__law_roll
  f__law_some : FnE K mg "_law_some" s__law_some ["drum", "things"] a.a__law_some
  f__law_word : FnE K mg "_law_word" s__law_word ["drum", "stands", "length"] a.a__law_word
  f__law_all : FnE K mg "_law_all" s__law_all ["stands", "length"] a.a__law_all
  f__law_near : FnE K mg "_law_near" s__law_near ["drum", "stands", "text"] a.a__law_near
  f__law_book : FnE K mg "_law_book" s__law_book ["drum", "many", "cells"] a.a__law_book
  f__law_odd : FnE K mg "_law_odd" s__law_odd ["drum", "depth"] a.a__law_odd
  f__law_bent : FnE K mg "_law_bent" s__law_bent ["drum", "value"] a.a__law_bent
  f__law_names : FnE K mg "_law_names" s__law_names ["e"] a.a__law_names
  f__law_error : FnE K mg "_law_error" s__law_error ["call"] a.a__law_error
  f__law_is_book : FnE K mg "_law_is_book" s__law_is_book ["value"] a.a__law_is_book
  f__law_judged : FnEL K mg "_law_judged" s__law_judged ["value"] a.a__law_judged a.c__law_judged
  tb__law_judged : TabB base mg a.c__law_judged a.p__law_judged
  u__law_judged : ∀ p ∈ (tp K a).tabs, p.1 = a.p__law_judged → p.2 = lamq "_law_judged"
  f_law : FnEL K mg "law" s_law ["script"] a.a_law a.c_law
  tb_law : TabB base mg a.c_law a.p_law
  u_law : ∀ p ∈ (tp K a).tabs, p.1 = a.p_law → p.2 = lamq "law"
  z_ValueError : mg "ValueError" = none
  z_all : mg "all" = none
  z_bool : mg "bool" = none
  z_int : mg "int" = none
  z_isinstance : mg "isinstance" = none
  z_len : mg "len" = none
  z_list : mg "list" = none
  z_max : mg "max" = none
  z_min : mg "min" = none
  z_range : mg "range" = none
  z_set : mg "set" = none
  z_sorted : mg "sorted" = none
  z_str : mg "str" = none
  z_sum : mg "sum" = none
  z_tuple : mg "tuple" = none
  z_zip : mg "zip" = none
  k_FIGURES : ∃ y t, mg "FIGURES" = some (.str y t) ∧ y.cps.toList = [48, 49, 50, 51]
  k_FAR : ∃ t, mg "FAR" = some (.int 1000000000000000000000000000000 t)
  k_LONGEST : ∃ t, mg "LONGEST" = some (.int 60 t)
  k_MOST : ∃ t, mg "MOST" = some (.int 40 t)
  k_CELLS : ∃ t, mg "CELLS" = some (.int 12 t)
  m_TakenError : mg "TakenError" = some (.ref a.a_TakenError)
  m_InvalidStands : mg "InvalidStands" = some (.ref a.a_InvalidStands)
  m_InvalidWord : mg "InvalidWord" = some (.ref a.a_InvalidWord)
  m_InvalidNumber : mg "InvalidNumber" = some (.ref a.a_InvalidNumber)
  m_InvalidBook : mg "InvalidBook" = some (.ref a.a_InvalidBook)
  m_InvalidWeights : mg "InvalidWeights" = some (.ref a.a_InvalidWeights)
  m_InvalidIndex : mg "InvalidIndex" = some (.ref a.a_InvalidIndex)
  m_InvalidPrices : mg "InvalidPrices" = some (.ref a.a_InvalidPrices)
  m_InvalidCell : mg "InvalidCell" = some (.ref a.a_InvalidCell)
  m_InvalidText : mg "InvalidText" = some (.ref a.a_InvalidText)
  m_Unlike : mg "Unlike" = some (.ref a.a_Unlike)
  m_Empty : mg "Empty" = some (.ref a.a_Empty)
  m_NothingToUndo : mg "NothingToUndo" = some (.ref a.a_NothingToUndo)
  m_TooMany : mg "TooMany" = some (.ref a.a_TooMany)
  x_InvalidNumber : PySem.W.excIn K a.a_InvalidNumber [.type "ValueError", .type "Exception", .type "BaseException", .type "object"] "ValueError.__new__" = true
  k_InvalidNumber : PySem.W.keepIn K (.ref a.a_InvalidNumber) = true
  s_InvalidNumber : PySem.W.subIn K (.ref a.a_InvalidNumber) (.type "BaseException") = some true
  y_InvalidNumber : PySem.W.typeIn K (.ref a.a_InvalidNumber) = some (.type "type")
  x_InvalidBook : PySem.W.excIn K a.a_InvalidBook [.type "ValueError", .type "Exception", .type "BaseException", .type "object"] "ValueError.__new__" = true
  k_InvalidBook : PySem.W.keepIn K (.ref a.a_InvalidBook) = true
  s_InvalidBook : PySem.W.subIn K (.ref a.a_InvalidBook) (.type "BaseException") = some true
  y_InvalidBook : PySem.W.typeIn K (.ref a.a_InvalidBook) = some (.type "type")
  e_InvalidNumber : ExcC K a.a_InvalidNumber
  q_InvalidNumber : PySem.W.exmOne K (.ref a.a_InvalidNumber) (.ref a.a_TakenError) = some true
  y_InvalidNumber_InvalidStands : PySem.W.kitOne K (.ref a.a_InvalidNumber) (.ref a.a_InvalidStands) = some false
  y_InvalidNumber_InvalidWord : PySem.W.kitOne K (.ref a.a_InvalidNumber) (.ref a.a_InvalidWord) = some false
  y_InvalidNumber_InvalidNumber : PySem.W.kitOne K (.ref a.a_InvalidNumber) (.ref a.a_InvalidNumber) = some true
  y_InvalidNumber_InvalidBook : PySem.W.kitOne K (.ref a.a_InvalidNumber) (.ref a.a_InvalidBook) = some false
  y_InvalidNumber_InvalidWeights : PySem.W.kitOne K (.ref a.a_InvalidNumber) (.ref a.a_InvalidWeights) = some false
  y_InvalidNumber_InvalidIndex : PySem.W.kitOne K (.ref a.a_InvalidNumber) (.ref a.a_InvalidIndex) = some false
  y_InvalidNumber_InvalidPrices : PySem.W.kitOne K (.ref a.a_InvalidNumber) (.ref a.a_InvalidPrices) = some false
  y_InvalidNumber_InvalidCell : PySem.W.kitOne K (.ref a.a_InvalidNumber) (.ref a.a_InvalidCell) = some false
  y_InvalidNumber_InvalidText : PySem.W.kitOne K (.ref a.a_InvalidNumber) (.ref a.a_InvalidText) = some false
  y_InvalidNumber_Unlike : PySem.W.kitOne K (.ref a.a_InvalidNumber) (.ref a.a_Unlike) = some false
  y_InvalidNumber_Empty : PySem.W.kitOne K (.ref a.a_InvalidNumber) (.ref a.a_Empty) = some false
  y_InvalidNumber_NothingToUndo : PySem.W.kitOne K (.ref a.a_InvalidNumber) (.ref a.a_NothingToUndo) = some false
  y_InvalidNumber_TooMany : PySem.W.kitOne K (.ref a.a_InvalidNumber) (.ref a.a_TooMany) = some false
  y_InvalidNumber_ValueError : PySem.W.kitOne K (.ref a.a_InvalidNumber) (.type "ValueError") = some true
  e_InvalidBook : ExcC K a.a_InvalidBook
  q_InvalidBook : PySem.W.exmOne K (.ref a.a_InvalidBook) (.ref a.a_TakenError) = some true
  y_InvalidBook_InvalidStands : PySem.W.kitOne K (.ref a.a_InvalidBook) (.ref a.a_InvalidStands) = some false
  y_InvalidBook_InvalidWord : PySem.W.kitOne K (.ref a.a_InvalidBook) (.ref a.a_InvalidWord) = some false
  y_InvalidBook_InvalidNumber : PySem.W.kitOne K (.ref a.a_InvalidBook) (.ref a.a_InvalidNumber) = some false
  y_InvalidBook_InvalidBook : PySem.W.kitOne K (.ref a.a_InvalidBook) (.ref a.a_InvalidBook) = some true
  y_InvalidBook_InvalidWeights : PySem.W.kitOne K (.ref a.a_InvalidBook) (.ref a.a_InvalidWeights) = some false
  y_InvalidBook_InvalidIndex : PySem.W.kitOne K (.ref a.a_InvalidBook) (.ref a.a_InvalidIndex) = some false
  y_InvalidBook_InvalidPrices : PySem.W.kitOne K (.ref a.a_InvalidBook) (.ref a.a_InvalidPrices) = some false
  y_InvalidBook_InvalidCell : PySem.W.kitOne K (.ref a.a_InvalidBook) (.ref a.a_InvalidCell) = some false
  y_InvalidBook_InvalidText : PySem.W.kitOne K (.ref a.a_InvalidBook) (.ref a.a_InvalidText) = some false
  y_InvalidBook_Unlike : PySem.W.kitOne K (.ref a.a_InvalidBook) (.ref a.a_Unlike) = some false
  y_InvalidBook_Empty : PySem.W.kitOne K (.ref a.a_InvalidBook) (.ref a.a_Empty) = some false
  y_InvalidBook_NothingToUndo : PySem.W.kitOne K (.ref a.a_InvalidBook) (.ref a.a_NothingToUndo) = some false
  y_InvalidBook_TooMany : PySem.W.kitOne K (.ref a.a_InvalidBook) (.ref a.a_TooMany) = some false
  y_InvalidBook_ValueError : PySem.W.kitOne K (.ref a.a_InvalidBook) (.type "ValueError") = some true
section
variable {P : Program} {w : World} {K : PySem.W.Frag} {mg : Str → Option Value} {base : Heap} {a : Ads}
theorem ok_names_InvalidNumber {fd : FuncData} {k : Nat} (t : Top K mg base a) (F : Fun K "_law_names" "_law_names" s__law_names a.a__law_names fd) : FnZ P w K mg base (L2N.CX P w) (k + 1) a.a__law_names fd ["e"] (upSpZ (tp K a) (Zi (tp K a) 3) (spN 3)) := by
  refine okZ (tp K a) _ (spN 3) F c__law_names (fun _ => rfl) fun cdv A outer s H E p hz hot hr => ⟨u__law_names 3 p, ?_, fun ds S Q R qm rm h => d__law_names (by decide) h⟩
  have nd : (["e", "some", "labels", "label", "good"] : List Str).Nodup := c__law_names.nd
  have hp : p ∈ (cxH (L2N.CX P w) P w K mg base ["e", "some", "labels", "label", "good"] "_law_names" (defScope s__law_names) a.a__law_names cdv A outer s H E p).pn := List.mem_cons_self
  exact jss_cons (js_set 1 nd (je_lst (ja_cons (je_isE (b := 3 == 1) hp t.e_InvalidNumber hz.1 hz.2 t.y_InvalidNumber_InvalidStands (pe_glob (v := .ref a.a_InvalidStands) rfl t.m_InvalidStands rfl) (fun _ r => r) t.z_isinstance (je_var 0)) (ja_cons (je_isE (b := 3 == 2) hp t.e_InvalidNumber hz.1 hz.2 t.y_InvalidNumber_InvalidWord (pe_glob (v := .ref a.a_InvalidWord) rfl t.m_InvalidWord rfl) (fun _ r => r) t.z_isinstance (je_var 0)) (ja_cons (je_isE (b := 3 == 3) hp t.e_InvalidNumber hz.1 hz.2 t.y_InvalidNumber_InvalidNumber (pe_glob (v := .ref a.a_InvalidNumber) rfl t.m_InvalidNumber rfl) (fun _ r => r) t.z_isinstance (je_var 0)) (ja_nil)))))) (jss_cons (js_set 1 nd (je_bin (od_add (sck rfl)) (je_var 1) (je_lst (ja_cons (je_isE (b := 3 == 4) hp t.e_InvalidNumber hz.1 hz.2 t.y_InvalidNumber_InvalidBook (pe_glob (v := .ref a.a_InvalidBook) rfl t.m_InvalidBook rfl) (fun _ r => r) t.z_isinstance (je_var 0)) (ja_cons (je_isE (b := 3 == 5) hp t.e_InvalidNumber hz.1 hz.2 t.y_InvalidNumber_InvalidWeights (pe_glob (v := .ref a.a_InvalidWeights) rfl t.m_InvalidWeights rfl) (fun _ r => r) t.z_isinstance (je_var 0)) (ja_cons (je_isE (b := 3 == 6) hp t.e_InvalidNumber hz.1 hz.2 t.y_InvalidNumber_InvalidIndex (pe_glob (v := .ref a.a_InvalidIndex) rfl t.m_InvalidIndex rfl) (fun _ r => r) t.z_isinstance (je_var 0)) (ja_nil))))))) (jss_cons (js_set 1 nd (je_bin (od_add (sck rfl)) (je_var 1) (je_lst (ja_cons (je_isE (b := 3 == 7) hp t.e_InvalidNumber hz.1 hz.2 t.y_InvalidNumber_InvalidPrices (pe_glob (v := .ref a.a_InvalidPrices) rfl t.m_InvalidPrices rfl) (fun _ r => r) t.z_isinstance (je_var 0)) (ja_cons (je_isE (b := 3 == 8) hp t.e_InvalidNumber hz.1 hz.2 t.y_InvalidNumber_InvalidCell (pe_glob (v := .ref a.a_InvalidCell) rfl t.m_InvalidCell rfl) (fun _ r => r) t.z_isinstance (je_var 0)) (ja_cons (je_isE (b := 3 == 9) hp t.e_InvalidNumber hz.1 hz.2 t.y_InvalidNumber_InvalidText (pe_glob (v := .ref a.a_InvalidText) rfl t.m_InvalidText rfl) (fun _ r => r) t.z_isinstance (je_var 0)) (ja_nil))))))) (jss_cons (js_set 1 nd (je_bin (od_add (sck rfl)) (je_var 1) (je_lst (ja_cons (je_isE (b := 3 == 11) hp t.e_InvalidNumber hz.1 hz.2 t.y_InvalidNumber_Empty (pe_glob (v := .ref a.a_Empty) rfl t.m_Empty rfl) (fun _ r => r) t.z_isinstance (je_var 0)) (ja_cons (je_isE (b := 3 == 10) hp t.e_InvalidNumber hz.1 hz.2 t.y_InvalidNumber_Unlike (pe_glob (v := .ref a.a_Unlike) rfl t.m_Unlike rfl) (fun _ r => r) t.z_isinstance (je_var 0)) (ja_cons (je_isE (b := 3 == 12) hp t.e_InvalidNumber hz.1 hz.2 t.y_InvalidNumber_NothingToUndo (pe_glob (v := .ref a.a_NothingToUndo) rfl t.m_NothingToUndo rfl) (fun _ r => r) t.z_isinstance (je_var 0)) (ja_nil))))))) (jss_cons (js_set 1 nd (je_bin (od_add (sck rfl)) (je_var 1) (je_lst (ja_cons (je_isE (b := 3 == 13) hp t.e_InvalidNumber hz.1 hz.2 t.y_InvalidNumber_TooMany (pe_glob (v := .ref a.a_TooMany) rfl t.m_TooMany rfl) (fun _ r => r) t.z_isinstance (je_var 0)) (ja_cons (je_isE (b := true) hp t.e_InvalidNumber hz.1 hz.2 t.y_InvalidNumber_ValueError (pe_bltn (v := .ty "ValueError") (u := .type "ValueError") rfl t.z_ValueError bb_VE rfl) (fun _ r => r) t.z_isinstance (je_var 0)) (ja_nil)))))) (jss_cons (js_set 2 nd (je_str [115, 116, 97, 110, 100, 115, 32, 119, 111, 114, 100, 32, 110, 117, 109, 98, 101, 114, 32, 98, 111, 111, 107, 32, 119, 101, 105, 103, 104, 116, 115, 32, 105, 110, 100, 101, 120, 32, 112, 114, 105, 99, 101, 115, 32, 99, 101, 108, 108, 32, 116, 101, 120, 116, 32, 101, 109, 112, 116, 121, 32, 117, 110, 108, 105, 107, 101, 32, 117, 110, 100, 111, 32, 109, 97, 110, 121, 32, 118, 97, 108, 117, 101])) (jss_one (js_ret (je_ms PySem.F.slot_str_join PySem.F.type_str_join om_join (je_str [32]) (ja_cons (je_lcX [("label", 3), ("good", 4)] hp hot nd (blkOk_by (N := ["e", "some", "labels", "label", "good"]) (sc := defScope s__law_names) (by decide +kernel)) (ji_zipX hp t.z_zip (ja_cons (je_ms PySem.F.slot_str_split PySem.F.type_str_split om_split (je_var 2) (ja_cons (je_str [32]) (ja_nil))) (ja_cons (je_var 1) (ja_nil)))) (fun _ _ _ _ _ st => jgo_tupX (n := 2) hot.1 st (jgos_cons (jgo_name (i := 3) nd) (jgos_cons (jgo_name (i := 4) nd) (jgos_nil)))) mon_gT2 (fun _ _ _ _ _ => jts_one (jt_val (je_var 4))) (fun _ _ _ _ _ => je_var 3)) (ja_nil))))))))))
theorem ok_names_InvalidBook {fd : FuncData} {k : Nat} (t : Top K mg base a) (F : Fun K "_law_names" "_law_names" s__law_names a.a__law_names fd) : FnZ P w K mg base (L2N.CX P w) (k + 1) a.a__law_names fd ["e"] (upSpZ (tp K a) (Zi (tp K a) 4) (spN 4)) := by
  refine okZ (tp K a) _ (spN 4) F c__law_names (fun _ => rfl) fun cdv A outer s H E p hz hot hr => ⟨u__law_names 4 p, ?_, fun ds S Q R qm rm h => d__law_names (by decide) h⟩
  have nd : (["e", "some", "labels", "label", "good"] : List Str).Nodup := c__law_names.nd
  have hp : p ∈ (cxH (L2N.CX P w) P w K mg base ["e", "some", "labels", "label", "good"] "_law_names" (defScope s__law_names) a.a__law_names cdv A outer s H E p).pn := List.mem_cons_self
  exact jss_cons (js_set 1 nd (je_lst (ja_cons (je_isE (b := 4 == 1) hp t.e_InvalidBook hz.1 hz.2 t.y_InvalidBook_InvalidStands (pe_glob (v := .ref a.a_InvalidStands) rfl t.m_InvalidStands rfl) (fun _ r => r) t.z_isinstance (je_var 0)) (ja_cons (je_isE (b := 4 == 2) hp t.e_InvalidBook hz.1 hz.2 t.y_InvalidBook_InvalidWord (pe_glob (v := .ref a.a_InvalidWord) rfl t.m_InvalidWord rfl) (fun _ r => r) t.z_isinstance (je_var 0)) (ja_cons (je_isE (b := 4 == 3) hp t.e_InvalidBook hz.1 hz.2 t.y_InvalidBook_InvalidNumber (pe_glob (v := .ref a.a_InvalidNumber) rfl t.m_InvalidNumber rfl) (fun _ r => r) t.z_isinstance (je_var 0)) (ja_nil)))))) (jss_cons (js_set 1 nd (je_bin (od_add (sck rfl)) (je_var 1) (je_lst (ja_cons (je_isE (b := 4 == 4) hp t.e_InvalidBook hz.1 hz.2 t.y_InvalidBook_InvalidBook (pe_glob (v := .ref a.a_InvalidBook) rfl t.m_InvalidBook rfl) (fun _ r => r) t.z_isinstance (je_var 0)) (ja_cons (je_isE (b := 4 == 5) hp t.e_InvalidBook hz.1 hz.2 t.y_InvalidBook_InvalidWeights (pe_glob (v := .ref a.a_InvalidWeights) rfl t.m_InvalidWeights rfl) (fun _ r => r) t.z_isinstance (je_var 0)) (ja_cons (je_isE (b := 4 == 6) hp t.e_InvalidBook hz.1 hz.2 t.y_InvalidBook_InvalidIndex (pe_glob (v := .ref a.a_InvalidIndex) rfl t.m_InvalidIndex rfl) (fun _ r => r) t.z_isinstance (je_var 0)) (ja_nil))))))) (jss_cons (js_set 1 nd (je_bin (od_add (sck rfl)) (je_var 1) (je_lst (ja_cons (je_isE (b := 4 == 7) hp t.e_InvalidBook hz.1 hz.2 t.y_InvalidBook_InvalidPrices (pe_glob (v := .ref a.a_InvalidPrices) rfl t.m_InvalidPrices rfl) (fun _ r => r) t.z_isinstance (je_var 0)) (ja_cons (je_isE (b := 4 == 8) hp t.e_InvalidBook hz.1 hz.2 t.y_InvalidBook_InvalidCell (pe_glob (v := .ref a.a_InvalidCell) rfl t.m_InvalidCell rfl) (fun _ r => r) t.z_isinstance (je_var 0)) (ja_cons (je_isE (b := 4 == 9) hp t.e_InvalidBook hz.1 hz.2 t.y_InvalidBook_InvalidText (pe_glob (v := .ref a.a_InvalidText) rfl t.m_InvalidText rfl) (fun _ r => r) t.z_isinstance (je_var 0)) (ja_nil))))))) (jss_cons (js_set 1 nd (je_bin (od_add (sck rfl)) (je_var 1) (je_lst (ja_cons (je_isE (b := 4 == 11) hp t.e_InvalidBook hz.1 hz.2 t.y_InvalidBook_Empty (pe_glob (v := .ref a.a_Empty) rfl t.m_Empty rfl) (fun _ r => r) t.z_isinstance (je_var 0)) (ja_cons (je_isE (b := 4 == 10) hp t.e_InvalidBook hz.1 hz.2 t.y_InvalidBook_Unlike (pe_glob (v := .ref a.a_Unlike) rfl t.m_Unlike rfl) (fun _ r => r) t.z_isinstance (je_var 0)) (ja_cons (je_isE (b := 4 == 12) hp t.e_InvalidBook hz.1 hz.2 t.y_InvalidBook_NothingToUndo (pe_glob (v := .ref a.a_NothingToUndo) rfl t.m_NothingToUndo rfl) (fun _ r => r) t.z_isinstance (je_var 0)) (ja_nil))))))) (jss_cons (js_set 1 nd (je_bin (od_add (sck rfl)) (je_var 1) (je_lst (ja_cons (je_isE (b := 4 == 13) hp t.e_InvalidBook hz.1 hz.2 t.y_InvalidBook_TooMany (pe_glob (v := .ref a.a_TooMany) rfl t.m_TooMany rfl) (fun _ r => r) t.z_isinstance (je_var 0)) (ja_cons (je_isE (b := true) hp t.e_InvalidBook hz.1 hz.2 t.y_InvalidBook_ValueError (pe_bltn (v := .ty "ValueError") (u := .type "ValueError") rfl t.z_ValueError bb_VE rfl) (fun _ r => r) t.z_isinstance (je_var 0)) (ja_nil)))))) (jss_cons (js_set 2 nd (je_str [115, 116, 97, 110, 100, 115, 32, 119, 111, 114, 100, 32, 110, 117, 109, 98, 101, 114, 32, 98, 111, 111, 107, 32, 119, 101, 105, 103, 104, 116, 115, 32, 105, 110, 100, 101, 120, 32, 112, 114, 105, 99, 101, 115, 32, 99, 101, 108, 108, 32, 116, 101, 120, 116, 32, 101, 109, 112, 116, 121, 32, 117, 110, 108, 105, 107, 101, 32, 117, 110, 100, 111, 32, 109, 97, 110, 121, 32, 118, 97, 108, 117, 101])) (jss_one (js_ret (je_ms PySem.F.slot_str_join PySem.F.type_str_join om_join (je_str [32]) (ja_cons (je_lcX [("label", 3), ("good", 4)] hp hot nd (blkOk_by (N := ["e", "some", "labels", "label", "good"]) (sc := defScope s__law_names) (by decide +kernel)) (ji_zipX hp t.z_zip (ja_cons (je_ms PySem.F.slot_str_split PySem.F.type_str_split om_split (je_var 2) (ja_cons (je_str [32]) (ja_nil))) (ja_cons (je_var 1) (ja_nil)))) (fun _ _ _ _ _ st => jgo_tupX (n := 2) hot.1 st (jgos_cons (jgo_name (i := 3) nd) (jgos_cons (jgo_name (i := 4) nd) (jgos_nil)))) mon_gT2 (fun _ _ _ _ _ => jts_one (jt_val (je_var 4))) (fun _ _ _ _ _ => je_var 3)) (ja_nil))))))))))
theorem ok_names {fd : FuncData} {k : Nat} (t : Top K mg base a) (F : Fun K "_law_names" "_law_names" s__law_names a.a__law_names fd) : FnZ P w K mg base (L2N.CX P w) (k + 1) a.a__law_names fd ["e"] (splN (tp K a) ids) := by
  refine fnz_any (ok := fun i => i ∈ ids) fun i hi => ?_
  simp only [ids, List.mem_cons, List.not_mem_nil, or_false] at hi
  rcases hi with rfl | rfl
  · exact ok_names_InvalidNumber t F
  · exact ok_names_InvalidBook t F
theorem hcl (t : Top K mg base a) : ∀ i, i ∈ ids → PySem.W.exmOne K ((tp K a).cl i) (.ref a.a_TakenError) = some true := fun i hi => by
  simp only [ids, List.mem_cons, List.not_mem_nil, or_false] at hi
  rcases hi with rfl | rfl
  · exact t.q_InvalidNumber
  · exact t.q_InvalidBook
theorem give_E {X : Cx} {cdg : Value} {q : Str} {k : Nat} (t : Top X.K X.mg X.base a) : GivesN X ["call", "e"] "_law_error" (defScope s__law_error) a.a__law_error cdg (defBody s__law_error) "call" q (k + 1) (TErr X.K a.a_TakenError (splN (tp X.K a) ids)) := by
  obtain ⟨_, m_n, F_n, b_n⟩ := t.f__law_names
  exact error_gives (Ng := ["call", "e"]) (n := "e") (i := 1) (e := "TakenError") (ln := "_law_names") (ok_names t F_n) m_n F_n.kp b_n rfl rfl rfl t.m_TakenError rfl c__law_error.nd rfl rfl rfl rfl (fun _ => rfl) (by decide)
theorem ok_is_whole {fd : FuncData} (t : Top K mg base a) (F : Fun K "is_whole" "is_whole" s_is_whole a.a_is_whole fd) : FnOk P w K mg base (L2N.CX P w) 1 a.a_is_whole fd ["value", "low", "high"] (upSp (tp K a) sp_is_whole) := by
  refine okD (tp K a) sp_is_whole F c_is_whole rfl fun cdv A outer s H E hr => ⟨u_is_whole, ?_, fun ds S Q R qm rm h => d_is_whole h⟩
  have nd : (["value", "low", "high"] : List Str).Nodup := c_is_whole.nd
  exact jss_one (js_ret (je_and (je_isi .int t.z_isinstance t.z_int (je_var 0)) (je_and (je_not (je_isi .bl t.z_isinstance t.z_bool (je_var 0))) (je_one (je_chain od_le od_le (je_var 1) (je_var 0) (je_var 2))))))
theorem ok_fits_word {fd : FuncData} (t : Top K mg base a) (F : Fun K "fits_word" "fits_word" s_fits_word a.a_fits_word fd) : FnOk P w K mg base (L2N.CX P w) 1 a.a_fits_word fd ["stands", "value"] (upSp (tp K a) sp_fits_word) := by
  refine okD (tp K a) sp_fits_word F c_fits_word rfl fun cdv A outer s H E hr => ⟨u_fits_word, ?_, fun ds S Q R qm rm h => d_fits_word h⟩
  have nd : (["stands", "value", "figure"] : List Str).Nodup := c_fits_word.nd
  obtain ⟨_, _, k_FIGURES, y_FIGURES⟩ := t.k_FIGURES
  obtain ⟨_, k_LONGEST⟩ := t.k_LONGEST
  exact jss_cons (js_if (jt_w (jw_or (jt_not (jt_val (je_isi .str t.z_isinstance t.z_str (je_var 1)))) (jw_or1 (jt_not (jt_chain od_le od_le (je_int) (je_callB oc_len t.z_len bb_len (ja_cons (je_var 1) (ja_nil))) (je_gint k_LONGEST)))))) (jss_one (js_ret (je_bl))) (jss_nil)) (jss_one (js_ret (je_callB (oc_all rfl) t.z_all bb_all (ja_cons (je_lc [("figure", 2)] rfl nd (blkOk_by (N := ["stands", "value", "figure"]) (sc := defScope s_fits_word) (by decide +kernel)) (ji_any (je_var 1)) (fun _ _ _ _ _ => jgo_name (i := 2) nd) (fun _ _ _ _ _ => jts_nil) (fun _ _ _ _ _ => je_cmp od_in (je_var 2) (je_sl (je_gstr [48, 49, 50, 51] k_FIGURES y_FIGURES) (jo_none) (jo_some (je_var 0))))) (ja_nil)))))
theorem ok_weight_of {fd : FuncData} (t : Top K mg base a) (F : Fun K "weight_of" "weight_of" s_weight_of a.a_weight_of fd) : FnOk P w K mg base (L2N.CX P w) 1 a.a_weight_of fd ["word"] (upSp (tp K a) sp_weight_of) := by
  refine okD (tp K a) sp_weight_of F c_weight_of rfl fun cdv A outer s H E hr => ⟨u_weight_of, ?_, fun ds S Q R qm rm h => d_weight_of h⟩
  have nd : (["word", "figure"] : List Str).Nodup := c_weight_of.nd
  exact jss_one (js_ret (je_callB (oc_sum rfl) t.z_sum bb_sum (ja_cons (je_lc [("figure", 1)] rfl nd (blkOk_by (N := ["word", "figure"]) (sc := defScope s_weight_of) (by decide +kernel)) (ji_any (je_var 0)) (fun _ _ _ _ _ => jgo_name (i := 1) nd) (fun _ _ _ _ _ => jts_nil) (fun _ _ _ _ _ => je_callTy oc_int t.z_int bb_int (ja_cons (je_var 1) (ja_nil)))) (ja_nil))))
theorem ok_is_within {fd : FuncData} (t : Top K mg base a) (F : Fun K "is_within" "is_within" s_is_within a.a_is_within fd) : FnOk P w K mg base (L2N.CX P w) 1 a.a_is_within fd ["one", "other"] (upSp (tp K a) sp_is_within) := by
  refine okD (tp K a) sp_is_within F c_is_within rfl fun cdv A outer s H E hr => ⟨u_is_within, ?_, fun ds S Q R qm rm h => d_is_within h⟩
  have nd : (["one", "other", "mine", "yours"] : List Str).Nodup := c_is_within.nd
  exact jss_one (js_ret (je_callB (oc_all rfl) t.z_all bb_all (ja_cons (je_lc [("mine", 2), ("yours", 3)] rfl nd (blkOk_by (N := ["one", "other", "mine", "yours"]) (sc := defScope s_is_within) (by decide +kernel)) (ji_zip t.z_zip (ja_cons (je_var 0) (ja_cons (je_var 1) (ja_nil)))) (fun _ _ _ _ _ => jgo_tup (n := 2) rfl (jgos_cons (jgo_name (i := 2) nd) (jgos_cons (jgo_name (i := 3) nd) (jgos_nil)))) (fun _ _ _ _ _ => jts_nil) (fun _ _ _ _ _ => je_cmp od_le (je_var 2) (je_var 3))) (ja_nil))))
theorem ok_least_of {fd : FuncData} (t : Top K mg base a) (F : Fun K "least_of" "least_of" s_least_of a.a_least_of fd) : FnOk P w K mg base (L2N.CX P w) 1 a.a_least_of fd ["one", "other"] (upSp (tp K a) sp_least_of) := by
  refine okD (tp K a) sp_least_of F c_least_of rfl fun cdv A outer s H E hr => ⟨u_least_of, ?_, fun ds S Q R qm rm h => d_least_of h⟩
  have nd : (["one", "other", "mine", "yours"] : List Str).Nodup := c_least_of.nd
  exact jss_one (js_ret (je_ms PySem.F.slot_str_join PySem.F.type_str_join om_join (je_str []) (ja_cons (je_lc [("mine", 2), ("yours", 3)] rfl nd (blkOk_by (N := ["one", "other", "mine", "yours"]) (sc := defScope s_least_of) (by decide +kernel)) (ji_zip t.z_zip (ja_cons (je_var 0) (ja_cons (je_var 1) (ja_nil)))) (fun _ _ _ _ _ => jgo_tup (n := 2) rfl (jgos_cons (jgo_name (i := 2) nd) (jgos_cons (jgo_name (i := 3) nd) (jgos_nil)))) (fun _ _ _ _ _ => jts_nil) (fun _ _ _ _ _ => je_callB (oc_min rfl) t.z_min bb_min (ja_cons (je_var 2) (ja_cons (je_var 3) (ja_nil))))) (ja_nil))))
theorem ok_fits_steps {fd : FuncData} (t : Top K mg base a) (F : Fun K "fits_steps" "fits_steps" s_fits_steps a.a_fits_steps fd) : FnOk P w K mg base (L2N.CX P w) 1 a.a_fits_steps fd ["steps", "most"] (upSp (tp K a) sp_fits_steps) := by
  refine okD (tp K a) sp_fits_steps F c_fits_steps rfl fun cdv A outer s H E hr => ⟨u_fits_steps, ?_, fun ds S Q R qm rm h => d_fits_steps h⟩
  have nd : (["steps", "most"] : List Str).Nodup := c_fits_steps.nd
  exact jss_one (js_ret (je_and (je_cmp od_isn (je_var 0) (je_non)) (je_one (je_or (je_cmp od_is (je_var 1) (je_non)) (je_one (je_cmp od_le (je_var 0) (je_var 1)))))))
theorem ok__law_drum {fd : FuncData} (t : Top K mg base a) (F : Fun K "_law_drum" "_law_drum" s__law_drum a.a__law_drum fd) : FnOk P w K mg base (L2N.CX P w) 1 a.a__law_drum fd ["cell", "turn"] (upSp (tp K a) sp__law_drum) := by
  refine fnok_weak (w__law_drum (tp K a)) ?_
  refine okD (tp K a) sp__law_drumR F c__law_drum rfl fun cdv A outer s H E hr => ⟨u__law_drum, ?_, fun ds S Q R qm rm h => d__law_drum h⟩
  have nd : (["cell", "turn", "great"] : List Str).Nodup := c__law_drum.nd
  exact jss_cons (js_set 2 nd (je_if (jt_cmp od_ge (je_var 0) (je_bin od_pow (je_int) (je_int))) (je_bin (od_add (sck rfl)) (je_bin od_div (je_var 0) (je_int)) (je_bin od_mul (je_int) (je_var 1))) (je_int))) (jss_one (js_ret (je_lstM (ja_cons (je_var 2) (ja_cons (je_bin (od_add (sck rfl)) (je_bin od_mod (je_callTy oc_int t.z_int bb_int (ja_cons (je_bin (od_add (sck rfl)) (je_bin od_mul (je_var 0) (je_int)) (je_bin od_mul (je_int) (je_var 1))) (ja_nil))) (je_int)) (je_int)) (ja_nil))))))
theorem ok__law_roll {fd : FuncData} (t : Top K mg base a) (F : Fun K "_law_roll" "_law_roll" s__law_roll a.a__law_roll fd) : FnOk P w K mg base (L2N.CX P w) 1 a.a__law_roll fd ["drum", "many"] (upSp (tp K a) sp__law_roll) := by
  refine fnok_weak (w__law_roll (tp K a)) ?_
  refine okD (tp K a) sp__law_rollR F c__law_roll rfl fun cdv A outer s H E hr => ⟨u__law_roll, ?_, fun ds S Q R qm rm h => d__law_roll h⟩
  have nd : (["drum", "many", "deep", "found"] : List Str).Nodup := c__law_roll.nd
  exact jss_cons (js_if (jt_cmp od_gt (je_ix (je_var 0) (je_int)) (je_int)) (jss_cons (js_set 3 nd (je_bin od_mod (je_callTy oc_int t.z_int bb_int (ja_cons (je_ix (je_var 0) (je_int)) (ja_nil))) (je_var 1))) (jss_cons (js_sub (je_bin od_div (je_ix (je_var 0) (je_int)) (je_var 1)) (je_var 0) (je_int)) (jss_one (js_ret (je_var 3))))) (jss_nil)) (jss_cons (js_sub (je_bin od_mod (je_callTy oc_int t.z_int bb_int (ja_cons (je_bin (od_add (sck rfl)) (je_bin od_mul (je_ix (je_var 0) (je_int)) (je_int)) (je_int)) (ja_nil))) (je_int)) (je_var 0) (je_int)) (jss_cons (js_set 2 nd (je_bin od_mod (je_callTy oc_int t.z_int bb_int (ja_cons (je_bin od_mul (je_ix (je_var 0) (je_int)) (je_bin (od_add (sck rfl)) (je_ix (je_var 0) (je_int)) (je_int))) (ja_nil))) (je_int))) (jss_one (js_ret (je_bin od_mod (je_callTy oc_int t.z_int bb_int (ja_cons (je_bin od_div (je_var 2) (je_int)) (ja_nil))) (je_var 1))))))
theorem ok__law_all {fd : FuncData} (t : Top K mg base a) (F : Fun K "_law_all" "_law_all" s__law_all a.a__law_all fd) : FnOk P w K mg base (L2N.CX P w) 1 a.a__law_all fd ["stands", "length"] (upSp (tp K a) sp__law_all) := by
  refine okD (tp K a) sp__law_all F c__law_all rfl fun cdv A outer s H E hr => ⟨u__law_all, ?_, fun ds S Q R qm rm h => d__law_all h⟩
  have nd : (["stands", "length", "found", "cell", "longer", "text", "sign"] : List Str).Nodup := c__law_all.nd
  exact jss_cons (js_set 2 nd (je_lst (ja_cons (je_str []) (ja_nil)))) (jss_cons (js_for rfl (ji_rng1 t.z_range (ja_cons (je_var 1) (ja_nil))) (jg_name (i := 3) nd) (jss_cons (js_set 4 nd (je_lst (ja_nil))) (jss_cons (js_for rfl (ji_any (je_var 2)) (jg_name (i := 5) nd) (jss_one (js_set 4 nd (je_bin (od_add (sck rfl)) (je_var 4) (je_lc [("sign", 6)] rfl nd (blkOk_by (N := ["stands", "length", "found", "cell", "longer", "text", "sign"]) (sc := defScope s__law_all) (by decide +kernel)) (ji_any (je_sl (je_str [48, 49, 50, 51]) (jo_none) (jo_some (je_var 0)))) (fun _ _ _ _ _ => jgo_name (i := 6) nd) (fun _ _ _ _ _ => jts_nil) (fun _ _ _ _ _ => je_bin (od_add (sck rfl)) (je_var 5) (je_var 6))))))) (jss_one (js_set 2 nd (je_var 4)))))) (jss_one (js_ret (je_var 2))))
theorem ok__law_is_book {fd : FuncData} (t : Top K mg base a) (F : Fun K "_law_is_book" "_law_is_book" s__law_is_book a.a__law_is_book fd) : FnOk P w K mg base (L2N.CX P w) 1 a.a__law_is_book fd ["value"] (upSp (tp K a) sp__law_is_book) := by
  refine okD (tp K a) sp__law_is_book F c__law_is_book rfl fun cdv A outer s H E hr => ⟨u__law_is_book, ?_, fun ds S Q R qm rm h => d__law_is_book h⟩
  have nd : (["value", "text", "sign"] : List Str).Nodup := c__law_is_book.nd
  exact jss_cons (js_if (jt_w (jw_or (jt_not (jt_val (je_isi .tup t.z_isinstance t.z_tuple (je_var 0)))) (jw_or (jt_cmp (od_ne hr) (je_callB oc_len t.z_len bb_len (ja_cons (je_var 0) (ja_nil))) (je_int)) (jw_or (jt_not (jt_val (je_isi .tup t.z_isinstance t.z_tuple (je_ix (je_var 0) (je_int))))) (jw_or1 (jt_cmp od_gt (je_callB oc_len t.z_len bb_len (ja_cons (je_ix (je_var 0) (je_int)) (ja_nil))) (je_int))))))) (jss_one (js_ret (je_bl))) (jss_nil)) (jss_cons (js_if (jt_w (jw_or (jt_not (jt_val (je_isi .int t.z_isinstance t.z_int (je_ix (je_var 0) (je_int))))) (jw_or (jt_val (je_isi .bl t.z_isinstance t.z_bool (je_ix (je_var 0) (je_int)))) (jw_or1 (jt_not (jt_chain od_le od_le (je_int) (je_ix (je_var 0) (je_int)) (je_int))))))) (jss_one (js_ret (je_bl))) (jss_nil)) (jss_cons (js_for rfl (ji_any (je_ix (je_var 0) (je_int))) (jg_name (i := 1) nd) (jss_cons (js_if (jt_w (jw_or (jt_not (jt_val (je_isi .str t.z_isinstance t.z_str (je_var 1)))) (jw_or (jt_not (jt_chain od_le od_le (je_int) (je_callB oc_len t.z_len bb_len (ja_cons (je_var 1) (ja_nil))) (je_int))) (jw_or1 (jt_cmp (od_ne hr) (je_callB oc_len t.z_len bb_len (ja_cons (je_var 1) (ja_nil))) (je_callB oc_len t.z_len bb_len (ja_cons (je_ix (je_ix (je_var 0) (je_int)) (je_int)) (ja_nil)))))))) (jss_one (js_ret (je_bl))) (jss_nil)) (jss_one (js_if (jt_cmp (od_ne hr) (je_lc [("sign", 2)] rfl nd (blkOk_by (N := ["value", "text", "sign"]) (sc := defScope s__law_is_book) (by decide +kernel)) (ji_any (je_var 1)) (fun _ _ _ _ _ => jgo_name (i := 2) nd) (fun _ _ _ _ _ => jts_one (jt_cmp od_ni (je_var 2) (je_callTy (oc_list rfl) t.z_list bb_list (ja_cons (je_sl (je_str [48, 49, 50, 51]) (jo_none) (jo_some (je_ix (je_var 0) (je_int)))) (ja_nil))))) (fun _ _ _ _ _ => je_var 2)) (je_lst (ja_nil))) (jss_one (js_ret (je_bl))) (jss_nil))))) (jss_one (js_ret (je_cmp (od_eq hr) (je_callTy (oc_list rfl) t.z_list bb_list (ja_cons (je_ix (je_var 0) (je_int)) (ja_nil))) (je_sset hr rfl t.z_sorted t.z_set (je_ix (je_var 0) (je_int))))))))
theorem ok_loss_of {fd : FuncData} (t : Top K mg base a) (F : Fun K "loss_of" "loss_of" s_loss_of a.a_loss_of fd) : FnOk P w K mg base (L2N.CX P w) 2 a.a_loss_of fd ["one", "other"] (upSp (tp K a) sp_loss_of) := by
  obtain ⟨_, m_is_within, F_is_within, b_is_within⟩ := t.f_is_within
  obtain ⟨_, m_weight_of, F_weight_of, b_weight_of⟩ := t.f_weight_of
  refine okD (tp K a) sp_loss_of F c_loss_of rfl fun cdv A outer s H E hr => ⟨u_loss_of, ?_, fun ds S Q R qm rm h => d_loss_of h⟩
  have nd : (["one", "other"] : List Str).Nodup := c_loss_of.nd
  exact jss_one (js_ret (je_if (jt_val (je_call (ok_is_within t F_is_within) (hr.mono (by decide)) m_is_within F_is_within.kp b_is_within (ja_cons (je_var 1) (ja_cons (je_var 0) (ja_nil))))) (je_bin od_sub (je_call (ok_weight_of t F_weight_of) (hr.mono (by decide)) m_weight_of F_weight_of.kp b_weight_of (ja_cons (je_var 0) (ja_nil))) (je_call (ok_weight_of t F_weight_of) (hr.mono (by decide)) m_weight_of F_weight_of.kp b_weight_of (ja_cons (je_var 1) (ja_nil)))) (je_non)))
theorem ok_need_number {fd : FuncData} (t : Top K mg base a) (F : Fun K "need_number" "need_number" s_need_number a.a_need_number fd) : FnOk P w K mg base (L2N.CX P w) 2 a.a_need_number fd ["value", "low", "high"] (upSp (tp K a) sp_need_number) := by
  obtain ⟨_, m_is_whole, F_is_whole, b_is_whole⟩ := t.f_is_whole
  refine okD (tp K a) sp_need_number F c_need_number rfl fun cdv A outer s H E hr => ⟨u_need_number, ?_, fun ds S Q R qm rm h => d_need_number h⟩
  have nd : (["value", "low", "high"] : List Str).Nodup := c_need_number.nd
  exact jss_one (js_if (jt_not (jt_val (je_call (ok_is_whole t F_is_whole) (hr.mono (by decide)) m_is_whole F_is_whole.kp b_is_whole (ja_cons (je_var 0) (ja_cons (je_var 1) (ja_cons (je_var 2) (ja_nil))))))) (jss_one (js_raise 3 rfl PySem.F.excBase_ValueError t.x_InvalidNumber t.m_InvalidNumber t.k_InvalidNumber (raises_own t.s_InvalidNumber t.y_InvalidNumber) rfl)) (jss_nil))
theorem ok_fits_book {fd : FuncData} (t : Top K mg base a) (F : Fun K "fits_book" "fits_book" s_fits_book a.a_fits_book fd) : FnOk P w K mg base (L2N.CX P w) 2 a.a_fits_book fd ["value"] (upSp (tp K a) sp_fits_book) := by
  obtain ⟨_, m_fits_word, F_fits_word, b_fits_word⟩ := t.f_fits_word
  obtain ⟨_, m_is_whole, F_is_whole, b_is_whole⟩ := t.f_is_whole
  refine okD (tp K a) sp_fits_book F c_fits_book rfl fun cdv A outer s H E hr => ⟨u_fits_book, ?_, fun ds S Q R qm rm h => d_fits_book h⟩
  have nd : (["value", "words", "at", "word"] : List Str).Nodup := c_fits_book.nd
  obtain ⟨_, k_CELLS⟩ := t.k_CELLS
  obtain ⟨_, k_MOST⟩ := t.k_MOST
  exact jss_cons (js_if (jt_w (jw_or (jt_not (jt_val (je_isi .tup t.z_isinstance t.z_tuple (je_var 0)))) (jw_or (jt_cmp (od_ne hr) (je_callB oc_len t.z_len bb_len (ja_cons (je_var 0) (ja_nil))) (je_int)) (jw_or1 (jt_not (jt_val (je_call (ok_is_whole t F_is_whole) (hr.mono (by decide)) m_is_whole F_is_whole.kp b_is_whole (ja_cons (je_ix (je_var 0) (je_int)) (ja_cons (je_int) (ja_cons (je_int) (ja_nil))))))))))) (jss_one (js_ret (je_bl))) (jss_nil)) (jss_cons (js_set 1 nd (je_ix (je_var 0) (je_int))) (jss_cons (js_if (jt_w (jw_or (jt_not (jt_val (je_isi .tup t.z_isinstance t.z_tuple (je_var 1)))) (jw_or (jt_cmp od_gt (je_callB oc_len t.z_len bb_len (ja_cons (je_var 1) (ja_nil))) (je_gint k_MOST)) (jw_or1 (jt_not (jt_val (je_callB (oc_all rfl) t.z_all bb_all (ja_cons (je_lc [("word", 3)] rfl nd (blkOk_by (N := ["value", "words", "at", "word"]) (sc := defScope s_fits_book) (by decide +kernel)) (ji_any (je_var 1)) (fun _ _ _ _ _ => jgo_name (i := 3) nd) (fun _ _ _ _ _ => jts_nil) (fun _ _ _ _ _ => je_call (ok_fits_word t F_fits_word) (hr.mono (by decide)) m_fits_word F_fits_word.kp b_fits_word (ja_cons (je_ix (je_var 0) (je_int)) (ja_cons (je_var 3) (ja_nil))))) (ja_nil))))))))) (jss_one (js_ret (je_bl))) (jss_nil)) (jss_cons (js_if (jt_not (jt_val (je_callB (oc_all rfl) t.z_all bb_all (ja_cons (je_lc [("word", 3)] rfl nd (blkOk_by (N := ["value", "words", "at", "word"]) (sc := defScope s_fits_book) (by decide +kernel)) (ji_any (je_var 1)) (fun _ _ _ _ _ => jgo_name (i := 3) nd) (fun _ _ _ _ _ => jts_nil) (fun _ _ _ _ _ => je_and (je_cmp (od_eq hr) (je_callB oc_len t.z_len bb_len (ja_cons (je_var 3) (ja_nil))) (je_callB oc_len t.z_len bb_len (ja_cons (je_ix (je_var 1) (je_int)) (ja_nil)))) (je_one (je_cmp od_le (je_callB oc_len t.z_len bb_len (ja_cons (je_var 3) (ja_nil))) (je_gint k_CELLS))))) (ja_nil))))) (jss_one (js_ret (je_bl))) (jss_nil)) (jss_one (js_ret (je_callB (oc_all rfl) t.z_all bb_all (ja_cons (je_lc [("at", 2)] rfl nd (blkOk_by (N := ["value", "words", "at", "word"]) (sc := defScope s_fits_book) (by decide +kernel)) (ji_rng1 t.z_range (ja_cons (je_bin od_sub (je_callB oc_len t.z_len bb_len (ja_cons (je_var 1) (ja_nil))) (je_int)) (ja_nil))) (fun _ _ _ _ _ => jgo_name (i := 2) nd) (fun _ _ _ _ _ => jts_nil) (fun _ _ _ _ _ => je_cmp od_lt (je_ix (je_var 1) (je_var 2)) (je_ix (je_var 1) (je_bin (od_add (sck rfl)) (je_var 2) (je_int))))) (ja_nil))))))))
theorem ok_far_apart {fd : FuncData} (t : Top K mg base a) (F : Fun K "far_apart" "far_apart" s_far_apart a.a_far_apart fd) : FnOk P w K mg base (L2N.CX P w) 2 a.a_far_apart fd ["one", "other"] (upSp (tp K a) sp_far_apart) := by
  obtain ⟨_, m_least_of, F_least_of, b_least_of⟩ := t.f_least_of
  obtain ⟨_, m_weight_of, F_weight_of, b_weight_of⟩ := t.f_weight_of
  refine okD (tp K a) sp_far_apart F c_far_apart rfl fun cdv A outer s H E hr => ⟨u_far_apart, ?_, fun ds S Q R qm rm h => d_far_apart h⟩
  have nd : (["one", "other", "shared"] : List Str).Nodup := c_far_apart.nd
  exact jss_cons (js_set 2 nd (je_call (ok_weight_of t F_weight_of) (hr.mono (by decide)) m_weight_of F_weight_of.kp b_weight_of (ja_cons (je_call (ok_least_of t F_least_of) (hr.mono (by decide)) m_least_of F_least_of.kp b_least_of (ja_cons (je_var 0) (ja_cons (je_var 1) (ja_nil)))) (ja_nil)))) (jss_one (js_ret (je_bin od_sub (je_callB (oc_max rfl) t.z_max bb_max (ja_cons (je_call (ok_weight_of t F_weight_of) (hr.mono (by decide)) m_weight_of F_weight_of.kp b_weight_of (ja_cons (je_var 0) (ja_nil))) (ja_cons (je_call (ok_weight_of t F_weight_of) (hr.mono (by decide)) m_weight_of F_weight_of.kp b_weight_of (ja_cons (je_var 1) (ja_nil))) (ja_nil)))) (je_var 2))))
theorem ok__law_some {fd : FuncData} (t : Top K mg base a) (F : Fun K "_law_some" "_law_some" s__law_some a.a__law_some fd) : FnOk P w K mg base (L2N.CX P w) 2 a.a__law_some fd ["drum", "things"] (upSp (tp K a) sp__law_some) := by
  obtain ⟨_, m__law_roll, F__law_roll, b__law_roll⟩ := t.f__law_roll
  refine okD (tp K a) sp__law_some F c__law_some rfl fun cdv A outer s H E hr => ⟨u__law_some, ?_, fun ds S Q R qm rm h => d__law_some h⟩
  have nd : (["drum", "things"] : List Str).Nodup := c__law_some.nd
  exact jss_one (js_ret (je_ix (je_var 1) (je_call (ok__law_roll t F__law_roll) (hr.mono (by decide)) m__law_roll F__law_roll.kp b__law_roll (ja_cons (je_var 0) (ja_cons (je_callB oc_len t.z_len bb_len (ja_cons (je_var 1) (ja_nil))) (ja_nil))))))
theorem ok__law_word {fd : FuncData} (t : Top K mg base a) (F : Fun K "_law_word" "_law_word" s__law_word a.a__law_word fd) : FnOk P w K mg base (L2N.CX P w) 2 a.a__law_word fd ["drum", "stands", "length"] (upSp (tp K a) sp__law_word) := by
  obtain ⟨_, m__law_roll, F__law_roll, b__law_roll⟩ := t.f__law_roll
  refine okD (tp K a) sp__law_word F c__law_word rfl fun cdv A outer s H E hr => ⟨u__law_word, ?_, fun ds S Q R qm rm h => d__law_word h⟩
  have nd : (["drum", "stands", "length", "cell"] : List Str).Nodup := c__law_word.nd
  exact jss_one (js_ret (je_ms PySem.F.slot_str_join PySem.F.type_str_join om_join (je_str []) (ja_cons (je_lc [("cell", 3)] rfl nd (blkOk_by (N := ["drum", "stands", "length", "cell"]) (sc := defScope s__law_word) (by decide +kernel)) (ji_rng1 t.z_range (ja_cons (je_var 2) (ja_nil))) (fun _ _ _ _ _ => jgo_name (i := 3) nd) (fun _ _ _ _ _ => jts_nil) (fun _ _ _ _ _ => je_ix (je_str [48, 49, 50, 51]) (je_call (ok__law_roll t F__law_roll) (hr.mono (by decide)) m__law_roll F__law_roll.kp b__law_roll (ja_cons (je_var 0) (ja_cons (je_var 1) (ja_nil)))))) (ja_nil))))
theorem ok__law_near {fd : FuncData} (t : Top K mg base a) (F : Fun K "_law_near" "_law_near" s__law_near a.a__law_near fd) : FnOk P w K mg base (L2N.CX P w) 2 a.a__law_near fd ["drum", "stands", "text"] (upSp (tp K a) sp__law_near) := by
  obtain ⟨_, m__law_roll, F__law_roll, b__law_roll⟩ := t.f__law_roll
  refine okD (tp K a) sp__law_near F c__law_near rfl fun cdv A outer s H E hr => ⟨u__law_near, ?_, fun ds S Q R qm rm h => d__law_near h⟩
  have nd : (["drum", "stands", "text", "turn", "at"] : List Str).Nodup := c__law_near.nd
  exact jss_cons (js_for rfl (ji_rng1 t.z_range (ja_cons (je_bin (od_add (sck rfl)) (je_int) (je_call (ok__law_roll t F__law_roll) (hr.mono (by decide)) m__law_roll F__law_roll.kp b__law_roll (ja_cons (je_var 0) (ja_cons (je_int) (ja_nil))))) (ja_nil))) (jg_name (i := 3) nd) (jss_cons (js_set 4 nd (je_call (ok__law_roll t F__law_roll) (hr.mono (by decide)) m__law_roll F__law_roll.kp b__law_roll (ja_cons (je_var 0) (ja_cons (je_callB oc_len t.z_len bb_len (ja_cons (je_var 2) (ja_nil))) (ja_nil))))) (jss_one (js_set 2 nd (je_bin (od_add (sck rfl)) (je_bin (od_add (sck rfl)) (je_sl (je_var 2) (jo_none) (jo_some (je_var 4))) (je_ix (je_str [48, 49, 50, 51]) (je_call (ok__law_roll t F__law_roll) (hr.mono (by decide)) m__law_roll F__law_roll.kp b__law_roll (ja_cons (je_var 0) (ja_cons (je_var 1) (ja_nil)))))) (je_sl (je_var 2) (jo_some (je_bin (od_add (sck rfl)) (je_var 4) (je_int))) (jo_none))))))) (jss_one (js_ret (je_var 2)))
theorem okr__law_odd (t : Top K mg base a) : ∀ (d : Nat) {fd : FuncData} (F : Fun K "_law_odd" "_law_odd" s__law_odd a.a__law_odd fd), FnOk P w K mg base (L2N.CX P w) (2 + d) a.a__law_odd fd ["drum", "depth"] (upSp (tp K a) (sp__law_odd d))
 | 0, _, _ => fn_never
 | d + 1, fd, F => by
  obtain ⟨_, m__law_roll, F__law_roll, b__law_roll⟩ := t.f__law_roll
  obtain ⟨_, m__law_some, F__law_some, b__law_some⟩ := t.f__law_some
  obtain ⟨_, m_R, F_R, b_R⟩ := t.f__law_odd
  have ihR : FnOk P w K mg base (L2N.CX P w) (2 + d) a.a__law_odd _ ["drum", "depth"] (upSp (tp K a) (sp__law_odd d)) := okr__law_odd t d F_R
  show FnOk P w K mg base (L2N.CX P w) (2 + d + 1) a.a__law_odd fd ["drum", "depth"] (upSp (tp K a) (sp__law_odd (d + 1)))
  refine okD (tp K a) (sp__law_odd (d + 1)) F c__law_odd rfl fun cdv A outer s H E hr => ⟨u__law_odd (sp__law_odd d), ?_, fun ds S Q R qm rm h => d__law_odd h⟩
  have nd : (["drum", "depth", "some", "row", "part"] : List Str).Nodup := c__law_odd.nd
  exact jss_cons (js_set 2 nd (je_lst (ja_cons (je_non) (ja_cons (je_bl) (ja_cons (je_bl) (ja_cons (je_int) (ja_cons (je_int) (ja_cons (je_int) (ja_cons (je_int) (ja_cons (je_int) (ja_cons (je_un ou_neg (je_int)) (ja_cons (je_bin od_pow (je_int) (je_int)) (ja_cons (je_str []) (ja_cons (je_str [48]) (ja_cons (je_str [48, 49]) (ja_cons (je_str [49, 48]) (ja_cons (je_str [51]) (ja_cons (je_str [48, 49, 50]) (ja_cons (je_str [52]) (ja_cons (je_str [97]) (ja_cons (je_tup (ja_nil)) (ja_cons (je_lst (ja_nil)) (ja_nil))))))))))))))))))))))) (jss_cons (js_set 2 nd (je_bin (od_add (sck rfl)) (je_var 2) (je_lst (ja_cons (je_tup (ja_cons (je_str [48, 49]) (ja_nil))) (ja_cons (je_tup (ja_cons (je_str [48, 49]) (ja_cons (je_str [49, 48]) (ja_nil)))) (ja_cons (je_tup (ja_cons (je_int) (ja_cons (je_tup (ja_cons (je_str [48, 49]) (ja_nil))) (ja_nil)))) (ja_cons (je_tup (ja_cons (je_int) (ja_cons (je_tup (ja_nil)) (ja_nil)))) (ja_cons (je_bin od_mul (je_str [48]) (je_int)) (ja_cons (je_bin od_mul (je_str [48]) (je_int)) (ja_cons (je_bin od_mul (je_str [48]) (je_int)) (ja_nil))))))))))) (jss_cons (js_if (jt_w (jw_or (jt_cmp (od_eq hr) (je_var 1) (je_int)) (jw_or1 (jt_cmp od_lt (je_call (ok__law_roll t F__law_roll) (hr.mono (by omega)) m__law_roll F__law_roll.kp b__law_roll (ja_cons (je_var 0) (ja_cons (je_int) (ja_nil)))) (je_int))))) (jss_one (js_ret (je_call (ok__law_some t F__law_some) (hr.mono (by omega)) m__law_some F__law_some.kp b__law_some (ja_cons (je_var 0) (ja_cons (je_var 2) (ja_nil)))))) (jss_nil)) (jss_cons (js_setLc 3 [("part", 4)] rfl nd (blkOk_by (N := ["drum", "depth", "some", "row", "part"]) (sc := defScope s__law_odd) (by decide +kernel)) (ji_rng1 t.z_range (ja_cons (je_call (ok__law_roll t F__law_roll) (hr.mono (by omega)) m__law_roll F__law_roll.kp b__law_roll (ja_cons (je_var 0) (ja_cons (je_int) (ja_nil)))) (ja_nil))) (fun _ _ _ _ _ => jgo_name (i := 4) nd) (fun _ _ _ _ _ => jts_nil) (fun _ _ _ _ _ => je_call ihR (hr.mono (by omega)) m_R F_R.kp b_R (ja_cons (je_var 0) (ja_cons (je_bin od_sub (je_var 1) (je_int)) (ja_nil))))) (jss_one (js_ret (je_if (jt_cmp (od_eq hr) (je_call (ok__law_roll t F__law_roll) (hr.mono (by omega)) m__law_roll F__law_roll.kp b__law_roll (ja_cons (je_var 0) (ja_cons (je_int) (ja_nil)))) (je_int)) (je_var 3) (je_callTy oc_tup t.z_tuple bb_tuple (ja_cons (je_var 3) (ja_nil)))))))))
theorem ok__law_odd {fd : FuncData} (t : Top K mg base a) (F : Fun K "_law_odd" "_law_odd" s__law_odd a.a__law_odd fd) (d : Nat) : FnOk P w K mg base (L2N.CX P w) (2 + d) a.a__law_odd fd ["drum", "depth"] (upSp (tp K a) (sp__law_odd d)) := okr__law_odd t d F
theorem ok_need_most {fd : FuncData} (t : Top K mg base a) (F : Fun K "need_most" "need_most" s_need_most a.a_need_most fd) : FnOk P w K mg base (L2N.CX P w) 3 a.a_need_most fd ["value"] (upSp (tp K a) sp_need_most) := by
  obtain ⟨_, m_need_number, F_need_number, b_need_number⟩ := t.f_need_number
  refine okD (tp K a) sp_need_most F c_need_most rfl fun cdv A outer s H E hr => ⟨u_need_most, ?_, fun ds S Q R qm rm h => d_need_most h⟩
  have nd : (["value"] : List Str).Nodup := c_need_most.nd
  obtain ⟨_, k_FAR⟩ := t.k_FAR
  exact jss_one (js_if (jt_cmp od_isn (je_var 0) (je_non)) (jss_one (js_expr (je_call (ok_need_number t F_need_number) (hr.mono (by decide)) m_need_number F_need_number.kp b_need_number (ja_cons (je_var 0) (ja_cons (je_int) (ja_cons (je_gint k_FAR) (ja_nil))))))) (jss_nil))
theorem ok_first_bad {fd : FuncData} (t : Top K mg base a) (F : Fun K "first_bad" "first_bad" s_first_bad a.a_first_bad fd) : FnOk P w K mg base (L2N.CX P w) 3 a.a_first_bad fd ["words", "most"] (upSp (tp K a) sp_first_bad) := by
  obtain ⟨_, m_fits_steps, F_fits_steps, b_fits_steps⟩ := t.f_fits_steps
  obtain ⟨_, m_loss_of, F_loss_of, b_loss_of⟩ := t.f_loss_of
  refine okD (tp K a) sp_first_bad F c_first_bad rfl fun cdv A outer s H E hr => ⟨u_first_bad, ?_, fun ds S Q R qm rm h => d_first_bad h⟩
  have nd : (["words", "most", "one", "other"] : List Str).Nodup := c_first_bad.nd
  exact jss_cons (js_for rfl (ji_any (je_var 0)) (jg_name (i := 2) nd) (jss_one (js_for rfl (ji_any (je_var 0)) (jg_name (i := 3) nd) (jss_one (js_if (jt_w (jw_and (jt_cmp (od_ne hr) (je_var 2) (je_var 3)) (jw_and1 (jt_val (je_call (ok_fits_steps t F_fits_steps) (hr.mono (by decide)) m_fits_steps F_fits_steps.kp b_fits_steps (ja_cons (je_call (ok_loss_of t F_loss_of) (hr.mono (by decide)) m_loss_of F_loss_of.kp b_loss_of (ja_cons (je_var 2) (ja_cons (je_var 3) (ja_nil)))) (ja_cons (je_var 1) (ja_nil)))))))) (jss_one (js_ret (je_tup (ja_cons (je_var 2) (ja_cons (je_var 3) (ja_nil)))))) (jss_nil)))))) (jss_one (js_ret (je_non)))
theorem ok_need_book {fd : FuncData} (t : Top K mg base a) (F : Fun K "need_book" "need_book" s_need_book a.a_need_book fd) : FnOk P w K mg base (L2N.CX P w) 3 a.a_need_book fd ["value"] (upSp (tp K a) sp_need_book) := by
  obtain ⟨_, m_fits_book, F_fits_book, b_fits_book⟩ := t.f_fits_book
  refine okD (tp K a) sp_need_book F c_need_book rfl fun cdv A outer s H E hr => ⟨u_need_book, ?_, fun ds S Q R qm rm h => d_need_book h⟩
  have nd : (["value"] : List Str).Nodup := c_need_book.nd
  exact jss_one (js_if (jt_not (jt_val (je_call (ok_fits_book t F_fits_book) (hr.mono (by decide)) m_fits_book F_fits_book.kp b_fits_book (ja_cons (je_var 0) (ja_nil))))) (jss_one (js_raise 4 rfl PySem.F.excBase_ValueError t.x_InvalidBook t.m_InvalidBook t.k_InvalidBook (raises_own t.s_InvalidBook t.y_InvalidBook) rfl)) (jss_nil))
theorem ok_is_book {fd : FuncData} (t : Top K mg base a) (F : Fun K "is_book" "is_book" s_is_book a.a_is_book fd) : FnOk P w K mg base (L2N.CX P w) 3 a.a_is_book fd ["value"] (upSp (tp K a) sp_is_book) := by
  obtain ⟨_, m_fits_book, F_fits_book, b_fits_book⟩ := t.f_fits_book
  refine okD (tp K a) sp_is_book F c_is_book rfl fun cdv A outer s H E hr => ⟨u_is_book, ?_, fun ds S Q R qm rm h => d_is_book h⟩
  have nd : (["value"] : List Str).Nodup := c_is_book.nd
  exact jss_one (js_ret (je_call (ok_fits_book t F_fits_book) (hr.mono (by decide)) m_fits_book F_fits_book.kp b_fits_book (ja_cons (je_var 0) (ja_nil))))
theorem ok__law_book {fd : FuncData} (t : Top K mg base a) (F : Fun K "_law_book" "_law_book" s__law_book a.a__law_book fd) : FnOk P w K mg base (L2N.CX P w) 3 a.a__law_book fd ["drum", "many", "cells"] (upSp (tp K a) sp__law_book) := by
  obtain ⟨_, m__law_near, F__law_near, b__law_near⟩ := t.f__law_near
  obtain ⟨_, m__law_roll, F__law_roll, b__law_roll⟩ := t.f__law_roll
  obtain ⟨_, m__law_some, F__law_some, b__law_some⟩ := t.f__law_some
  obtain ⟨_, m__law_word, F__law_word, b__law_word⟩ := t.f__law_word
  refine okD (tp K a) sp__law_book F c__law_book rfl fun cdv A outer s H E hr => ⟨u__law_book, ?_, fun ds S Q R qm rm h => d__law_book qm rm h⟩
  have nd : (["drum", "many", "cells", "turn", "some", "stands", "length", "words"] : List Str).Nodup := c__law_book.nd
  exact jss_cons (js_if (jt_cmp (od_eq hr) (je_call (ok__law_roll t F__law_roll) (hr.mono (by decide)) m__law_roll F__law_roll.kp b__law_roll (ja_cons (je_var 0) (ja_cons (je_int) (ja_nil)))) (je_int)) (jss_cons (js_set 4 nd (je_lst (ja_cons (je_tup (ja_cons (je_int) (ja_cons (je_tup (ja_cons (je_str [48, 48, 49, 49]) (ja_cons (je_str [48, 49, 48, 49]) (ja_cons (je_str [49, 49, 48, 48]) (ja_nil))))) (ja_nil)))) (ja_cons (je_tup (ja_cons (je_int) (ja_cons (je_tup (ja_cons (je_str [48, 48, 49]) (ja_cons (je_str [48, 49, 49]) (ja_cons (je_str [49, 49, 48]) (ja_nil))))) (ja_nil)))) (ja_cons (je_tup (ja_cons (je_int) (ja_cons (je_tup (ja_cons (je_str [48, 50]) (ja_cons (je_str [49, 49]) (ja_cons (je_str [50, 50]) (ja_nil))))) (ja_nil)))) (ja_nil)))))) (jss_one (js_ret (je_call (ok__law_some t F__law_some) (hr.mono (by decide)) m__law_some F__law_some.kp b__law_some (ja_cons (je_var 0) (ja_cons (je_bin (od_add (sck rfl)) (je_var 4) (je_lst (ja_cons (je_tup (ja_cons (je_int) (ja_cons (je_tup (ja_nil)) (ja_nil)))) (ja_cons (je_tup (ja_cons (je_int) (ja_cons (je_tup (ja_cons (je_str [51]) (ja_nil))) (ja_nil)))) (ja_nil))))) (ja_nil))))))) (jss_nil)) (jss_cons (js_par3 (i := 5) (j := 6) (l := 7) rfl nd (ja_cons (je_call (ok__law_some t F__law_some) (hr.mono (by decide)) m__law_some F__law_some.kp b__law_some (ja_cons (je_var 0) (ja_cons (je_lst (ja_cons (je_int) (ja_cons (je_int) (ja_cons (je_int) (ja_cons (je_int) (ja_nil)))))) (ja_nil)))) (ja_cons (je_bin (od_add (sck rfl)) (je_int) (je_call (ok__law_roll t F__law_roll) (hr.mono (by decide)) m__law_roll F__law_roll.kp b__law_roll (ja_cons (je_var 0) (ja_cons (je_var 2) (ja_nil))))) (ja_cons (je_lstM (ja_nil)) (ja_nil))))) (jss_cons (js_for rfl (ji_rng1 t.z_range (ja_cons (je_call (ok__law_roll t F__law_roll) (hr.mono (by decide)) m__law_roll F__law_roll.kp b__law_roll (ja_cons (je_var 0) (ja_cons (je_bin (od_add (sck rfl)) (je_var 1) (je_int)) (ja_nil)))) (ja_nil))) (jg_name (i := 3) nd) (jss_one (js_if (jt_w (jw_and (jt_cmp (od_ne hr) (je_var 7) (je_lst (ja_nil))) (jw_and1 (jt_cmp (od_eq hr) (je_call (ok__law_roll t F__law_roll) (hr.mono (by decide)) m__law_roll F__law_roll.kp b__law_roll (ja_cons (je_var 0) (ja_cons (je_int) (ja_nil)))) (je_int))))) (jss_one (js_expr (je_app (je_var 7) (ja_cons (je_call (ok__law_near t F__law_near) (hr.mono (by decide)) m__law_near F__law_near.kp b__law_near (ja_cons (je_var 0) (ja_cons (je_var 5) (ja_cons (je_call (ok__law_some t F__law_some) (hr.mono (by decide)) m__law_some F__law_some.kp b__law_some (ja_cons (je_var 0) (ja_cons (je_var 7) (ja_nil)))) (ja_nil))))) (ja_nil))))) (jss_one (js_expr (je_app (je_var 7) (ja_cons (je_call (ok__law_word t F__law_word) (hr.mono (by decide)) m__law_word F__law_word.kp b__law_word (ja_cons (je_var 0) (ja_cons (je_var 5) (ja_cons (je_var 6) (ja_nil))))) (ja_nil)))))))) (jss_one (js_ret (je_tup (ja_cons (je_var 5) (ja_cons (je_callTy oc_tup t.z_tuple bb_tuple (ja_cons (je_sset hr rfl t.z_sorted t.z_set (je_var 7)) (ja_nil))) (ja_nil))))))))
theorem ok_shows {fd : FuncData} (t : Top K mg base a) (F : Fun K "shows" "shows" s_shows a.a_shows fd) : FnOk P w K mg base (L2N.CX P w) 4 a.a_shows fd ["book", "most"] (upSp (tp K a) sp_shows) := by
  obtain ⟨_, m_first_bad, F_first_bad, b_first_bad⟩ := t.f_first_bad
  obtain ⟨_, m_need_book, F_need_book, b_need_book⟩ := t.f_need_book
  obtain ⟨_, m_need_most, F_need_most, b_need_most⟩ := t.f_need_most
  refine okD (tp K a) sp_shows F c_shows rfl fun cdv A outer s H E hr => ⟨u_shows, ?_, fun ds S Q R qm rm h => d_shows h⟩
  have nd : (["book", "most"] : List Str).Nodup := c_shows.nd
  exact jss_cons (js_expr (je_call (ok_need_book t F_need_book) (hr.mono (by decide)) m_need_book F_need_book.kp b_need_book (ja_cons (je_var 0) (ja_nil)))) (jss_cons (js_expr (je_call (ok_need_most t F_need_most) (hr.mono (by decide)) m_need_most F_need_most.kp b_need_most (ja_cons (je_var 1) (ja_nil)))) (jss_one (js_ret (je_cmp od_is (je_call (ok_first_bad t F_first_bad) (hr.mono (by decide)) m_first_bad F_first_bad.kp b_first_bad (ja_cons (je_ix (je_var 0) (je_int)) (ja_cons (je_var 1) (ja_nil)))) (je_non)))))
theorem ok_bad_pair {fd : FuncData} (t : Top K mg base a) (F : Fun K "bad_pair" "bad_pair" s_bad_pair a.a_bad_pair fd) : FnOk P w K mg base (L2N.CX P w) 4 a.a_bad_pair fd ["book", "most"] (upSp (tp K a) sp_bad_pair) := by
  obtain ⟨_, m_first_bad, F_first_bad, b_first_bad⟩ := t.f_first_bad
  obtain ⟨_, m_need_book, F_need_book, b_need_book⟩ := t.f_need_book
  obtain ⟨_, m_need_most, F_need_most, b_need_most⟩ := t.f_need_most
  refine okD (tp K a) sp_bad_pair F c_bad_pair rfl fun cdv A outer s H E hr => ⟨u_bad_pair, ?_, fun ds S Q R qm rm h => d_bad_pair h⟩
  have nd : (["book", "most"] : List Str).Nodup := c_bad_pair.nd
  exact jss_cons (js_expr (je_call (ok_need_book t F_need_book) (hr.mono (by decide)) m_need_book F_need_book.kp b_need_book (ja_cons (je_var 0) (ja_nil)))) (jss_cons (js_expr (je_call (ok_need_most t F_need_most) (hr.mono (by decide)) m_need_most F_need_most.kp b_need_most (ja_cons (je_var 1) (ja_nil)))) (jss_one (js_ret (je_call (ok_first_bad t F_first_bad) (hr.mono (by decide)) m_first_bad F_first_bad.kp b_first_bad (ja_cons (je_ix (je_var 0) (je_int)) (ja_cons (je_var 1) (ja_nil)))))))
theorem ok_sure_steps {fd : FuncData} (t : Top K mg base a) (F : Fun K "sure_steps" "sure_steps" s_sure_steps a.a_sure_steps fd) : FnOk P w K mg base (L2N.CX P w) 4 a.a_sure_steps fd ["book"] (upSp (tp K a) sp_sure_steps) := by
  obtain ⟨_, m_loss_of, F_loss_of, b_loss_of⟩ := t.f_loss_of
  obtain ⟨_, m_need_book, F_need_book, b_need_book⟩ := t.f_need_book
  refine okD (tp K a) sp_sure_steps F c_sure_steps rfl fun cdv A outer s H E hr => ⟨u_sure_steps, ?_, fun ds S Q R qm rm h => d_sure_steps h⟩
  have nd : (["book", "some", "one", "other", "steps"] : List Str).Nodup := c_sure_steps.nd
  exact jss_cons (js_expr (je_call (ok_need_book t F_need_book) (hr.mono (by decide)) m_need_book F_need_book.kp b_need_book (ja_cons (je_var 0) (ja_nil)))) (jss_cons (js_setLc2 1 [("one", 2), ("other", 3)] [3] rfl nd (blkOk_by (N := ["book", "some", "one", "other", "steps"]) (sc := defScope s_sure_steps) (by decide +kernel)) (ji_any (je_ix (je_var 0) (je_int))) (fun _ _ _ _ _ => jgo_name (i := 2) nd) (fun _ _ _ _ _ => jts_nil) (fun _ _ _ _ _ => ji_any (je_ix (je_var 0) (je_int))) (fun _ _ _ _ _ => jgo_name (i := 3) nd) (fun _ _ _ _ _ => jts_one (jt_cmp (od_ne hr) (je_var 2) (je_var 3))) (fun _ _ _ _ _ => je_call (ok_loss_of t F_loss_of) (hr.mono (by decide)) m_loss_of F_loss_of.kp b_loss_of (ja_cons (je_var 2) (ja_cons (je_var 3) (ja_nil))))) (jss_cons (js_setLc 1 [("steps", 4)] rfl nd (blkOk_by (N := ["book", "some", "one", "other", "steps"]) (sc := defScope s_sure_steps) (by decide +kernel)) (ji_any (je_var 1)) (fun _ _ _ _ _ => jgo_name (i := 4) nd) (fun _ _ _ _ _ => jts_one (jt_cmp od_isn (je_var 4) (je_non))) (fun _ _ _ _ _ => je_var 4)) (jss_one (js_ret (je_if (jt_cmp (od_ne hr) (je_var 1) (je_lst (ja_nil))) (je_bin od_sub (je_callB (oc_min rfl) t.z_min bb_min (ja_cons (je_var 1) (ja_nil))) (je_int)) (je_non))))))
theorem ok_mends {fd : FuncData} (t : Top K mg base a) (F : Fun K "mends" "mends" s_mends a.a_mends fd) : FnOk P w K mg base (L2N.CX P w) 4 a.a_mends fd ["book"] (upSp (tp K a) sp_mends) := by
  obtain ⟨_, m_far_apart, F_far_apart, b_far_apart⟩ := t.f_far_apart
  obtain ⟨_, m_need_book, F_need_book, b_need_book⟩ := t.f_need_book
  refine okD (tp K a) sp_mends F c_mends rfl fun cdv A outer s H E hr => ⟨u_mends, ?_, fun ds S Q R qm rm h => d_mends h⟩
  have nd : (["book", "some", "one", "other"] : List Str).Nodup := c_mends.nd
  exact jss_cons (js_expr (je_call (ok_need_book t F_need_book) (hr.mono (by decide)) m_need_book F_need_book.kp b_need_book (ja_cons (je_var 0) (ja_nil)))) (jss_cons (js_setLc2 1 [("one", 2), ("other", 3)] [3] rfl nd (blkOk_by (N := ["book", "some", "one", "other"]) (sc := defScope s_mends) (by decide +kernel)) (ji_any (je_ix (je_var 0) (je_int))) (fun _ _ _ _ _ => jgo_name (i := 2) nd) (fun _ _ _ _ _ => jts_nil) (fun _ _ _ _ _ => ji_any (je_ix (je_var 0) (je_int))) (fun _ _ _ _ _ => jgo_name (i := 3) nd) (fun _ _ _ _ _ => jts_one (jt_cmp od_lt (je_var 2) (je_var 3))) (fun _ _ _ _ _ => je_call (ok_far_apart t F_far_apart) (hr.mono (by decide)) m_far_apart F_far_apart.kp b_far_apart (ja_cons (je_var 2) (ja_cons (je_var 3) (ja_nil))))) (jss_one (js_ret (je_if (jt_cmp (od_ne hr) (je_var 1) (je_lst (ja_nil))) (je_bin od_sub (je_callB (oc_min rfl) t.z_min bb_min (ja_cons (je_var 1) (ja_nil))) (je_int)) (je_non)))))
theorem okr__law_bent (t : Top K mg base a) : ∀ (d : Nat) {fd : FuncData} (F : Fun K "_law_bent" "_law_bent" s__law_bent a.a__law_bent fd), FnOk P w K mg base (L2N.CX P w) (6 + d) a.a__law_bent fd ["drum", "value"] (upSp (tp K a) (sp__law_bent d))
 | 0, _, _ => fn_never
 | d + 1, fd, F => by
  obtain ⟨_, m__law_odd, F__law_odd, b__law_odd⟩ := t.f__law_odd
  obtain ⟨_, m__law_roll, F__law_roll, b__law_roll⟩ := t.f__law_roll
  obtain ⟨_, m__law_some, F__law_some, b__law_some⟩ := t.f__law_some
  obtain ⟨_, m_R, F_R, b_R⟩ := t.f__law_bent
  have ihR : FnOk P w K mg base (L2N.CX P w) (6 + d) a.a__law_bent _ ["drum", "value"] (upSp (tp K a) (sp__law_bent d)) := okr__law_bent t d F_R
  show FnOk P w K mg base (L2N.CX P w) (6 + d + 1) a.a__law_bent fd ["drum", "value"] (upSp (tp K a) (sp__law_bent (d + 1)))
  refine okD (tp K a) (sp__law_bent (d + 1)) F c__law_bent rfl fun cdv A outer s H E hr => ⟨u__law_bent (sp__law_bent d), ?_, fun ds S Q R qm rm h => d__law_bent h⟩
  have nd : (["drum", "value", "near", "at", "way"] : List Str).Nodup := c__law_bent.nd
  exact jss_cons (js_if (jt_w (jw_or (jt_not (jt_val (je_isi .tup t.z_isinstance t.z_tuple (je_var 1)))) (jw_or (jt_cmp (od_eq hr) (je_var 1) (je_tup (ja_nil))) (jw_or1 (jt_cmp (od_eq hr) (je_call (ok__law_roll t F__law_roll) (hr.mono (by omega)) m__law_roll F__law_roll.kp b__law_roll (ja_cons (je_var 0) (ja_cons (je_int) (ja_nil)))) (je_int)))))) (jss_cons (js_set 2 nd (je_lst (ja_cons (je_call (ok__law_odd t F__law_odd 4) (hr.mono (by omega)) m__law_odd F__law_odd.kp b__law_odd (ja_cons (je_var 0) (ja_cons (je_int) (ja_nil)))) (ja_cons (je_call (ok__law_odd t F__law_odd 4) (hr.mono (by omega)) m__law_odd F__law_odd.kp b__law_odd (ja_cons (je_var 0) (ja_cons (je_int) (ja_nil)))) (ja_nil))))) (jss_cons (js_if (jt_val (je_isi .str t.z_isinstance t.z_str (je_var 1))) (jss_cons (js_set 2 nd (je_bin (od_addX (sck rfl)) (je_var 2) (je_lst (ja_cons (je_sl (je_var 1) (jo_none) (jo_some (je_un ou_neg (je_int)))) (ja_cons (je_bin (od_addX (sck rfl)) (je_var 1) (je_str [48])) (ja_cons (je_bin (od_addX (sck rfl)) (je_var 1) (je_str [50])) (ja_cons (je_rev (je_var 1)) (ja_cons (je_bin (od_addX (sck rfl)) (je_var 1) (je_str [32])) (ja_nil))))))))) (jss_one (js_set 2 nd (je_bin (od_addX (sck rfl)) (je_var 2) (je_lst (ja_cons (je_bin (od_addX (sck rfl)) (je_str [49]) (je_sl (je_var 1) (jo_some (je_int)) (jo_none))) (ja_cons (je_bin (od_addX (sck rfl)) (je_str [51]) (je_sl (je_var 1) (jo_some (je_int)) (jo_none))) (ja_nil)))))))) (jss_one (js_if (jt_val (je_isi .int t.z_isinstance t.z_int (je_var 1))) (jss_one (js_set 2 nd (je_bin (od_addX (sck rfl)) (je_var 2) (je_lst (ja_cons (je_bin (od_addX (sck rfl)) (je_var 1) (je_int)) (ja_cons (je_bin od_subX (je_var 1) (je_int)) (ja_cons (je_bin (od_addX (sck rfl)) (je_var 1) (je_int)) (ja_cons (je_bin od_subX (je_var 1) (je_int)) (ja_cons (je_notT (je_var 1)) (ja_cons (je_callTy oc_strX t.z_str bb_str (ja_cons (je_var 1) (ja_nil))) (ja_nil))))))))))) (jss_nil)))) (jss_one (js_ret (je_call (ok__law_some t F__law_some) (hr.mono (by omega)) m__law_some F__law_some.kp b__law_some (ja_cons (je_var 0) (ja_cons (je_var 2) (ja_nil)))))))) (jss_nil)) (jss_cons (js_par (i := 3) (j := 4) rfl nd (ja_cons (je_call (ok__law_roll t F__law_roll) (hr.mono (by omega)) m__law_roll F__law_roll.kp b__law_roll (ja_cons (je_var 0) (ja_cons (je_callB oc_len t.z_len bb_len (ja_cons (je_var 1) (ja_nil))) (ja_nil)))) (ja_cons (je_call (ok__law_roll t F__law_roll) (hr.mono (by omega)) m__law_roll F__law_roll.kp b__law_roll (ja_cons (je_var 0) (ja_cons (je_int) (ja_nil)))) (ja_nil)))) (jss_cons (js_if (jt_cmp (od_eq hr) (je_var 4) (je_int)) (jss_one (js_ret (je_bin (od_addX (sck rfl)) (je_sl (je_var 1) (jo_none) (jo_some (je_var 3))) (je_sl (je_var 1) (jo_some (je_bin (od_addX (sck rfl)) (je_var 3) (je_int))) (jo_none))))) (jss_nil)) (jss_cons (js_if (jt_cmp (od_eq hr) (je_var 4) (je_int)) (jss_one (js_ret (je_bin (od_addX (sck rfl)) (je_sl (je_var 1) (jo_none) (jo_some (je_bin (od_addX (sck rfl)) (je_var 3) (je_int)))) (je_sl (je_var 1) (jo_some (je_var 3)) (jo_none))))) (jss_nil)) (jss_cons (js_if (jt_cmp (od_eq hr) (je_var 4) (je_int)) (jss_one (js_ret (je_rev (je_var 1)))) (jss_nil)) (jss_cons (js_if (jt_cmp (od_eq hr) (je_var 4) (je_int)) (jss_one (js_ret (je_callTy (oc_list rfl) t.z_list bb_list (ja_cons (je_var 1) (ja_nil))))) (jss_nil)) (jss_one (js_ret (je_bin (od_addX (sck rfl)) (je_bin (od_addX (sck rfl)) (je_sl (je_var 1) (jo_none) (jo_some (je_var 3))) (je_tup (ja_cons (je_call ihR (hr.mono (by omega)) m_R F_R.kp b_R (ja_cons (je_var 0) (ja_cons (je_ix (je_var 1) (je_var 3)) (ja_nil)))) (ja_nil)))) (je_sl (je_var 1) (jo_some (je_bin (od_addX (sck rfl)) (je_var 3) (je_int))) (jo_none))))))))))
theorem ok__law_bent {fd : FuncData} (t : Top K mg base a) (F : Fun K "_law_bent" "_law_bent" s__law_bent a.a__law_bent fd) (d : Nat) : FnOk P w K mg base (L2N.CX P w) (6 + d) a.a__law_bent fd ["drum", "value"] (upSp (tp K a) (sp__law_bent d)) := okr__law_bent t d F
theorem ok__law_judged {fd : FuncData} (t : Top K mg base a) (F : FunL K "_law_judged" s__law_judged a.a__law_judged fd a.c__law_judged) : FnOk P w K mg base (L2N.CX P w) 7 a.a__law_judged fd ["value"] (upSp (tp K a) sp__law_judged) := by
  obtain ⟨_, m__law_is_book, F__law_is_book, b__law_is_book⟩ := t.f__law_is_book
  obtain ⟨_, m_bad_pair, F_bad_pair, b_bad_pair⟩ := t.f_bad_pair
  obtain ⟨_, m_is_book, F_is_book, b_is_book⟩ := t.f_is_book
  obtain ⟨_, m_mends, F_mends, b_mends⟩ := t.f_mends
  obtain ⟨_, m_shows, F_shows, b_shows⟩ := t.f_shows
  obtain ⟨_, m_sure_steps, F_sure_steps, b_sure_steps⟩ := t.f_sure_steps
  obtain ⟨_, m_E, ⟨⟨_, _, _, _, _, _, _, _, _, rfl, lk_E, hc_E⟩, kp_E⟩, b_E⟩ := t.f__law_error
  refine okDL (tp K a) sp__law_judged F c__law_judged rfl fun A outer s H E hr => ⟨u__law_judged, ?_, fun ds S Q R qm rm h => d__law_judged qm rm h⟩
  have nd : (["value", "good", "found"] : List Str).Nodup := c__law_judged.nd
  exact jss_cons (js_set 1 nd (je_call (ok__law_is_book t F__law_is_book) (hr.mono (by decide)) m__law_is_book F__law_is_book.kp b__law_is_book (ja_cons (je_var 0) (ja_nil)))) (jss_cons (js_if (jt_w (jw_or (jt_cmp (od_ne hr) (je_call (ok_is_book t F_is_book) (hr.mono (by decide)) m_is_book F_is_book.kp b_is_book (ja_cons (je_var 0) (ja_nil))) (je_var 1)) (jw_or1 (jt_not (jt_val (je_isi .bl t.z_isinstance t.z_bool (je_call (ok_is_book t F_is_book) (hr.mono (by decide)) m_is_book F_is_book.kp b_is_book (ja_cons (je_var 0) (ja_nil))))))))) (jss_one (js_ret (je_bl))) (jss_nil)) (jss_cons (js_set 2 nd (je_lstM (ja_cons (je_lam (k := 4) (CS := a.a_TakenError) (ids := ids) (hcl t) m_E kp_E lk_E hc_E b_E c__law_error rfl (.inl rfl) (give_E t) t.tb__law_judged rfl (.head _) t.u__law_judged (hr.mono (by decide)) (lamS_by (sc := defScope s__law_judged) (by decide +kernel)) rfl (fun _ _ _ _ _ => rfl) (fun _ _ _ _ _ _ _ hr => je_call (ok_shows t F_shows) (hr.mono (by decide)) m_shows F_shows.kp b_shows (ja_cons (je_var 0) (ja_cons (je_non) (ja_nil))))) (ja_nil)))) (jss_cons (js_expr (je_app (je_var 2) (ja_cons (je_lam (k := 4) (CS := a.a_TakenError) (ids := ids) (hcl t) m_E kp_E lk_E hc_E b_E c__law_error rfl (.inl rfl) (give_E t) t.tb__law_judged rfl (.head _) t.u__law_judged (hr.mono (by decide)) (lamS_by (sc := defScope s__law_judged) (by decide +kernel)) rfl (fun _ _ _ _ _ => rfl) (fun _ _ _ _ _ _ _ hr => je_call (ok_bad_pair t F_bad_pair) (hr.mono (by decide)) m_bad_pair F_bad_pair.kp b_bad_pair (ja_cons (je_var 0) (ja_cons (je_int) (ja_nil))))) (ja_nil)))) (jss_cons (js_expr (je_app (je_var 2) (ja_cons (je_lam (k := 4) (CS := a.a_TakenError) (ids := ids) (hcl t) m_E kp_E lk_E hc_E b_E c__law_error rfl (.inl rfl) (give_E t) t.tb__law_judged rfl (.head _) t.u__law_judged (hr.mono (by decide)) (lamS_by (sc := defScope s__law_judged) (by decide +kernel)) rfl (fun _ _ _ _ _ => rfl) (fun _ _ _ _ _ _ _ hr => je_call (ok_sure_steps t F_sure_steps) (hr.mono (by decide)) m_sure_steps F_sure_steps.kp b_sure_steps (ja_cons (je_var 0) (ja_nil)))) (ja_nil)))) (jss_cons (js_expr (je_app (je_var 2) (ja_cons (je_lam (k := 4) (CS := a.a_TakenError) (ids := ids) (hcl t) m_E kp_E lk_E hc_E b_E c__law_error rfl (.inl rfl) (give_E t) t.tb__law_judged rfl (.head _) t.u__law_judged (hr.mono (by decide)) (lamS_by (sc := defScope s__law_judged) (by decide +kernel)) rfl (fun _ _ _ _ _ => rfl) (fun _ _ _ _ _ _ _ hr => je_call (ok_mends t F_mends) (hr.mono (by decide)) m_mends F_mends.kp b_mends (ja_cons (je_var 0) (ja_nil)))) (ja_nil)))) (jss_one (js_ret (je_cmp (od_eq hr) (je_var 2) (je_bin od_mul (je_lst (ja_cons (je_if (jt_val (je_var 1)) (je_str []) (je_str [98, 111, 111, 107, 32, 118, 97, 108, 117, 101])) (ja_nil))) (je_int))))))))))
theorem ok_law {fd : FuncData} (t : Top K mg base a) (F : FunL K "law" s_law a.a_law fd a.c_law) : FnOk P w K mg base (L2N.CX P w) 47 a.a_law fd ["script"] (upSp (tp K a) sp_law) := by
  obtain ⟨_, m__law_all, F__law_all, b__law_all⟩ := t.f__law_all
  obtain ⟨_, m__law_bent, F__law_bent, b__law_bent⟩ := t.f__law_bent
  obtain ⟨_, m__law_book, F__law_book, b__law_book⟩ := t.f__law_book
  obtain ⟨_, m__law_drum, F__law_drum, b__law_drum⟩ := t.f__law_drum
  obtain ⟨_, m__law_is_book, F__law_is_book, b__law_is_book⟩ := t.f__law_is_book
  obtain ⟨_, m__law_judged, F__law_judged, b__law_judged⟩ := t.f__law_judged
  obtain ⟨_, m__law_odd, F__law_odd, b__law_odd⟩ := t.f__law_odd
  obtain ⟨_, m_bad_pair, F_bad_pair, b_bad_pair⟩ := t.f_bad_pair
  obtain ⟨_, m_is_book, F_is_book, b_is_book⟩ := t.f_is_book
  obtain ⟨_, m_shows, F_shows, b_shows⟩ := t.f_shows
  obtain ⟨_, m_E, ⟨⟨_, _, _, _, _, _, _, _, _, rfl, lk_E, hc_E⟩, kp_E⟩, b_E⟩ := t.f__law_error
  refine okDL (tp K a) sp_law F c_law rfl fun A outer s H E hr => ⟨u_law, ?_, fun ds S Q R qm rm h => d_law qm rm h⟩
  have nd : (["script", "cell", "some", "forty", "drum", "turn", "odd", "one", "bent", "step", "value"] : List Str).Nodup := c_law.nd
  exact jss_cons (js_for rfl (ji_any (je_sl (je_bin (od_add (sck rfl)) (je_lst (ja_cons (je_int) (ja_nil))) (je_var 0)) (jo_none) (jo_some (je_int)))) (jg_name (i := 1) nd) (jss_cons (js_set 4 nd (je_call (ok__law_drum t F__law_drum) (hr.mono (by decide)) m__law_drum F__law_drum.kp b__law_drum (ja_cons (je_var 1) (ja_cons (je_int) (ja_nil))))) (jss_cons (js_for rfl (ji_rng1 t.z_range (ja_cons (je_int) (ja_nil))) (jg_name (i := 5) nd) (jss_cons (js_set 7 nd (je_call (ok__law_book t F__law_book) (hr.mono (by decide)) m__law_book F__law_book.kp b__law_book (ja_cons (je_var 4) (ja_cons (je_int) (ja_cons (je_int) (ja_nil)))))) (jss_cons (js_if (jt_w (jw_or (jt_not (jt_val (je_call (ok__law_judged t F__law_judged) (hr.mono (by decide)) m__law_judged F__law_judged.1.kp b__law_judged (ja_cons (je_var 7) (ja_nil))))) (jw_or1 (jt_not (jt_val (je_call (ok__law_is_book t F__law_is_book) (hr.mono (by decide)) m__law_is_book F__law_is_book.kp b__law_is_book (ja_cons (je_var 7) (ja_nil)))))))) (jss_one (js_ret (je_bl))) (jss_nil)) (jss_cons (js_set 8 nd (je_var 7)) (jss_one (js_for rfl (ji_rng1 t.z_range (ja_cons (je_int) (ja_nil))) (jg_name (i := 9) nd) (jss_cons (js_set 8 nd (je_call (ok__law_bent t F__law_bent 40) (hr.mono (by decide)) m__law_bent F__law_bent.kp b__law_bent (ja_cons (je_var 4) (ja_cons (je_if (jt_cmp (od_eq hr) (je_bin od_mod (je_callTy oc_int t.z_int bb_int (ja_cons (je_var 9) (ja_nil))) (je_int)) (je_int)) (je_var 7) (je_var 8)) (ja_nil))))) (jss_one (js_if (jt_not (jt_val (je_call (ok__law_judged t F__law_judged) (hr.mono (by decide)) m__law_judged F__law_judged.1.kp b__law_judged (ja_cons (je_var 8) (ja_nil))))) (jss_one (js_ret (je_bl))) (jss_nil)))))))))) (jss_cons (js_if (jt_not (jt_val (je_call (ok__law_judged t F__law_judged) (hr.mono (by decide)) m__law_judged F__law_judged.1.kp b__law_judged (ja_cons (je_call (ok__law_odd t F__law_odd 4) (hr.mono (by decide)) m__law_odd F__law_odd.kp b__law_odd (ja_cons (je_var 4) (ja_cons (je_int) (ja_nil)))) (ja_nil))))) (jss_one (js_ret (je_bl))) (jss_nil)) (jss_one (js_for rfl (ji_any (je_tup (ja_cons (je_bl) (ja_cons (je_un ou_neg (je_int)) (ja_cons (je_bin (od_add (sck rfl)) (je_bin od_pow (je_int) (je_int)) (je_int)) (ja_cons (je_str [48]) (ja_cons (je_tup (ja_cons (je_int) (ja_nil))) (ja_nil)))))))) (jg_name (i := 6) nd) (jss_cons (js_if (jt_cmp (od_ne hr) (je_lam (k := 4) (CS := a.a_TakenError) (ids := ids) (hcl t) m_E kp_E lk_E hc_E b_E c__law_error rfl (.inl rfl) (give_E t) t.tb_law rfl (.tail _ (.head _)) t.u_law (hr.mono (by decide)) (lamS_by (sc := defScope s_law) (by decide +kernel)) rfl (fun _ _ _ _ _ => rfl) (fun _ _ _ _ _ _ _ hr => je_call (ok_shows t F_shows) (hr.mono (by decide)) m_shows F_shows.kp b_shows (ja_cons (je_var 7) (ja_cons (je_var 6) (ja_nil))))) (je_str [110, 117, 109, 98, 101, 114, 32, 118, 97, 108, 117, 101])) (jss_one (js_ret (je_bl))) (jss_nil)) (jss_one (js_if (jt_cmp (od_ne hr) (je_lam (k := 4) (CS := a.a_TakenError) (ids := ids) (hcl t) m_E kp_E lk_E hc_E b_E c__law_error rfl (.inl rfl) (give_E t) t.tb_law rfl (.tail _ (.head _)) t.u_law (hr.mono (by decide)) (lamS_by (sc := defScope s_law) (by decide +kernel)) rfl (fun _ _ _ _ _ => rfl) (fun _ _ _ _ _ _ _ hr => je_call (ok_bad_pair t F_bad_pair) (hr.mono (by decide)) m_bad_pair F_bad_pair.kp b_bad_pair (ja_cons (je_var 7) (ja_cons (je_var 6) (ja_nil))))) (je_str [110, 117, 109, 98, 101, 114, 32, 118, 97, 108, 117, 101])) (jss_one (js_ret (je_bl))) (jss_nil)))))))))) (jss_cons (js_set 2 nd (je_lst (ja_cons (je_tup (ja_cons (je_int) (ja_cons (je_tup (ja_cons (je_str [48, 49]) (ja_cons (je_str [49]) (ja_nil)))) (ja_nil)))) (ja_cons (je_tup (ja_cons (je_int) (ja_cons (je_tup (ja_cons (je_str [49]) (ja_cons (je_str [48]) (ja_nil)))) (ja_nil)))) (ja_cons (je_tup (ja_cons (je_int) (ja_cons (je_tup (ja_nil)) (ja_nil)))) (ja_cons (je_tup (ja_cons (je_int) (ja_cons (je_tup (ja_cons (je_str [50]) (ja_nil))) (ja_nil)))) (ja_cons (je_tup (ja_cons (je_int) (ja_cons (je_tup (ja_cons (je_str [50]) (ja_nil))) (ja_nil)))) (ja_cons (je_tup (ja_cons (je_int) (ja_cons (je_tup (ja_nil)) (ja_nil)))) (ja_cons (je_tup (ja_cons (je_int) (ja_cons (je_tup (ja_nil)) (ja_nil)))) (ja_cons (je_tup (ja_cons (je_bl) (ja_cons (je_tup (ja_nil)) (ja_nil)))) (ja_cons (je_tup (ja_cons (je_int) (ja_cons (je_lst (ja_nil)) (ja_nil)))) (ja_nil)))))))))))) (jss_cons (js_set 2 nd (je_bin (od_add (sck rfl)) (je_var 2) (je_lst (ja_cons (je_tup (ja_cons (je_int) (ja_cons (je_tup (ja_cons (je_bin od_mul (je_str [48]) (je_int)) (ja_nil))) (ja_nil)))) (ja_cons (je_tup (ja_cons (je_int) (ja_cons (je_tup (ja_cons (je_bin od_mul (je_str [48]) (je_int)) (ja_nil))) (ja_nil)))) (ja_cons (je_tup (ja_cons (je_int) (ja_cons (je_tup (ja_cons (je_str []) (ja_nil))) (ja_nil)))) (ja_cons (je_lst (ja_cons (je_int) (ja_cons (je_tup (ja_nil)) (ja_nil)))) (ja_cons (je_tup (ja_cons (je_int) (ja_cons (je_tup (ja_cons (je_str [48]) (ja_cons (je_str [48]) (ja_nil)))) (ja_nil)))) (ja_nil))))))))) (jss_cons (js_if (jt_cmp (od_ne hr) (je_lc [("value", 10)] rfl nd (blkOk_by (N := ["script", "cell", "some", "forty", "drum", "turn", "odd", "one", "bent", "step", "value"]) (sc := defScope s_law) (by decide +kernel)) (ji_any (je_sl (je_var 2) (jo_none) (jo_some (je_int)))) (fun _ _ _ _ _ => jgo_name (i := 10) nd) (fun _ _ _ _ _ => jts_nil) (fun _ _ _ _ _ => je_call (ok_is_book t F_is_book) (hr.mono (by decide)) m_is_book F_is_book.kp b_is_book (ja_cons (je_var 10) (ja_nil)))) (je_lst (ja_cons (je_bl) (ja_cons (je_bl) (ja_cons (je_bl) (ja_cons (je_bl) (ja_cons (je_bl) (ja_cons (je_bl) (ja_cons (je_bl) (ja_cons (je_bl) (ja_cons (je_bl) (ja_nil)))))))))))) (jss_one (js_ret (je_bl))) (jss_nil)) (jss_cons (js_if (jt_cmp (od_ne hr) (je_lc [("value", 10)] rfl nd (blkOk_by (N := ["script", "cell", "some", "forty", "drum", "turn", "odd", "one", "bent", "step", "value"]) (sc := defScope s_law) (by decide +kernel)) (ji_any (je_sl (je_var 2) (jo_some (je_int)) (jo_none))) (fun _ _ _ _ _ => jgo_name (i := 10) nd) (fun _ _ _ _ _ => jts_nil) (fun _ _ _ _ _ => je_call (ok_is_book t F_is_book) (hr.mono (by decide)) m_is_book F_is_book.kp b_is_book (ja_cons (je_var 10) (ja_nil)))) (je_lst (ja_cons (je_bl) (ja_cons (je_bl) (ja_cons (je_bl) (ja_cons (je_bl) (ja_cons (je_bl) (ja_nil)))))))) (jss_one (js_ret (je_bl))) (jss_nil)) (jss_cons (js_set 3 nd (je_callTy oc_tup t.z_tuple bb_tuple (ja_cons (je_sl (je_call (ok__law_all t F__law_all) (hr.mono (by decide)) m__law_all F__law_all.kp b__law_all (ja_cons (je_int) (ja_cons (je_int) (ja_nil)))) (jo_none) (jo_some (je_int))) (ja_nil)))) (jss_one (js_ret (je_and (je_cmp od_is (je_call (ok_is_book t F_is_book) (hr.mono (by decide)) m_is_book F_is_book.kp b_is_book (ja_cons (je_tup (ja_cons (je_int) (ja_cons (je_sl (je_var 3) (jo_none) (jo_some (je_int))) (ja_nil)))) (ja_nil))) (je_bl)) (je_one (je_cmp od_is (je_call (ok_is_book t F_is_book) (hr.mono (by decide)) m_is_book F_is_book.kp b_is_book (ja_cons (je_tup (ja_cons (je_int) (ja_cons (je_var 3) (ja_nil)))) (ja_nil))) (je_bl)))))))))))
end
set_option maxHeartbeats 0 in
theorem all_mk {P : Program} {w : World} {K : PySem.W.Frag} {mg mb : Str → Option Value} {h : Heap} {fa : Addr} {pq : Program} {lw : List Str} {mean : ExcName → Option Value} {A_is_whole A_fits_word A_weight_of A_is_within A_loss_of A_least_of A_fits_steps A_need_number A_need_most A_fits_book A_first_bad A_far_apart A_need_book A_is_book A_shows A_bad_pair A_sure_steps A_mends A__law_drum A__law_roll A__law_some A__law_word A__law_all A__law_near A__law_book A__law_odd A__law_bent A__law_names A__law_error A__law_is_book A__law_judged A_law A_TakenError A_InvalidStands A_InvalidWord A_InvalidNumber A_InvalidBook A_InvalidWeights A_InvalidIndex A_InvalidPrices A_InvalidCell A_InvalidText A_Unlike A_Empty A_NothingToUndo A_TooMany C__law_judged P__law_judged C_law P_law : Addr} (TT : PyProof.Rows.Top pq lw mean mg mb h) (X : K.In h) (G : h.Ns mainGlobals mg) (hfa : mg "law" = some (.ref fa))
    {od_is_whole an_is_whole : Option Addr} {sl_is_whole : Array (Option Value)} {oc_is_whole kV_is_whole dc_is_whole pm_is_whole cd_is_whole ct_is_whole : Value}
    {od_fits_word an_fits_word : Option Addr} {sl_fits_word : Array (Option Value)} {oc_fits_word kV_fits_word dc_fits_word pm_fits_word cd_fits_word ct_fits_word : Value}
    {od_weight_of an_weight_of : Option Addr} {sl_weight_of : Array (Option Value)} {oc_weight_of kV_weight_of dc_weight_of pm_weight_of cd_weight_of ct_weight_of : Value}
    {od_is_within an_is_within : Option Addr} {sl_is_within : Array (Option Value)} {oc_is_within kV_is_within dc_is_within pm_is_within cd_is_within ct_is_within : Value}
    {od_loss_of an_loss_of : Option Addr} {sl_loss_of : Array (Option Value)} {oc_loss_of kV_loss_of dc_loss_of pm_loss_of cd_loss_of ct_loss_of : Value}
    {od_least_of an_least_of : Option Addr} {sl_least_of : Array (Option Value)} {oc_least_of kV_least_of dc_least_of pm_least_of cd_least_of ct_least_of : Value}
    {od_fits_steps an_fits_steps : Option Addr} {sl_fits_steps : Array (Option Value)} {oc_fits_steps kV_fits_steps dc_fits_steps pm_fits_steps cd_fits_steps ct_fits_steps : Value}
    {od_need_number an_need_number : Option Addr} {sl_need_number : Array (Option Value)} {oc_need_number kV_need_number dc_need_number pm_need_number cd_need_number ct_need_number : Value}
    {od_need_most an_need_most : Option Addr} {sl_need_most : Array (Option Value)} {oc_need_most kV_need_most dc_need_most pm_need_most cd_need_most ct_need_most : Value}
    {od_fits_book an_fits_book : Option Addr} {sl_fits_book : Array (Option Value)} {oc_fits_book kV_fits_book dc_fits_book pm_fits_book cd_fits_book ct_fits_book : Value}
    {od_first_bad an_first_bad : Option Addr} {sl_first_bad : Array (Option Value)} {oc_first_bad kV_first_bad dc_first_bad pm_first_bad cd_first_bad ct_first_bad : Value}
    {od_far_apart an_far_apart : Option Addr} {sl_far_apart : Array (Option Value)} {oc_far_apart kV_far_apart dc_far_apart pm_far_apart cd_far_apart ct_far_apart : Value}
    {od_need_book an_need_book : Option Addr} {sl_need_book : Array (Option Value)} {oc_need_book kV_need_book dc_need_book pm_need_book cd_need_book ct_need_book : Value}
    {od_is_book an_is_book : Option Addr} {sl_is_book : Array (Option Value)} {oc_is_book kV_is_book dc_is_book pm_is_book cd_is_book ct_is_book : Value}
    {od_shows an_shows : Option Addr} {sl_shows : Array (Option Value)} {oc_shows kV_shows dc_shows pm_shows cd_shows ct_shows : Value}
    {od_bad_pair an_bad_pair : Option Addr} {sl_bad_pair : Array (Option Value)} {oc_bad_pair kV_bad_pair dc_bad_pair pm_bad_pair cd_bad_pair ct_bad_pair : Value}
    {od_sure_steps an_sure_steps : Option Addr} {sl_sure_steps : Array (Option Value)} {oc_sure_steps kV_sure_steps dc_sure_steps pm_sure_steps cd_sure_steps ct_sure_steps : Value}
    {od_mends an_mends : Option Addr} {sl_mends : Array (Option Value)} {oc_mends kV_mends dc_mends pm_mends cd_mends ct_mends : Value}
    {od__law_drum an__law_drum : Option Addr} {sl__law_drum : Array (Option Value)} {oc__law_drum kV__law_drum dc__law_drum pm__law_drum cd__law_drum ct__law_drum : Value}
    {od__law_roll an__law_roll : Option Addr} {sl__law_roll : Array (Option Value)} {oc__law_roll kV__law_roll dc__law_roll pm__law_roll cd__law_roll ct__law_roll : Value}
    {od__law_some an__law_some : Option Addr} {sl__law_some : Array (Option Value)} {oc__law_some kV__law_some dc__law_some pm__law_some cd__law_some ct__law_some : Value}
    {od__law_word an__law_word : Option Addr} {sl__law_word : Array (Option Value)} {oc__law_word kV__law_word dc__law_word pm__law_word cd__law_word ct__law_word : Value}
    {od__law_all an__law_all : Option Addr} {sl__law_all : Array (Option Value)} {oc__law_all kV__law_all dc__law_all pm__law_all cd__law_all ct__law_all : Value}
    {od__law_near an__law_near : Option Addr} {sl__law_near : Array (Option Value)} {oc__law_near kV__law_near dc__law_near pm__law_near cd__law_near ct__law_near : Value}
    {od__law_book an__law_book : Option Addr} {sl__law_book : Array (Option Value)} {oc__law_book kV__law_book dc__law_book pm__law_book cd__law_book ct__law_book : Value}
    {od__law_odd an__law_odd : Option Addr} {sl__law_odd : Array (Option Value)} {oc__law_odd kV__law_odd dc__law_odd pm__law_odd cd__law_odd ct__law_odd : Value}
    {od__law_bent an__law_bent : Option Addr} {sl__law_bent : Array (Option Value)} {oc__law_bent kV__law_bent dc__law_bent pm__law_bent cd__law_bent ct__law_bent : Value}
    {od__law_names an__law_names : Option Addr} {sl__law_names : Array (Option Value)} {oc__law_names kV__law_names dc__law_names pm__law_names cd__law_names ct__law_names : Value}
    {od__law_error an__law_error : Option Addr} {sl__law_error : Array (Option Value)} {oc__law_error kV__law_error dc__law_error pm__law_error cd__law_error ct__law_error : Value}
    {od__law_is_book an__law_is_book : Option Addr} {sl__law_is_book : Array (Option Value)} {oc__law_is_book kV__law_is_book dc__law_is_book pm__law_is_book cd__law_is_book ct__law_is_book : Value}
    {od__law_judged an__law_judged : Option Addr} {sl__law_judged : Array (Option Value)} {oc__law_judged kV__law_judged dc__law_judged pm__law_judged ct__law_judged : Value}
    {od_law an_law : Option Addr} {sl_law : Array (Option Value)} {oc_law kV_law dc_law pm_law ct_law : Value}
    (hl_FAR : ∃ t, mg "FAR" = some (.int 1000000000000000000000000000000 t))
    (a_is_whole : PySem.W.nsIn K mainGlobals "is_whole" = some (some (.ref A_is_whole)))
    (l_is_whole : K.lookup A_is_whole = some ⟨oc_is_whole, od_is_whole, .func (PySem.W.fnOf "is_whole" "is_whole" (defArgs s_is_whole) (defBody s_is_whole) (defScope s_is_whole) .none kV_is_whole dc_is_whole pm_is_whole an_is_whole cd_is_whole ct_is_whole), sl_is_whole⟩)
    (c_is_whole : PySem.W.codeIn K cd_is_whole "is_whole" = true)
    (k_is_whole : PySem.W.keepIn K (.ref A_is_whole) = true)
    (a_fits_word : PySem.W.nsIn K mainGlobals "fits_word" = some (some (.ref A_fits_word)))
    (l_fits_word : K.lookup A_fits_word = some ⟨oc_fits_word, od_fits_word, .func (PySem.W.fnOf "fits_word" "fits_word" (defArgs s_fits_word) (defBody s_fits_word) (defScope s_fits_word) .none kV_fits_word dc_fits_word pm_fits_word an_fits_word cd_fits_word ct_fits_word), sl_fits_word⟩)
    (c_fits_word : PySem.W.codeIn K cd_fits_word "fits_word" = true)
    (k_fits_word : PySem.W.keepIn K (.ref A_fits_word) = true)
    (a_weight_of : PySem.W.nsIn K mainGlobals "weight_of" = some (some (.ref A_weight_of)))
    (l_weight_of : K.lookup A_weight_of = some ⟨oc_weight_of, od_weight_of, .func (PySem.W.fnOf "weight_of" "weight_of" (defArgs s_weight_of) (defBody s_weight_of) (defScope s_weight_of) .none kV_weight_of dc_weight_of pm_weight_of an_weight_of cd_weight_of ct_weight_of), sl_weight_of⟩)
    (c_weight_of : PySem.W.codeIn K cd_weight_of "weight_of" = true)
    (k_weight_of : PySem.W.keepIn K (.ref A_weight_of) = true)
    (a_is_within : PySem.W.nsIn K mainGlobals "is_within" = some (some (.ref A_is_within)))
    (l_is_within : K.lookup A_is_within = some ⟨oc_is_within, od_is_within, .func (PySem.W.fnOf "is_within" "is_within" (defArgs s_is_within) (defBody s_is_within) (defScope s_is_within) .none kV_is_within dc_is_within pm_is_within an_is_within cd_is_within ct_is_within), sl_is_within⟩)
    (c_is_within : PySem.W.codeIn K cd_is_within "is_within" = true)
    (k_is_within : PySem.W.keepIn K (.ref A_is_within) = true)
    (a_loss_of : PySem.W.nsIn K mainGlobals "loss_of" = some (some (.ref A_loss_of)))
    (l_loss_of : K.lookup A_loss_of = some ⟨oc_loss_of, od_loss_of, .func (PySem.W.fnOf "loss_of" "loss_of" (defArgs s_loss_of) (defBody s_loss_of) (defScope s_loss_of) .none kV_loss_of dc_loss_of pm_loss_of an_loss_of cd_loss_of ct_loss_of), sl_loss_of⟩)
    (c_loss_of : PySem.W.codeIn K cd_loss_of "loss_of" = true)
    (k_loss_of : PySem.W.keepIn K (.ref A_loss_of) = true)
    (a_least_of : PySem.W.nsIn K mainGlobals "least_of" = some (some (.ref A_least_of)))
    (l_least_of : K.lookup A_least_of = some ⟨oc_least_of, od_least_of, .func (PySem.W.fnOf "least_of" "least_of" (defArgs s_least_of) (defBody s_least_of) (defScope s_least_of) .none kV_least_of dc_least_of pm_least_of an_least_of cd_least_of ct_least_of), sl_least_of⟩)
    (c_least_of : PySem.W.codeIn K cd_least_of "least_of" = true)
    (k_least_of : PySem.W.keepIn K (.ref A_least_of) = true)
    (a_fits_steps : PySem.W.nsIn K mainGlobals "fits_steps" = some (some (.ref A_fits_steps)))
    (l_fits_steps : K.lookup A_fits_steps = some ⟨oc_fits_steps, od_fits_steps, .func (PySem.W.fnOf "fits_steps" "fits_steps" (defArgs s_fits_steps) (defBody s_fits_steps) (defScope s_fits_steps) .none kV_fits_steps dc_fits_steps pm_fits_steps an_fits_steps cd_fits_steps ct_fits_steps), sl_fits_steps⟩)
    (c_fits_steps : PySem.W.codeIn K cd_fits_steps "fits_steps" = true)
    (k_fits_steps : PySem.W.keepIn K (.ref A_fits_steps) = true)
    (a_need_number : PySem.W.nsIn K mainGlobals "need_number" = some (some (.ref A_need_number)))
    (l_need_number : K.lookup A_need_number = some ⟨oc_need_number, od_need_number, .func (PySem.W.fnOf "need_number" "need_number" (defArgs s_need_number) (defBody s_need_number) (defScope s_need_number) .none kV_need_number dc_need_number pm_need_number an_need_number cd_need_number ct_need_number), sl_need_number⟩)
    (c_need_number : PySem.W.codeIn K cd_need_number "need_number" = true)
    (k_need_number : PySem.W.keepIn K (.ref A_need_number) = true)
    (a_need_most : PySem.W.nsIn K mainGlobals "need_most" = some (some (.ref A_need_most)))
    (l_need_most : K.lookup A_need_most = some ⟨oc_need_most, od_need_most, .func (PySem.W.fnOf "need_most" "need_most" (defArgs s_need_most) (defBody s_need_most) (defScope s_need_most) .none kV_need_most dc_need_most pm_need_most an_need_most cd_need_most ct_need_most), sl_need_most⟩)
    (c_need_most : PySem.W.codeIn K cd_need_most "need_most" = true)
    (k_need_most : PySem.W.keepIn K (.ref A_need_most) = true)
    (a_fits_book : PySem.W.nsIn K mainGlobals "fits_book" = some (some (.ref A_fits_book)))
    (l_fits_book : K.lookup A_fits_book = some ⟨oc_fits_book, od_fits_book, .func (PySem.W.fnOf "fits_book" "fits_book" (defArgs s_fits_book) (defBody s_fits_book) (defScope s_fits_book) .none kV_fits_book dc_fits_book pm_fits_book an_fits_book cd_fits_book ct_fits_book), sl_fits_book⟩)
    (c_fits_book : PySem.W.codeIn K cd_fits_book "fits_book" = true)
    (k_fits_book : PySem.W.keepIn K (.ref A_fits_book) = true)
    (a_first_bad : PySem.W.nsIn K mainGlobals "first_bad" = some (some (.ref A_first_bad)))
    (l_first_bad : K.lookup A_first_bad = some ⟨oc_first_bad, od_first_bad, .func (PySem.W.fnOf "first_bad" "first_bad" (defArgs s_first_bad) (defBody s_first_bad) (defScope s_first_bad) .none kV_first_bad dc_first_bad pm_first_bad an_first_bad cd_first_bad ct_first_bad), sl_first_bad⟩)
    (c_first_bad : PySem.W.codeIn K cd_first_bad "first_bad" = true)
    (k_first_bad : PySem.W.keepIn K (.ref A_first_bad) = true)
    (a_far_apart : PySem.W.nsIn K mainGlobals "far_apart" = some (some (.ref A_far_apart)))
    (l_far_apart : K.lookup A_far_apart = some ⟨oc_far_apart, od_far_apart, .func (PySem.W.fnOf "far_apart" "far_apart" (defArgs s_far_apart) (defBody s_far_apart) (defScope s_far_apart) .none kV_far_apart dc_far_apart pm_far_apart an_far_apart cd_far_apart ct_far_apart), sl_far_apart⟩)
    (c_far_apart : PySem.W.codeIn K cd_far_apart "far_apart" = true)
    (k_far_apart : PySem.W.keepIn K (.ref A_far_apart) = true)
    (a_need_book : PySem.W.nsIn K mainGlobals "need_book" = some (some (.ref A_need_book)))
    (l_need_book : K.lookup A_need_book = some ⟨oc_need_book, od_need_book, .func (PySem.W.fnOf "need_book" "need_book" (defArgs s_need_book) (defBody s_need_book) (defScope s_need_book) .none kV_need_book dc_need_book pm_need_book an_need_book cd_need_book ct_need_book), sl_need_book⟩)
    (c_need_book : PySem.W.codeIn K cd_need_book "need_book" = true)
    (k_need_book : PySem.W.keepIn K (.ref A_need_book) = true)
    (a_is_book : PySem.W.nsIn K mainGlobals "is_book" = some (some (.ref A_is_book)))
    (l_is_book : K.lookup A_is_book = some ⟨oc_is_book, od_is_book, .func (PySem.W.fnOf "is_book" "is_book" (defArgs s_is_book) (defBody s_is_book) (defScope s_is_book) .none kV_is_book dc_is_book pm_is_book an_is_book cd_is_book ct_is_book), sl_is_book⟩)
    (c_is_book : PySem.W.codeIn K cd_is_book "is_book" = true)
    (k_is_book : PySem.W.keepIn K (.ref A_is_book) = true)
    (a_shows : PySem.W.nsIn K mainGlobals "shows" = some (some (.ref A_shows)))
    (l_shows : K.lookup A_shows = some ⟨oc_shows, od_shows, .func (PySem.W.fnOf "shows" "shows" (defArgs s_shows) (defBody s_shows) (defScope s_shows) .none kV_shows dc_shows pm_shows an_shows cd_shows ct_shows), sl_shows⟩)
    (c_shows : PySem.W.codeIn K cd_shows "shows" = true)
    (k_shows : PySem.W.keepIn K (.ref A_shows) = true)
    (a_bad_pair : PySem.W.nsIn K mainGlobals "bad_pair" = some (some (.ref A_bad_pair)))
    (l_bad_pair : K.lookup A_bad_pair = some ⟨oc_bad_pair, od_bad_pair, .func (PySem.W.fnOf "bad_pair" "bad_pair" (defArgs s_bad_pair) (defBody s_bad_pair) (defScope s_bad_pair) .none kV_bad_pair dc_bad_pair pm_bad_pair an_bad_pair cd_bad_pair ct_bad_pair), sl_bad_pair⟩)
    (c_bad_pair : PySem.W.codeIn K cd_bad_pair "bad_pair" = true)
    (k_bad_pair : PySem.W.keepIn K (.ref A_bad_pair) = true)
    (a_sure_steps : PySem.W.nsIn K mainGlobals "sure_steps" = some (some (.ref A_sure_steps)))
    (l_sure_steps : K.lookup A_sure_steps = some ⟨oc_sure_steps, od_sure_steps, .func (PySem.W.fnOf "sure_steps" "sure_steps" (defArgs s_sure_steps) (defBody s_sure_steps) (defScope s_sure_steps) .none kV_sure_steps dc_sure_steps pm_sure_steps an_sure_steps cd_sure_steps ct_sure_steps), sl_sure_steps⟩)
    (c_sure_steps : PySem.W.codeIn K cd_sure_steps "sure_steps" = true)
    (k_sure_steps : PySem.W.keepIn K (.ref A_sure_steps) = true)
    (a_mends : PySem.W.nsIn K mainGlobals "mends" = some (some (.ref A_mends)))
    (l_mends : K.lookup A_mends = some ⟨oc_mends, od_mends, .func (PySem.W.fnOf "mends" "mends" (defArgs s_mends) (defBody s_mends) (defScope s_mends) .none kV_mends dc_mends pm_mends an_mends cd_mends ct_mends), sl_mends⟩)
    (c_mends : PySem.W.codeIn K cd_mends "mends" = true)
    (k_mends : PySem.W.keepIn K (.ref A_mends) = true)
    (a__law_drum : PySem.W.nsIn K mainGlobals "_law_drum" = some (some (.ref A__law_drum)))
    (l__law_drum : K.lookup A__law_drum = some ⟨oc__law_drum, od__law_drum, .func (PySem.W.fnOf "_law_drum" "_law_drum" (defArgs s__law_drum) (defBody s__law_drum) (defScope s__law_drum) .none kV__law_drum dc__law_drum pm__law_drum an__law_drum cd__law_drum ct__law_drum), sl__law_drum⟩)
    (c__law_drum : PySem.W.codeIn K cd__law_drum "_law_drum" = true)
    (k__law_drum : PySem.W.keepIn K (.ref A__law_drum) = true)
    (a__law_roll : PySem.W.nsIn K mainGlobals "_law_roll" = some (some (.ref A__law_roll)))
    (l__law_roll : K.lookup A__law_roll = some ⟨oc__law_roll, od__law_roll, .func (PySem.W.fnOf "_law_roll" "_law_roll" (defArgs s__law_roll) (defBody s__law_roll) (defScope s__law_roll) .none kV__law_roll dc__law_roll pm__law_roll an__law_roll cd__law_roll ct__law_roll), sl__law_roll⟩)
    (c__law_roll : PySem.W.codeIn K cd__law_roll "_law_roll" = true)
    (k__law_roll : PySem.W.keepIn K (.ref A__law_roll) = true)
    (a__law_some : PySem.W.nsIn K mainGlobals "_law_some" = some (some (.ref A__law_some)))
    (l__law_some : K.lookup A__law_some = some ⟨oc__law_some, od__law_some, .func (PySem.W.fnOf "_law_some" "_law_some" (defArgs s__law_some) (defBody s__law_some) (defScope s__law_some) .none kV__law_some dc__law_some pm__law_some an__law_some cd__law_some ct__law_some), sl__law_some⟩)
    (c__law_some : PySem.W.codeIn K cd__law_some "_law_some" = true)
    (k__law_some : PySem.W.keepIn K (.ref A__law_some) = true)
    (a__law_word : PySem.W.nsIn K mainGlobals "_law_word" = some (some (.ref A__law_word)))
    (l__law_word : K.lookup A__law_word = some ⟨oc__law_word, od__law_word, .func (PySem.W.fnOf "_law_word" "_law_word" (defArgs s__law_word) (defBody s__law_word) (defScope s__law_word) .none kV__law_word dc__law_word pm__law_word an__law_word cd__law_word ct__law_word), sl__law_word⟩)
    (c__law_word : PySem.W.codeIn K cd__law_word "_law_word" = true)
    (k__law_word : PySem.W.keepIn K (.ref A__law_word) = true)
    (a__law_all : PySem.W.nsIn K mainGlobals "_law_all" = some (some (.ref A__law_all)))
    (l__law_all : K.lookup A__law_all = some ⟨oc__law_all, od__law_all, .func (PySem.W.fnOf "_law_all" "_law_all" (defArgs s__law_all) (defBody s__law_all) (defScope s__law_all) .none kV__law_all dc__law_all pm__law_all an__law_all cd__law_all ct__law_all), sl__law_all⟩)
    (c__law_all : PySem.W.codeIn K cd__law_all "_law_all" = true)
    (k__law_all : PySem.W.keepIn K (.ref A__law_all) = true)
    (a__law_near : PySem.W.nsIn K mainGlobals "_law_near" = some (some (.ref A__law_near)))
    (l__law_near : K.lookup A__law_near = some ⟨oc__law_near, od__law_near, .func (PySem.W.fnOf "_law_near" "_law_near" (defArgs s__law_near) (defBody s__law_near) (defScope s__law_near) .none kV__law_near dc__law_near pm__law_near an__law_near cd__law_near ct__law_near), sl__law_near⟩)
    (c__law_near : PySem.W.codeIn K cd__law_near "_law_near" = true)
    (k__law_near : PySem.W.keepIn K (.ref A__law_near) = true)
    (a__law_book : PySem.W.nsIn K mainGlobals "_law_book" = some (some (.ref A__law_book)))
    (l__law_book : K.lookup A__law_book = some ⟨oc__law_book, od__law_book, .func (PySem.W.fnOf "_law_book" "_law_book" (defArgs s__law_book) (defBody s__law_book) (defScope s__law_book) .none kV__law_book dc__law_book pm__law_book an__law_book cd__law_book ct__law_book), sl__law_book⟩)
    (c__law_book : PySem.W.codeIn K cd__law_book "_law_book" = true)
    (k__law_book : PySem.W.keepIn K (.ref A__law_book) = true)
    (a__law_odd : PySem.W.nsIn K mainGlobals "_law_odd" = some (some (.ref A__law_odd)))
    (l__law_odd : K.lookup A__law_odd = some ⟨oc__law_odd, od__law_odd, .func (PySem.W.fnOf "_law_odd" "_law_odd" (defArgs s__law_odd) (defBody s__law_odd) (defScope s__law_odd) .none kV__law_odd dc__law_odd pm__law_odd an__law_odd cd__law_odd ct__law_odd), sl__law_odd⟩)
    (c__law_odd : PySem.W.codeIn K cd__law_odd "_law_odd" = true)
    (k__law_odd : PySem.W.keepIn K (.ref A__law_odd) = true)
    (a__law_bent : PySem.W.nsIn K mainGlobals "_law_bent" = some (some (.ref A__law_bent)))
    (l__law_bent : K.lookup A__law_bent = some ⟨oc__law_bent, od__law_bent, .func (PySem.W.fnOf "_law_bent" "_law_bent" (defArgs s__law_bent) (defBody s__law_bent) (defScope s__law_bent) .none kV__law_bent dc__law_bent pm__law_bent an__law_bent cd__law_bent ct__law_bent), sl__law_bent⟩)
    (c__law_bent : PySem.W.codeIn K cd__law_bent "_law_bent" = true)
    (k__law_bent : PySem.W.keepIn K (.ref A__law_bent) = true)
    (a__law_names : PySem.W.nsIn K mainGlobals "_law_names" = some (some (.ref A__law_names)))
    (l__law_names : K.lookup A__law_names = some ⟨oc__law_names, od__law_names, .func (PySem.W.fnOf "_law_names" "_law_names" (defArgs s__law_names) (defBody s__law_names) (defScope s__law_names) .none kV__law_names dc__law_names pm__law_names an__law_names cd__law_names ct__law_names), sl__law_names⟩)
    (c__law_names : PySem.W.codeIn K cd__law_names "_law_names" = true)
    (k__law_names : PySem.W.keepIn K (.ref A__law_names) = true)
    (a__law_error : PySem.W.nsIn K mainGlobals "_law_error" = some (some (.ref A__law_error)))
    (l__law_error : K.lookup A__law_error = some ⟨oc__law_error, od__law_error, .func (PySem.W.fnOf "_law_error" "_law_error" (defArgs s__law_error) (defBody s__law_error) (defScope s__law_error) .none kV__law_error dc__law_error pm__law_error an__law_error cd__law_error ct__law_error), sl__law_error⟩)
    (c__law_error : PySem.W.codeIn K cd__law_error "_law_error" = true)
    (k__law_error : PySem.W.keepIn K (.ref A__law_error) = true)
    (a__law_is_book : PySem.W.nsIn K mainGlobals "_law_is_book" = some (some (.ref A__law_is_book)))
    (l__law_is_book : K.lookup A__law_is_book = some ⟨oc__law_is_book, od__law_is_book, .func (PySem.W.fnOf "_law_is_book" "_law_is_book" (defArgs s__law_is_book) (defBody s__law_is_book) (defScope s__law_is_book) .none kV__law_is_book dc__law_is_book pm__law_is_book an__law_is_book cd__law_is_book ct__law_is_book), sl__law_is_book⟩)
    (c__law_is_book : PySem.W.codeIn K cd__law_is_book "_law_is_book" = true)
    (k__law_is_book : PySem.W.keepIn K (.ref A__law_is_book) = true)
    (a__law_judged : PySem.W.nsIn K mainGlobals "_law_judged" = some (some (.ref A__law_judged)))
    (l__law_judged : K.lookup A__law_judged = some ⟨oc__law_judged, od__law_judged, .func (PySem.W.fnOf "_law_judged" "_law_judged" (defArgs s__law_judged) (defBody s__law_judged) (defScope s__law_judged) .none kV__law_judged dc__law_judged pm__law_judged an__law_judged (.ref C__law_judged) ct__law_judged), sl__law_judged⟩)
    (c__law_judged : PySem.W.codeIn K (.ref C__law_judged) "_law_judged" = true)
    (k__law_judged : PySem.W.keepIn K (.ref A__law_judged) = true)
    (a_law : PySem.W.nsIn K mainGlobals "law" = some (some (.ref A_law)))
    (l_law : K.lookup A_law = some ⟨oc_law, od_law, .func (PySem.W.fnOf "law" "law" (defArgs s_law) (defBody s_law) (defScope s_law) .none kV_law dc_law pm_law an_law (.ref C_law) ct_law), sl_law⟩)
    (c_law : PySem.W.codeIn K (.ref C_law) "law" = true)
    (k_law : PySem.W.keepIn K (.ref A_law) = true)
    {dr__law_judged : DefRec}
    (dr__law_judged : (PyProof.Rows.recsOf pq).find? (fun e => e.name == ("_law_judged" : Str)) = some dr__law_judged)
    {ocC__law_judged : Value} {odC__law_judged : Option Addr} {vsC__law_judged : Array Value} {slC__law_judged : Array (Option Value)}
    (lc__law_judged : K.lookup C__law_judged = some ⟨ocC__law_judged, odC__law_judged, .fields vsC__law_judged, slC__law_judged⟩)
    (vp__law_judged : vsC__law_judged[11]? = some (.ref P__law_judged))
    (tn__law_judged : K.lookup P__law_judged = none)
    {dr_law : DefRec}
    (dr_law : (PyProof.Rows.recsOf pq).find? (fun e => e.name == ("law" : Str)) = some dr_law)
    {ocC_law : Value} {odC_law : Option Addr} {vsC_law : Array Value} {slC_law : Array (Option Value)}
    (lc_law : K.lookup C_law = some ⟨ocC_law, odC_law, .fields vsC_law, slC_law⟩)
    (vp_law : vsC_law[11]? = some (.ref P_law))
    (tn_law : K.lookup P_law = none)
    (ne__law_judged_law : (P__law_judged == P_law) = false)
    (ne_law__law_judged : (P_law == P__law_judged) = false)
    (z_ValueError : PySem.W.nsIn K mainGlobals "ValueError" = some none)
    (z_all : PySem.W.nsIn K mainGlobals "all" = some none)
    (z_bool : PySem.W.nsIn K mainGlobals "bool" = some none)
    (z_int : PySem.W.nsIn K mainGlobals "int" = some none)
    (z_isinstance : PySem.W.nsIn K mainGlobals "isinstance" = some none)
    (z_len : PySem.W.nsIn K mainGlobals "len" = some none)
    (z_list : PySem.W.nsIn K mainGlobals "list" = some none)
    (z_max : PySem.W.nsIn K mainGlobals "max" = some none)
    (z_min : PySem.W.nsIn K mainGlobals "min" = some none)
    (z_range : PySem.W.nsIn K mainGlobals "range" = some none)
    (z_set : PySem.W.nsIn K mainGlobals "set" = some none)
    (z_sorted : PySem.W.nsIn K mainGlobals "sorted" = some none)
    (z_str : PySem.W.nsIn K mainGlobals "str" = some none)
    (z_sum : PySem.W.nsIn K mainGlobals "sum" = some none)
    (z_tuple : PySem.W.nsIn K mainGlobals "tuple" = some none)
    (z_zip : PySem.W.nsIn K mainGlobals "zip" = some none)
    {y_FIGURES : Str} {t_FIGURES : Tok}
    (q_FIGURES : PySem.W.nsIn K mainGlobals "FIGURES" = some (some (.str y_FIGURES t_FIGURES)))
    (w_FIGURES : y_FIGURES.cps.toList = [48, 49, 50, 51])
    {t_LONGEST : Tok}
    (q_LONGEST : PySem.W.nsIn K mainGlobals "LONGEST" = some (some (.int 60 t_LONGEST)))
    {t_MOST : Tok}
    (q_MOST : PySem.W.nsIn K mainGlobals "MOST" = some (some (.int 40 t_MOST)))
    {t_CELLS : Tok}
    (q_CELLS : PySem.W.nsIn K mainGlobals "CELLS" = some (some (.int 12 t_CELLS)))
    (m_TakenError : PySem.W.nsIn K mainGlobals "TakenError" = some (some (.ref A_TakenError)))
    (m_InvalidStands : PySem.W.nsIn K mainGlobals "InvalidStands" = some (some (.ref A_InvalidStands)))
    (m_InvalidWord : PySem.W.nsIn K mainGlobals "InvalidWord" = some (some (.ref A_InvalidWord)))
    (m_InvalidNumber : PySem.W.nsIn K mainGlobals "InvalidNumber" = some (some (.ref A_InvalidNumber)))
    (m_InvalidBook : PySem.W.nsIn K mainGlobals "InvalidBook" = some (some (.ref A_InvalidBook)))
    (m_InvalidWeights : PySem.W.nsIn K mainGlobals "InvalidWeights" = some (some (.ref A_InvalidWeights)))
    (m_InvalidIndex : PySem.W.nsIn K mainGlobals "InvalidIndex" = some (some (.ref A_InvalidIndex)))
    (m_InvalidPrices : PySem.W.nsIn K mainGlobals "InvalidPrices" = some (some (.ref A_InvalidPrices)))
    (m_InvalidCell : PySem.W.nsIn K mainGlobals "InvalidCell" = some (some (.ref A_InvalidCell)))
    (m_InvalidText : PySem.W.nsIn K mainGlobals "InvalidText" = some (some (.ref A_InvalidText)))
    (m_Unlike : PySem.W.nsIn K mainGlobals "Unlike" = some (some (.ref A_Unlike)))
    (m_Empty : PySem.W.nsIn K mainGlobals "Empty" = some (some (.ref A_Empty)))
    (m_NothingToUndo : PySem.W.nsIn K mainGlobals "NothingToUndo" = some (some (.ref A_NothingToUndo)))
    (m_TooMany : PySem.W.nsIn K mainGlobals "TooMany" = some (some (.ref A_TooMany)))
    (x_InvalidNumber : PySem.W.excIn K A_InvalidNumber [.type "ValueError", .type "Exception", .type "BaseException", .type "object"] "ValueError.__new__" = true)
    (kc_InvalidNumber : PySem.W.keepIn K (.ref A_InvalidNumber) = true)
    (s_InvalidNumber : PySem.W.subIn K (.ref A_InvalidNumber) (.type "BaseException") = some true)
    (y_InvalidNumber : PySem.W.typeIn K (.ref A_InvalidNumber) = some (.type "type"))
    (x_InvalidBook : PySem.W.excIn K A_InvalidBook [.type "ValueError", .type "Exception", .type "BaseException", .type "object"] "ValueError.__new__" = true)
    (kc_InvalidBook : PySem.W.keepIn K (.ref A_InvalidBook) = true)
    (s_InvalidBook : PySem.W.subIn K (.ref A_InvalidBook) (.type "BaseException") = some true)
    (y_InvalidBook : PySem.W.typeIn K (.ref A_InvalidBook) = some (.type "type"))
    (e_InvalidNumber : ExcC K A_InvalidNumber)
    (qe_InvalidNumber : PySem.W.exmOne K (.ref A_InvalidNumber) (.ref A_TakenError) = some true)
    (y_InvalidNumber_InvalidStands : PySem.W.kitOne K (.ref A_InvalidNumber) (.ref A_InvalidStands) = some false)
    (y_InvalidNumber_InvalidWord : PySem.W.kitOne K (.ref A_InvalidNumber) (.ref A_InvalidWord) = some false)
    (y_InvalidNumber_InvalidNumber : PySem.W.kitOne K (.ref A_InvalidNumber) (.ref A_InvalidNumber) = some true)
    (y_InvalidNumber_InvalidBook : PySem.W.kitOne K (.ref A_InvalidNumber) (.ref A_InvalidBook) = some false)
    (y_InvalidNumber_InvalidWeights : PySem.W.kitOne K (.ref A_InvalidNumber) (.ref A_InvalidWeights) = some false)
    (y_InvalidNumber_InvalidIndex : PySem.W.kitOne K (.ref A_InvalidNumber) (.ref A_InvalidIndex) = some false)
    (y_InvalidNumber_InvalidPrices : PySem.W.kitOne K (.ref A_InvalidNumber) (.ref A_InvalidPrices) = some false)
    (y_InvalidNumber_InvalidCell : PySem.W.kitOne K (.ref A_InvalidNumber) (.ref A_InvalidCell) = some false)
    (y_InvalidNumber_InvalidText : PySem.W.kitOne K (.ref A_InvalidNumber) (.ref A_InvalidText) = some false)
    (y_InvalidNumber_Unlike : PySem.W.kitOne K (.ref A_InvalidNumber) (.ref A_Unlike) = some false)
    (y_InvalidNumber_Empty : PySem.W.kitOne K (.ref A_InvalidNumber) (.ref A_Empty) = some false)
    (y_InvalidNumber_NothingToUndo : PySem.W.kitOne K (.ref A_InvalidNumber) (.ref A_NothingToUndo) = some false)
    (y_InvalidNumber_TooMany : PySem.W.kitOne K (.ref A_InvalidNumber) (.ref A_TooMany) = some false)
    (y_InvalidNumber_ValueError : PySem.W.kitOne K (.ref A_InvalidNumber) (.type "ValueError") = some true)
    (e_InvalidBook : ExcC K A_InvalidBook)
    (qe_InvalidBook : PySem.W.exmOne K (.ref A_InvalidBook) (.ref A_TakenError) = some true)
    (y_InvalidBook_InvalidStands : PySem.W.kitOne K (.ref A_InvalidBook) (.ref A_InvalidStands) = some false)
    (y_InvalidBook_InvalidWord : PySem.W.kitOne K (.ref A_InvalidBook) (.ref A_InvalidWord) = some false)
    (y_InvalidBook_InvalidNumber : PySem.W.kitOne K (.ref A_InvalidBook) (.ref A_InvalidNumber) = some false)
    (y_InvalidBook_InvalidBook : PySem.W.kitOne K (.ref A_InvalidBook) (.ref A_InvalidBook) = some true)
    (y_InvalidBook_InvalidWeights : PySem.W.kitOne K (.ref A_InvalidBook) (.ref A_InvalidWeights) = some false)
    (y_InvalidBook_InvalidIndex : PySem.W.kitOne K (.ref A_InvalidBook) (.ref A_InvalidIndex) = some false)
    (y_InvalidBook_InvalidPrices : PySem.W.kitOne K (.ref A_InvalidBook) (.ref A_InvalidPrices) = some false)
    (y_InvalidBook_InvalidCell : PySem.W.kitOne K (.ref A_InvalidBook) (.ref A_InvalidCell) = some false)
    (y_InvalidBook_InvalidText : PySem.W.kitOne K (.ref A_InvalidBook) (.ref A_InvalidText) = some false)
    (y_InvalidBook_Unlike : PySem.W.kitOne K (.ref A_InvalidBook) (.ref A_Unlike) = some false)
    (y_InvalidBook_Empty : PySem.W.kitOne K (.ref A_InvalidBook) (.ref A_Empty) = some false)
    (y_InvalidBook_NothingToUndo : PySem.W.kitOne K (.ref A_InvalidBook) (.ref A_NothingToUndo) = some false)
    (y_InvalidBook_TooMany : PySem.W.kitOne K (.ref A_InvalidBook) (.ref A_TooMany) = some false)
    (y_InvalidBook_ValueError : PySem.W.kitOne K (.ref A_InvalidBook) (.type "ValueError") = some true)
    : ∃ (a : Ads) (fd : FuncData) (cs : List (Addr × Addr)), (∀ p ∈ cs, PySem.W.CodeHd h p.1 p.2 ∧ h.get? p.2 = some { cls := .none, data := .fields #[] }) ∧ (∀ p ∈ cs, K.lookup p.2 = none) ∧ (∀ p ∈ (tp K a).tabs, p.1 ∈ cs.map (·.2)) ∧ (∀ (s : Shared) (u : Value), BindsTo s fd ⟨[u], []⟩ [("script", u)]) ∧ ∀ base : Heap, K.In base → base.Ns mainGlobals mg → (∀ p ∈ cs, TabB base mg p.1 p.2) → FnOk P w K mg base (L2N.CX P w) 47 fa fd ["script"] (upSp (tp K a) sp_law) := by
  have e : A_law = fa := Value.ref.inj (Option.some.inj ((PySem.W.mg_of X G a_law).symm.trans hfa))
  subst e
  have f_is_whole : FnE K mg "is_whole" s_is_whole ["value", "low", "high"] A_is_whole := ⟨_, PySem.W.mg_of X G a_is_whole, fun_mk l_is_whole c_is_whole k_is_whole, (fun_mk (st := s_is_whole) l_is_whole c_is_whole k_is_whole).binds (ps := ["value", "low", "high"]) fun _ _ _ _ _ _ us hl => match us, hl with | [_, _, _], _ => rfl⟩
  have f_fits_word : FnE K mg "fits_word" s_fits_word ["stands", "value"] A_fits_word := ⟨_, PySem.W.mg_of X G a_fits_word, fun_mk l_fits_word c_fits_word k_fits_word, (fun_mk (st := s_fits_word) l_fits_word c_fits_word k_fits_word).binds (ps := ["stands", "value"]) fun _ _ _ _ _ _ us hl => match us, hl with | [_, _], _ => rfl⟩
  have f_weight_of : FnE K mg "weight_of" s_weight_of ["word"] A_weight_of := ⟨_, PySem.W.mg_of X G a_weight_of, fun_mk l_weight_of c_weight_of k_weight_of, (fun_mk (st := s_weight_of) l_weight_of c_weight_of k_weight_of).binds (ps := ["word"]) fun _ _ _ _ _ _ us hl => match us, hl with | [_], _ => rfl⟩
  have f_is_within : FnE K mg "is_within" s_is_within ["one", "other"] A_is_within := ⟨_, PySem.W.mg_of X G a_is_within, fun_mk l_is_within c_is_within k_is_within, (fun_mk (st := s_is_within) l_is_within c_is_within k_is_within).binds (ps := ["one", "other"]) fun _ _ _ _ _ _ us hl => match us, hl with | [_, _], _ => rfl⟩
  have f_loss_of : FnE K mg "loss_of" s_loss_of ["one", "other"] A_loss_of := ⟨_, PySem.W.mg_of X G a_loss_of, fun_mk l_loss_of c_loss_of k_loss_of, (fun_mk (st := s_loss_of) l_loss_of c_loss_of k_loss_of).binds (ps := ["one", "other"]) fun _ _ _ _ _ _ us hl => match us, hl with | [_, _], _ => rfl⟩
  have f_least_of : FnE K mg "least_of" s_least_of ["one", "other"] A_least_of := ⟨_, PySem.W.mg_of X G a_least_of, fun_mk l_least_of c_least_of k_least_of, (fun_mk (st := s_least_of) l_least_of c_least_of k_least_of).binds (ps := ["one", "other"]) fun _ _ _ _ _ _ us hl => match us, hl with | [_, _], _ => rfl⟩
  have f_fits_steps : FnE K mg "fits_steps" s_fits_steps ["steps", "most"] A_fits_steps := ⟨_, PySem.W.mg_of X G a_fits_steps, fun_mk l_fits_steps c_fits_steps k_fits_steps, (fun_mk (st := s_fits_steps) l_fits_steps c_fits_steps k_fits_steps).binds (ps := ["steps", "most"]) fun _ _ _ _ _ _ us hl => match us, hl with | [_, _], _ => rfl⟩
  have f_need_number : FnE K mg "need_number" s_need_number ["value", "low", "high"] A_need_number := ⟨_, PySem.W.mg_of X G a_need_number, fun_mk l_need_number c_need_number k_need_number, (fun_mk (st := s_need_number) l_need_number c_need_number k_need_number).binds (ps := ["value", "low", "high"]) fun _ _ _ _ _ _ us hl => match us, hl with | [_, _, _], _ => rfl⟩
  have f_need_most : FnE K mg "need_most" s_need_most ["value"] A_need_most := ⟨_, PySem.W.mg_of X G a_need_most, fun_mk l_need_most c_need_most k_need_most, (fun_mk (st := s_need_most) l_need_most c_need_most k_need_most).binds (ps := ["value"]) fun _ _ _ _ _ _ us hl => match us, hl with | [_], _ => rfl⟩
  have f_fits_book : FnE K mg "fits_book" s_fits_book ["value"] A_fits_book := ⟨_, PySem.W.mg_of X G a_fits_book, fun_mk l_fits_book c_fits_book k_fits_book, (fun_mk (st := s_fits_book) l_fits_book c_fits_book k_fits_book).binds (ps := ["value"]) fun _ _ _ _ _ _ us hl => match us, hl with | [_], _ => rfl⟩
  have f_first_bad : FnE K mg "first_bad" s_first_bad ["words", "most"] A_first_bad := ⟨_, PySem.W.mg_of X G a_first_bad, fun_mk l_first_bad c_first_bad k_first_bad, (fun_mk (st := s_first_bad) l_first_bad c_first_bad k_first_bad).binds (ps := ["words", "most"]) fun _ _ _ _ _ _ us hl => match us, hl with | [_, _], _ => rfl⟩
  have f_far_apart : FnE K mg "far_apart" s_far_apart ["one", "other"] A_far_apart := ⟨_, PySem.W.mg_of X G a_far_apart, fun_mk l_far_apart c_far_apart k_far_apart, (fun_mk (st := s_far_apart) l_far_apart c_far_apart k_far_apart).binds (ps := ["one", "other"]) fun _ _ _ _ _ _ us hl => match us, hl with | [_, _], _ => rfl⟩
  have f_need_book : FnE K mg "need_book" s_need_book ["value"] A_need_book := ⟨_, PySem.W.mg_of X G a_need_book, fun_mk l_need_book c_need_book k_need_book, (fun_mk (st := s_need_book) l_need_book c_need_book k_need_book).binds (ps := ["value"]) fun _ _ _ _ _ _ us hl => match us, hl with | [_], _ => rfl⟩
  have f_is_book : FnE K mg "is_book" s_is_book ["value"] A_is_book := ⟨_, PySem.W.mg_of X G a_is_book, fun_mk l_is_book c_is_book k_is_book, (fun_mk (st := s_is_book) l_is_book c_is_book k_is_book).binds (ps := ["value"]) fun _ _ _ _ _ _ us hl => match us, hl with | [_], _ => rfl⟩
  have f_shows : FnE K mg "shows" s_shows ["book", "most"] A_shows := ⟨_, PySem.W.mg_of X G a_shows, fun_mk l_shows c_shows k_shows, (fun_mk (st := s_shows) l_shows c_shows k_shows).binds (ps := ["book", "most"]) fun _ _ _ _ _ _ us hl => match us, hl with | [_, _], _ => rfl⟩
  have f_bad_pair : FnE K mg "bad_pair" s_bad_pair ["book", "most"] A_bad_pair := ⟨_, PySem.W.mg_of X G a_bad_pair, fun_mk l_bad_pair c_bad_pair k_bad_pair, (fun_mk (st := s_bad_pair) l_bad_pair c_bad_pair k_bad_pair).binds (ps := ["book", "most"]) fun _ _ _ _ _ _ us hl => match us, hl with | [_, _], _ => rfl⟩
  have f_sure_steps : FnE K mg "sure_steps" s_sure_steps ["book"] A_sure_steps := ⟨_, PySem.W.mg_of X G a_sure_steps, fun_mk l_sure_steps c_sure_steps k_sure_steps, (fun_mk (st := s_sure_steps) l_sure_steps c_sure_steps k_sure_steps).binds (ps := ["book"]) fun _ _ _ _ _ _ us hl => match us, hl with | [_], _ => rfl⟩
  have f_mends : FnE K mg "mends" s_mends ["book"] A_mends := ⟨_, PySem.W.mg_of X G a_mends, fun_mk l_mends c_mends k_mends, (fun_mk (st := s_mends) l_mends c_mends k_mends).binds (ps := ["book"]) fun _ _ _ _ _ _ us hl => match us, hl with | [_], _ => rfl⟩
  have f__law_drum : FnE K mg "_law_drum" s__law_drum ["cell", "turn"] A__law_drum := ⟨_, PySem.W.mg_of X G a__law_drum, fun_mk l__law_drum c__law_drum k__law_drum, (fun_mk (st := s__law_drum) l__law_drum c__law_drum k__law_drum).binds (ps := ["cell", "turn"]) fun _ _ _ _ _ _ us hl => match us, hl with | [_, _], _ => rfl⟩
  have f__law_roll : FnE K mg "_law_roll" s__law_roll ["drum", "many"] A__law_roll := ⟨_, PySem.W.mg_of X G a__law_roll, fun_mk l__law_roll c__law_roll k__law_roll, (fun_mk (st := s__law_roll) l__law_roll c__law_roll k__law_roll).binds (ps := ["drum", "many"]) fun _ _ _ _ _ _ us hl => match us, hl with | [_, _], _ => rfl⟩
  have f__law_some : FnE K mg "_law_some" s__law_some ["drum", "things"] A__law_some := ⟨_, PySem.W.mg_of X G a__law_some, fun_mk l__law_some c__law_some k__law_some, (fun_mk (st := s__law_some) l__law_some c__law_some k__law_some).binds (ps := ["drum", "things"]) fun _ _ _ _ _ _ us hl => match us, hl with | [_, _], _ => rfl⟩
  have f__law_word : FnE K mg "_law_word" s__law_word ["drum", "stands", "length"] A__law_word := ⟨_, PySem.W.mg_of X G a__law_word, fun_mk l__law_word c__law_word k__law_word, (fun_mk (st := s__law_word) l__law_word c__law_word k__law_word).binds (ps := ["drum", "stands", "length"]) fun _ _ _ _ _ _ us hl => match us, hl with | [_, _, _], _ => rfl⟩
  have f__law_all : FnE K mg "_law_all" s__law_all ["stands", "length"] A__law_all := ⟨_, PySem.W.mg_of X G a__law_all, fun_mk l__law_all c__law_all k__law_all, (fun_mk (st := s__law_all) l__law_all c__law_all k__law_all).binds (ps := ["stands", "length"]) fun _ _ _ _ _ _ us hl => match us, hl with | [_, _], _ => rfl⟩
  have f__law_near : FnE K mg "_law_near" s__law_near ["drum", "stands", "text"] A__law_near := ⟨_, PySem.W.mg_of X G a__law_near, fun_mk l__law_near c__law_near k__law_near, (fun_mk (st := s__law_near) l__law_near c__law_near k__law_near).binds (ps := ["drum", "stands", "text"]) fun _ _ _ _ _ _ us hl => match us, hl with | [_, _, _], _ => rfl⟩
  have f__law_book : FnE K mg "_law_book" s__law_book ["drum", "many", "cells"] A__law_book := ⟨_, PySem.W.mg_of X G a__law_book, fun_mk l__law_book c__law_book k__law_book, (fun_mk (st := s__law_book) l__law_book c__law_book k__law_book).binds (ps := ["drum", "many", "cells"]) fun _ _ _ _ _ _ us hl => match us, hl with | [_, _, _], _ => rfl⟩
  have f__law_odd : FnE K mg "_law_odd" s__law_odd ["drum", "depth"] A__law_odd := ⟨_, PySem.W.mg_of X G a__law_odd, fun_mk l__law_odd c__law_odd k__law_odd, (fun_mk (st := s__law_odd) l__law_odd c__law_odd k__law_odd).binds (ps := ["drum", "depth"]) fun _ _ _ _ _ _ us hl => match us, hl with | [_, _], _ => rfl⟩
  have f__law_bent : FnE K mg "_law_bent" s__law_bent ["drum", "value"] A__law_bent := ⟨_, PySem.W.mg_of X G a__law_bent, fun_mk l__law_bent c__law_bent k__law_bent, (fun_mk (st := s__law_bent) l__law_bent c__law_bent k__law_bent).binds (ps := ["drum", "value"]) fun _ _ _ _ _ _ us hl => match us, hl with | [_, _], _ => rfl⟩
  have f__law_names : FnE K mg "_law_names" s__law_names ["e"] A__law_names := ⟨_, PySem.W.mg_of X G a__law_names, fun_mk l__law_names c__law_names k__law_names, (fun_mk (st := s__law_names) l__law_names c__law_names k__law_names).binds (ps := ["e"]) fun _ _ _ _ _ _ us hl => match us, hl with | [_], _ => rfl⟩
  have f__law_error : FnE K mg "_law_error" s__law_error ["call"] A__law_error := ⟨_, PySem.W.mg_of X G a__law_error, fun_mk l__law_error c__law_error k__law_error, (fun_mk (st := s__law_error) l__law_error c__law_error k__law_error).binds (ps := ["call"]) fun _ _ _ _ _ _ us hl => match us, hl with | [_], _ => rfl⟩
  have f__law_is_book : FnE K mg "_law_is_book" s__law_is_book ["value"] A__law_is_book := ⟨_, PySem.W.mg_of X G a__law_is_book, fun_mk l__law_is_book c__law_is_book k__law_is_book, (fun_mk (st := s__law_is_book) l__law_is_book c__law_is_book k__law_is_book).binds (ps := ["value"]) fun _ _ _ _ _ _ us hl => match us, hl with | [_], _ => rfl⟩
  have f__law_judged : FnEL K mg "_law_judged" s__law_judged ["value"] A__law_judged C__law_judged := ⟨_, PySem.W.mg_of X G a__law_judged, ⟨fun_mk l__law_judged c__law_judged k__law_judged, rfl⟩, (fun_mk (st := s__law_judged) l__law_judged c__law_judged k__law_judged).binds (ps := ["value"]) fun _ _ _ _ _ _ us hl => match us, hl with | [_], _ => rfl⟩
  have f_law : FnEL K mg "law" s_law ["script"] A_law C_law := ⟨_, PySem.W.mg_of X G a_law, ⟨fun_mk l_law c_law k_law, rfl⟩, (fun_mk (st := s_law) l_law c_law k_law).binds (ps := ["script"]) fun _ _ _ _ _ _ us hl => match us, hl with | [_], _ => rfl⟩
  let a : Ads := { a_is_whole := A_is_whole, a_fits_word := A_fits_word, a_weight_of := A_weight_of, a_is_within := A_is_within, a_loss_of := A_loss_of, a_least_of := A_least_of, a_fits_steps := A_fits_steps, a_need_number := A_need_number, a_need_most := A_need_most, a_fits_book := A_fits_book, a_first_bad := A_first_bad, a_far_apart := A_far_apart, a_need_book := A_need_book, a_is_book := A_is_book, a_shows := A_shows, a_bad_pair := A_bad_pair, a_sure_steps := A_sure_steps, a_mends := A_mends, a__law_drum := A__law_drum, a__law_roll := A__law_roll, a__law_some := A__law_some, a__law_word := A__law_word, a__law_all := A__law_all, a__law_near := A__law_near, a__law_book := A__law_book, a__law_odd := A__law_odd, a__law_bent := A__law_bent, a__law_names := A__law_names, a__law_error := A__law_error, a__law_is_book := A__law_is_book, a__law_judged := A__law_judged, a_law := A_law, a_TakenError := A_TakenError, a_InvalidStands := A_InvalidStands, a_InvalidWord := A_InvalidWord, a_InvalidNumber := A_InvalidNumber, a_InvalidBook := A_InvalidBook, a_InvalidWeights := A_InvalidWeights, a_InvalidIndex := A_InvalidIndex, a_InvalidPrices := A_InvalidPrices, a_InvalidCell := A_InvalidCell, a_InvalidText := A_InvalidText, a_Unlike := A_Unlike, a_Empty := A_Empty, a_NothingToUndo := A_NothingToUndo, a_TooMany := A_TooMany, c__law_judged := C__law_judged, p__law_judged := P__law_judged, c_law := C_law, p_law := P_law }
  have t : ∀ base : Heap, (∀ p ∈ ([(C__law_judged, P__law_judged), (C_law, P_law)] : List (Addr × Addr)), TabB base mg p.1 p.2) → Top K mg base a := fun base TB => {
    f_is_whole := f_is_whole,
    f_fits_word := f_fits_word,
    f_weight_of := f_weight_of,
    f_is_within := f_is_within,
    f_loss_of := f_loss_of,
    f_least_of := f_least_of,
    f_fits_steps := f_fits_steps,
    f_need_number := f_need_number,
    f_need_most := f_need_most,
    f_fits_book := f_fits_book,
    f_first_bad := f_first_bad,
    f_far_apart := f_far_apart,
    f_need_book := f_need_book,
    f_is_book := f_is_book,
    f_shows := f_shows,
    f_bad_pair := f_bad_pair,
    f_sure_steps := f_sure_steps,
    f_mends := f_mends,
    f__law_drum := f__law_drum,
    f__law_roll := f__law_roll,
    f__law_some := f__law_some,
    f__law_word := f__law_word,
    f__law_all := f__law_all,
    f__law_near := f__law_near,
    f__law_book := f__law_book,
    f__law_odd := f__law_odd,
    f__law_bent := f__law_bent,
    f__law_names := f__law_names,
    f__law_error := f__law_error,
    f__law_is_book := f__law_is_book,
    f__law_judged := f__law_judged,
    f_law := f_law,
    tb__law_judged := TB _ (.head _),
    u__law_judged := fun p hp e => by
      simp only [tp, List.mem_cons, List.not_mem_nil, or_false] at hp
      rcases hp with rfl | rfl
      · rfl
      · exact absurd (beq_iff_eq.mpr e) (by rw [ne_law__law_judged]; exact Bool.false_ne_true),
    tb_law := TB _ (.tail _ (.head _)),
    u_law := fun p hp e => by
      simp only [tp, List.mem_cons, List.not_mem_nil, or_false] at hp
      rcases hp with rfl | rfl
      · exact absurd (beq_iff_eq.mpr e) (by rw [ne__law_judged_law]; exact Bool.false_ne_true)
      · rfl,
    z_ValueError := PySem.W.mg_none_of X G z_ValueError,
    z_all := PySem.W.mg_none_of X G z_all,
    z_bool := PySem.W.mg_none_of X G z_bool,
    z_int := PySem.W.mg_none_of X G z_int,
    z_isinstance := PySem.W.mg_none_of X G z_isinstance,
    z_len := PySem.W.mg_none_of X G z_len,
    z_list := PySem.W.mg_none_of X G z_list,
    z_max := PySem.W.mg_none_of X G z_max,
    z_min := PySem.W.mg_none_of X G z_min,
    z_range := PySem.W.mg_none_of X G z_range,
    z_set := PySem.W.mg_none_of X G z_set,
    z_sorted := PySem.W.mg_none_of X G z_sorted,
    z_str := PySem.W.mg_none_of X G z_str,
    z_sum := PySem.W.mg_none_of X G z_sum,
    z_tuple := PySem.W.mg_none_of X G z_tuple,
    z_zip := PySem.W.mg_none_of X G z_zip,
    k_FIGURES := ⟨_, _, PySem.W.mg_of X G q_FIGURES, w_FIGURES⟩,
    k_FAR := hl_FAR,
    k_LONGEST := ⟨_, PySem.W.mg_of X G q_LONGEST⟩,
    k_MOST := ⟨_, PySem.W.mg_of X G q_MOST⟩,
    k_CELLS := ⟨_, PySem.W.mg_of X G q_CELLS⟩,
    m_TakenError := PySem.W.mg_of X G m_TakenError,
    m_InvalidStands := PySem.W.mg_of X G m_InvalidStands,
    m_InvalidWord := PySem.W.mg_of X G m_InvalidWord,
    m_InvalidNumber := PySem.W.mg_of X G m_InvalidNumber,
    m_InvalidBook := PySem.W.mg_of X G m_InvalidBook,
    m_InvalidWeights := PySem.W.mg_of X G m_InvalidWeights,
    m_InvalidIndex := PySem.W.mg_of X G m_InvalidIndex,
    m_InvalidPrices := PySem.W.mg_of X G m_InvalidPrices,
    m_InvalidCell := PySem.W.mg_of X G m_InvalidCell,
    m_InvalidText := PySem.W.mg_of X G m_InvalidText,
    m_Unlike := PySem.W.mg_of X G m_Unlike,
    m_Empty := PySem.W.mg_of X G m_Empty,
    m_NothingToUndo := PySem.W.mg_of X G m_NothingToUndo,
    m_TooMany := PySem.W.mg_of X G m_TooMany,
    x_InvalidNumber := x_InvalidNumber, k_InvalidNumber := kc_InvalidNumber, s_InvalidNumber := s_InvalidNumber, y_InvalidNumber := y_InvalidNumber,
    x_InvalidBook := x_InvalidBook, k_InvalidBook := kc_InvalidBook, s_InvalidBook := s_InvalidBook, y_InvalidBook := y_InvalidBook,
    e_InvalidNumber := e_InvalidNumber, q_InvalidNumber := qe_InvalidNumber,
    y_InvalidNumber_InvalidStands := y_InvalidNumber_InvalidStands,
    y_InvalidNumber_InvalidWord := y_InvalidNumber_InvalidWord,
    y_InvalidNumber_InvalidNumber := y_InvalidNumber_InvalidNumber,
    y_InvalidNumber_InvalidBook := y_InvalidNumber_InvalidBook,
    y_InvalidNumber_InvalidWeights := y_InvalidNumber_InvalidWeights,
    y_InvalidNumber_InvalidIndex := y_InvalidNumber_InvalidIndex,
    y_InvalidNumber_InvalidPrices := y_InvalidNumber_InvalidPrices,
    y_InvalidNumber_InvalidCell := y_InvalidNumber_InvalidCell,
    y_InvalidNumber_InvalidText := y_InvalidNumber_InvalidText,
    y_InvalidNumber_Unlike := y_InvalidNumber_Unlike,
    y_InvalidNumber_Empty := y_InvalidNumber_Empty,
    y_InvalidNumber_NothingToUndo := y_InvalidNumber_NothingToUndo,
    y_InvalidNumber_TooMany := y_InvalidNumber_TooMany,
    y_InvalidNumber_ValueError := y_InvalidNumber_ValueError,
    e_InvalidBook := e_InvalidBook, q_InvalidBook := qe_InvalidBook,
    y_InvalidBook_InvalidStands := y_InvalidBook_InvalidStands,
    y_InvalidBook_InvalidWord := y_InvalidBook_InvalidWord,
    y_InvalidBook_InvalidNumber := y_InvalidBook_InvalidNumber,
    y_InvalidBook_InvalidBook := y_InvalidBook_InvalidBook,
    y_InvalidBook_InvalidWeights := y_InvalidBook_InvalidWeights,
    y_InvalidBook_InvalidIndex := y_InvalidBook_InvalidIndex,
    y_InvalidBook_InvalidPrices := y_InvalidBook_InvalidPrices,
    y_InvalidBook_InvalidCell := y_InvalidBook_InvalidCell,
    y_InvalidBook_InvalidText := y_InvalidBook_InvalidText,
    y_InvalidBook_Unlike := y_InvalidBook_Unlike,
    y_InvalidBook_Empty := y_InvalidBook_Empty,
    y_InvalidBook_NothingToUndo := y_InvalidBook_NothingToUndo,
    y_InvalidBook_TooMany := y_InvalidBook_TooMany,
    y_InvalidBook_ValueError := y_InvalidBook_ValueError }
  obtain ⟨_, _, F, _⟩ := _root_.id f_law
  refine ⟨a, _, [(C__law_judged, P__law_judged), (C_law, P_law)], fun p hp => ?_, fun p hp => ?_, fun p hp => ?_, fun s v => .of_eq rfl, fun base _ _ TB => ok_law (t base TB) ⟨fun_mk l_law c_law k_law, rfl⟩⟩
  · simp only [List.mem_cons, List.not_mem_nil, or_false] at hp
    rcases hp with rfl | rfl
    · exact PySem.W.tab_of TT X dr__law_judged (tab_in2 a__law_judged l__law_judged lc__law_judged vp__law_judged)
    · exact PySem.W.tab_of TT X dr_law (tab_in2 a_law l_law lc_law vp_law)
  · simp only [List.mem_cons, List.not_mem_nil, or_false] at hp
    rcases hp with rfl | rfl
    · exact tn__law_judged
    · exact tn_law
  · simp only [tp, a, List.mem_cons, List.not_mem_nil, or_false] at hp
    rcases hp with rfl | rfl <;> simp
end DL
open PySem PySem.W PyProof.Rows
set_option maxHeartbeats 0 in
theorem PySem.Challenge.cw_onestaken_k02_books_known_holds : PySem.Challenge.rw_onestaken_k02_books_known.Holds := by
  w_on; o_law; k_head; (case hw => w_witness2)
  k_fill
  refine DL.walk_LT (l := PySem.Challenge.rw_onestaken_k02_books_known) (n := 63) (k := 47) (loose := _) (sp := DL.sp_law) (x := "script") DL.tp rfl (by decide) rfl ⟨rfl, by decide, by decide⟩ (fun w h Y => PySem.W.km_in_of Y) ?F (fun _ _ => rfl) (fun ns Q R h q => ⟨h, fun S => q S⟩)
  case F =>
    intro w mg mb lw mean fa h TT KX G hmg XX
    have hl_FAR : ∃ t, mg "FAR" = some (.int 1000000000000000000000000000000 t) := DL.loose_int XX (by first | exact List.mem_cons_self | simp)
    refine' DL.all_mk (y_FIGURES := "0123") TT KX G hmg hl_FAR ?a_is_whole ?l_is_whole ?c_is_whole ?k_is_whole ?a_fits_word ?l_fits_word ?c_fits_word ?k_fits_word ?a_weight_of ?l_weight_of ?c_weight_of ?k_weight_of ?a_is_within ?l_is_within ?c_is_within ?k_is_within ?a_loss_of ?l_loss_of ?c_loss_of ?k_loss_of ?a_least_of ?l_least_of ?c_least_of ?k_least_of ?a_fits_steps ?l_fits_steps ?c_fits_steps ?k_fits_steps ?a_need_number ?l_need_number ?c_need_number ?k_need_number ?a_need_most ?l_need_most ?c_need_most ?k_need_most ?a_fits_book ?l_fits_book ?c_fits_book ?k_fits_book ?a_first_bad ?l_first_bad ?c_first_bad ?k_first_bad ?a_far_apart ?l_far_apart ?c_far_apart ?k_far_apart ?a_need_book ?l_need_book ?c_need_book ?k_need_book ?a_is_book ?l_is_book ?c_is_book ?k_is_book ?a_shows ?l_shows ?c_shows ?k_shows ?a_bad_pair ?l_bad_pair ?c_bad_pair ?k_bad_pair ?a_sure_steps ?l_sure_steps ?c_sure_steps ?k_sure_steps ?a_mends ?l_mends ?c_mends ?k_mends ?a__law_drum ?l__law_drum ?c__law_drum ?k__law_drum ?a__law_roll ?l__law_roll ?c__law_roll ?k__law_roll ?a__law_some ?l__law_some ?c__law_some ?k__law_some ?a__law_word ?l__law_word ?c__law_word ?k__law_word ?a__law_all ?l__law_all ?c__law_all ?k__law_all ?a__law_near ?l__law_near ?c__law_near ?k__law_near ?a__law_book ?l__law_book ?c__law_book ?k__law_book ?a__law_odd ?l__law_odd ?c__law_odd ?k__law_odd ?a__law_bent ?l__law_bent ?c__law_bent ?k__law_bent ?a__law_names ?l__law_names ?c__law_names ?k__law_names ?a__law_error ?l__law_error ?c__law_error ?k__law_error ?a__law_is_book ?l__law_is_book ?c__law_is_book ?k__law_is_book ?a__law_judged ?l__law_judged ?c__law_judged ?k__law_judged ?a_law ?l_law ?c_law ?k_law ?dr__law_judged ?lc__law_judged ?vp__law_judged ?tn__law_judged ?dr_law ?lc_law ?vp_law ?tn_law ?ne__law_judged_law ?ne_law__law_judged ?z_ValueError ?z_all ?z_bool ?z_int ?z_isinstance ?z_len ?z_list ?z_max ?z_min ?z_range ?z_set ?z_sorted ?z_str ?z_sum ?z_tuple ?z_zip ?q_FIGURES ?w_FIGURES ?q_LONGEST ?q_MOST ?q_CELLS ?m_TakenError ?m_InvalidStands ?m_InvalidWord ?m_InvalidNumber ?m_InvalidBook ?m_InvalidWeights ?m_InvalidIndex ?m_InvalidPrices ?m_InvalidCell ?m_InvalidText ?m_Unlike ?m_Empty ?m_NothingToUndo ?m_TooMany ?x_InvalidNumber ?kc_InvalidNumber ?s_InvalidNumber ?y_InvalidNumber ?x_InvalidBook ?kc_InvalidBook ?s_InvalidBook ?y_InvalidBook ?e_InvalidNumber ?qe_InvalidNumber ?y_InvalidNumber_InvalidStands ?y_InvalidNumber_InvalidWord ?y_InvalidNumber_InvalidNumber ?y_InvalidNumber_InvalidBook ?y_InvalidNumber_InvalidWeights ?y_InvalidNumber_InvalidIndex ?y_InvalidNumber_InvalidPrices ?y_InvalidNumber_InvalidCell ?y_InvalidNumber_InvalidText ?y_InvalidNumber_Unlike ?y_InvalidNumber_Empty ?y_InvalidNumber_NothingToUndo ?y_InvalidNumber_TooMany ?y_InvalidNumber_ValueError ?e_InvalidBook ?qe_InvalidBook ?y_InvalidBook_InvalidStands ?y_InvalidBook_InvalidWord ?y_InvalidBook_InvalidNumber ?y_InvalidBook_InvalidBook ?y_InvalidBook_InvalidWeights ?y_InvalidBook_InvalidIndex ?y_InvalidBook_InvalidPrices ?y_InvalidBook_InvalidCell ?y_InvalidBook_InvalidText ?y_InvalidBook_Unlike ?y_InvalidBook_Empty ?y_InvalidBook_NothingToUndo ?y_InvalidBook_TooMany ?y_InvalidBook_ValueError
    (case a_is_whole => k_is); (case l_is_whole => k_is); (case c_is_whole => k_is); (case k_is_whole => k_is); (case a_fits_word => k_is); (case l_fits_word => k_is); (case c_fits_word => k_is); (case k_fits_word => k_is); (case a_weight_of => k_is); (case l_weight_of => k_is); (case c_weight_of => k_is); (case k_weight_of => k_is); (case a_is_within => k_is); (case l_is_within => k_is); (case c_is_within => k_is); (case k_is_within => k_is); (case a_loss_of => k_is); (case l_loss_of => k_is); (case c_loss_of => k_is); (case k_loss_of => k_is); (case a_least_of => k_is); (case l_least_of => k_is); (case c_least_of => k_is); (case k_least_of => k_is); (case a_fits_steps => k_is); (case l_fits_steps => k_is); (case c_fits_steps => k_is); (case k_fits_steps => k_is); (case a_need_number => k_is); (case l_need_number => k_is); (case c_need_number => k_is); (case k_need_number => k_is); (case a_need_most => k_is); (case l_need_most => k_is); (case c_need_most => k_is); (case k_need_most => k_is); (case a_fits_book => k_is); (case l_fits_book => k_is); (case c_fits_book => k_is); (case k_fits_book => k_is); (case a_first_bad => k_is); (case l_first_bad => k_is); (case c_first_bad => k_is); (case k_first_bad => k_is); (case a_far_apart => k_is); (case l_far_apart => k_is); (case c_far_apart => k_is); (case k_far_apart => k_is); (case a_need_book => k_is); (case l_need_book => k_is); (case c_need_book => k_is); (case k_need_book => k_is); (case a_is_book => k_is); (case l_is_book => k_is); (case c_is_book => k_is); (case k_is_book => k_is); (case a_shows => k_is); (case l_shows => k_is); (case c_shows => k_is); (case k_shows => k_is); (case a_bad_pair => k_is); (case l_bad_pair => k_is); (case c_bad_pair => k_is); (case k_bad_pair => k_is); (case a_sure_steps => k_is); (case l_sure_steps => k_is); (case c_sure_steps => k_is); (case k_sure_steps => k_is); (case a_mends => k_is); (case l_mends => k_is); (case c_mends => k_is); (case k_mends => k_is); (case a__law_drum => k_is); (case l__law_drum => k_is); (case c__law_drum => k_is); (case k__law_drum => k_is); (case a__law_roll => k_is); (case l__law_roll => k_is); (case c__law_roll => k_is); (case k__law_roll => k_is); (case a__law_some => k_is); (case l__law_some => k_is); (case c__law_some => k_is); (case k__law_some => k_is); (case a__law_word => k_is); (case l__law_word => k_is); (case c__law_word => k_is); (case k__law_word => k_is); (case a__law_all => k_is); (case l__law_all => k_is); (case c__law_all => k_is); (case k__law_all => k_is); (case a__law_near => k_is); (case l__law_near => k_is); (case c__law_near => k_is); (case k__law_near => k_is); (case a__law_book => k_is); (case l__law_book => k_is); (case c__law_book => k_is); (case k__law_book => k_is); (case a__law_odd => k_is); (case l__law_odd => k_is); (case c__law_odd => k_is); (case k__law_odd => k_is); (case a__law_bent => k_is); (case l__law_bent => k_is); (case c__law_bent => k_is); (case k__law_bent => k_is); (case a__law_names => k_is); (case l__law_names => k_is); (case c__law_names => k_is); (case k__law_names => k_is); (case a__law_error => k_is); (case l__law_error => k_is); (case c__law_error => k_is); (case k__law_error => k_is); (case a__law_is_book => k_is); (case l__law_is_book => k_is); (case c__law_is_book => k_is); (case k__law_is_book => k_is); (case a__law_judged => k_is); (case l__law_judged => k_is); (case c__law_judged => k_is); (case k__law_judged => k_is); (case a_law => k_is); (case l_law => k_is); (case c_law => k_is); (case k_law => k_is); (case dr__law_judged => rfl); (case lc__law_judged => k_is); (case vp__law_judged => rfl); (case tn__law_judged => kernel_rfl); (case dr_law => rfl); (case lc_law => k_is); (case vp_law => rfl); (case tn_law => kernel_rfl); (case ne__law_judged_law => rfl); (case ne_law__law_judged => rfl); (case z_ValueError => k_is); (case z_all => k_is); (case z_bool => k_is); (case z_int => k_is); (case z_isinstance => k_is); (case z_len => k_is); (case z_list => k_is); (case z_max => k_is); (case z_min => k_is); (case z_range => k_is); (case z_set => k_is); (case z_sorted => k_is); (case z_str => k_is); (case z_sum => k_is); (case z_tuple => k_is); (case z_zip => k_is); (case q_FIGURES => k_is); (case w_FIGURES => rfl); (case q_LONGEST => k_is); (case q_MOST => k_is); (case q_CELLS => k_is); (case m_TakenError => k_is); (case m_InvalidStands => k_is); (case m_InvalidWord => k_is); (case m_InvalidNumber => k_is); (case m_InvalidBook => k_is); (case m_InvalidWeights => k_is); (case m_InvalidIndex => k_is); (case m_InvalidPrices => k_is); (case m_InvalidCell => k_is); (case m_InvalidText => k_is); (case m_Unlike => k_is); (case m_Empty => k_is); (case m_NothingToUndo => k_is); (case m_TooMany => k_is); (case x_InvalidNumber => k_exc); (case kc_InvalidNumber => k_is); (case s_InvalidNumber => k_is); (case y_InvalidNumber => k_is); (case x_InvalidBook => k_exc); (case kc_InvalidBook => k_is); (case s_InvalidBook => k_is); (case y_InvalidBook => k_is); (case e_InvalidNumber => (refine ⟨?_, ?_, ?_, ?_, ?_, ?_, ?_, ?_⟩ <;> k_is)); (case qe_InvalidNumber => kts_exm); (case y_InvalidNumber_InvalidStands => kit_is); (case y_InvalidNumber_InvalidWord => kit_is); (case y_InvalidNumber_InvalidNumber => kit_is); (case y_InvalidNumber_InvalidBook => kit_is); (case y_InvalidNumber_InvalidWeights => kit_is); (case y_InvalidNumber_InvalidIndex => kit_is); (case y_InvalidNumber_InvalidPrices => kit_is); (case y_InvalidNumber_InvalidCell => kit_is); (case y_InvalidNumber_InvalidText => kit_is); (case y_InvalidNumber_Unlike => kit_is); (case y_InvalidNumber_Empty => kit_is); (case y_InvalidNumber_NothingToUndo => kit_is); (case y_InvalidNumber_TooMany => kit_is); (case y_InvalidNumber_ValueError => kit_is); (case e_InvalidBook => (refine ⟨?_, ?_, ?_, ?_, ?_, ?_, ?_, ?_⟩ <;> k_is)); (case qe_InvalidBook => kts_exm); (case y_InvalidBook_InvalidStands => kit_is); (case y_InvalidBook_InvalidWord => kit_is); (case y_InvalidBook_InvalidNumber => kit_is); (case y_InvalidBook_InvalidBook => kit_is); (case y_InvalidBook_InvalidWeights => kit_is); (case y_InvalidBook_InvalidIndex => kit_is); (case y_InvalidBook_InvalidPrices => kit_is); (case y_InvalidBook_InvalidCell => kit_is); (case y_InvalidBook_InvalidText => kit_is); (case y_InvalidBook_Unlike => kit_is); (case y_InvalidBook_Empty => kit_is); (case y_InvalidBook_NothingToUndo => kit_is); (case y_InvalidBook_TooMany => kit_is); (case y_InvalidBook_ValueError => kit_is)

