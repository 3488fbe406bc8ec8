import PyProof.Rows.All
import Wide.All
import OpenK.AllK
import Wide.FinOn
import HandS.ForMost
import HandS.Exc
import HandS.ExcOwn
import HandS.WordsExc
import HandS.Text
import HandS.StrMore
import HandS.Flow
import PyProof.StrBlock2
import HandS.RaiseMore
import HandS.ExcInit
import HandS.IsInst
import HandS.ExcField
import HandS.ExcIs
import KE.KExcIs
import HandS.Dict
import HandS.Style
import KE.IntTextLaws
import PySem.Challenge.RW_printwell_k21_wrong_places
set_option Elab.async false
set_option linter.all false
set_option maxRecDepth 100000
set_option maxHeartbeats 8000000
namespace Pw
open PySem PySem.Spec PyProof.Rows L2

/-! ### readings that run the model itself -/
def WE (X : Cx) (e : Expr) (σ : L2.St) (H : Hp) (R : VK) : Prop :=
  ∀ (pins : List (Addr × Obj)) (s : Shared), Inv X pins σ H s → wpAny (model X.prog X.w) X.A (eval e X.env) (EP X pins σ R) X.xe s
def WT (X : Cx) (e : Expr) (σ : L2.St) (H : Hp) (R : Bool → Hp → Prop) : Prop :=
  ∀ (pins : List (Addr × Obj)) (s : Shared), Inv X pins σ H s → wpAny (model X.prog X.w) X.A (isTrue e X.env (eval e X.env)) (TP X pins σ R) X.xe s
def WA (X : Cx) (es : List Expr) (σ : L2.St) (H : Hp) (R : List V → Hp → Prop) : Prop :=
  ∀ (pos : Pos) (pins : List (Addr × Obj)) (s : Shared), Inv X pins σ H s → wpAny (model X.prog X.w) X.A (spliced (backTo pos (starEach es X.env))) (AP X pins σ R) X.xe s
def WS (X : Cx) (st : Stmt) (D : Ends) (σ : L2.St) (H : Hp) : Prop :=
  ∀ (pins : List (Addr × Obj)) (s : Shared), Inv X pins σ H s → wpAny (model X.prog X.w) X.A (exec st X.env) (SP X pins D) X.xe s
def WSs (X : Cx) (ss : List Stmt) (D : Ends) (σ : L2.St) (H : Hp) : Prop :=
  ∀ (pins : List (Addr × Obj)) (s : Shared), Inv X pins σ H s → wpAny (model X.prog X.w) X.A (execs ss X.env) (SP X pins D) X.xe s
section
variable {X : Cx} {e : Expr} {es : List Expr} {st : Stmt} {ss : List Stmt} {σ : L2.St} {H : Hp}
theorem pe_we : PE X e (WE X e) := ⟨fun pins s _ _ _ I h => h pins s I⟩
theorem pt_wt : PT X e (WT X e) := ⟨fun pins s _ _ _ I h => h pins s I⟩
theorem pa_wa : PA X es (WA X es) := ⟨fun pos pins s _ _ _ I h => h pos pins s I⟩
theorem ps_ws : PS X st (WS X st) := ⟨fun pins s _ _ _ I h => h pins s I⟩
theorem pss_wss : PSs X ss (WSs X ss) := ⟨fun pins s _ _ _ I h => h pins s I⟩
theorem we_of {t : TE} {R : VK} (h : PE X e t) (q : t σ H R) : WE X e σ H R := fun pins s I => h.run pins s σ H R I q
theorem wt_of {t : TT} {R : Bool → Hp → Prop} (h : PT X e t) (q : t σ H R) : WT X e σ H R := fun pins s I => h.run pins s σ H R I q
theorem wa_of {t : TA} {R : List V → Hp → Prop} (h : PA X es t) (q : t σ H R) : WA X es σ H R := fun pos pins s I => h.run pos pins s σ H R I q
theorem ws_of {t : TS} {D : Ends} (h : PS X st t) (q : t D σ H) : WS X st D σ H := fun pins s I => h.run pins s σ H D I q
theorem wss_of {t : TS} {D : Ends} (h : PSs X ss t) (q : t D σ H) : WSs X ss D σ H := fun pins s I => h.run pins s σ H D I q
end

/-! ### data in a heap that only grows -/
section
variable {K : PySem.W.Frag} {B B' : Hp}
theorem rd_up (g : Same B B') {a : Addr} {u : HO} (h : Rd B a u) : Rd B' a u := by
  rcases h with h | ⟨o, h⟩
  · exact .inl (g _ _ h)
  · exact .inr ⟨o, g _ _ h⟩
theorem sqL_up (g : Same B B') {a : Addr} {xs : List V} (h : SqL K B a xs) : SqL K B' a xs := h.imp (rd_up g) id
theorem sqT_up (g : Same B B') {a : Addr} {xs : List V} (h : SqT K B a xs) : SqT K B' a xs := h.imp (rd_up g) id
/-- data at a value: lists and tuples that stand; the script as a dict of its numbers -/
def scrD (ns : List Int) : PyData := .dict (ns.map fun n => (.int n, .none))
/-- a caught exception that is kept: its class, its whole-number fields -/
def excD (C : Addr) (fs : List (Str × Int)) : PyData := .dict ((.str "", .int C) :: fs.map fun p => (.str p.1, .int p.2))
def kxO (a C : Addr) (d : Option Addr) : HO := .ext fun h => ∃ oe vs, h.get? a = some oe ∧ Zc (.ref C) d oe ∧ oe.data = .fields vs
mutual
inductive Dt (K : PySem.W.Frag) (B : Hp) : V → PyData → Prop
  | non : Dt K B .non .none
  | bl (b : Bool) : Dt K B (.bl b) (.bool b)
  | int (i : Int) : Dt K B (.int i) (.int i)
  | str (x : Str) : Dt K B (.str x) (.str x)
  | lst {a : Addr} {vs : List V} {ds : List PyData} : B a = some (.lst vs) → DtAll K B vs ds → Dt K B (.ref a) (.list ds)
  | tup {a : Addr} {vs : List V} {ds : List PyData} : B a = some (.tup vs) → DtAll K B vs ds → Dt K B (.ref a) (.tuple ds)
  | scr {a : Addr} {ns : List Int} : SqL K B a (ns.map V.int) → Dt K B (.ref a) (scrD ns)
  | exc {a C : Addr} {d : Option Addr} {fs : List (Str × Int)} : B a = some (kxO a C d) → (d = none ∧ fs = [] ∨ ∃ dx, d = some dx ∧ B dx = some (.xd (fs.map fun p => (p.1, V.int p.2)))) → Dt K B (.ref a) (excD C fs)
inductive DtAll (K : PySem.W.Frag) (B : Hp) : List V → List PyData → Prop
  | nil : DtAll K B [] []
  | cons {v : V} {vs : List V} {d : PyData} {ds : List PyData} : Dt K B v d → DtAll K B vs ds → DtAll K B (v :: vs) (d :: ds)
end
mutual
theorem dp_up (g : Same B B') : ∀ (d : PyData) (v : V), Dt K B v d → Dt K B' v d
  | .none, _, h => by cases h; exact .non
  | .bool b, _, h => by cases h; exact .bl b
  | .int i, _, h => by cases h; exact .int i
  | .str x, _, h => by cases h; exact .str x
  | .list ds, _, h => by
    cases h with
    | lst a b => exact .lst (g _ _ a) (dpAll_up g ds _ b)
  | .tuple ds, _, h => by
    cases h with
    | tup a b => exact .tup (g _ _ a) (dpAll_up g ds _ b)
  | .dict kvs, v, h => by
    generalize e : PyData.dict kvs = d at h
    cases h with
    | scr a => exact .scr (sqL_up g a)
    | exc a b => exact .exc (g _ _ a) (b.imp id fun ⟨dx, e1, e2⟩ => ⟨dx, e1, g _ _ e2⟩)
    | _ => cases e
theorem dpAll_up (g : Same B B') : ∀ (ds : List PyData) (vs : List V), DtAll K B vs ds → DtAll K B' vs ds
  | [], _, h => by cases h; exact .nil
  | d :: ds, _, h => by
    cases h with
    | cons a b => exact .cons (dp_up g d _ a) (dpAll_up g ds _ b)
end
theorem dpa_len {B : Hp} : ∀ {vs : List V} {ds : List PyData}, DtAll K B vs ds → vs.length = ds.length
  | _, _, .nil => rfl
  | _, _, .cons _ t => congrArg (· + 1) (dpa_len t)
theorem dpa_get {B : Hp} : ∀ {vs : List V} {ds : List PyData} {i : Nat} {d : PyData}, DtAll K B vs ds → ds[i]? = some d → ∃ v, vs[i]? = some v ∧ Dt K B v d
  | _, _, _, _, .nil, e => by simp at e
  | _, _, 0, _, .cons a _, e => ⟨_, rfl, by simp at e; subst e; exact a⟩
  | _, _, i + 1, d, .cons _ t, e => by
    obtain ⟨v, h1, h2⟩ := dpa_get (i := i) (d := d) t (by simpa using e)
    exact ⟨v, by simpa using h1, h2⟩
theorem dpa_app {B : Hp} : ∀ {vs ws : List V} {ds es : List PyData}, DtAll K B vs ds → DtAll K B ws es → DtAll K B (vs ++ ws) (ds ++ es)
  | _, _, _, _, .nil, s => s
  | _, _, _, _, .cons a t, s => .cons a (dpa_app t s)
theorem dpa_drop {B : Hp} : ∀ {vs : List V} {ds : List PyData} (n : Nat), DtAll K B vs ds → DtAll K B (vs.drop n) (ds.drop n)
  | _, _, 0, h => h
  | _, _, _ + 1, .nil => .nil
  | _, _, n + 1, .cons _ t => dpa_drop n t
theorem dpa_take {B : Hp} : ∀ {vs : List V} {ds : List PyData} (n : Nat), DtAll K B vs ds → DtAll K B (vs.take n) (ds.take n)
  | _, _, 0, _ => .nil
  | _, _, _ + 1, .nil => .nil
  | _, _, n + 1, .cons a t => .cons a (dpa_take n t)
theorem dpa_set {B : Hp} {v : V} {d : PyData} (r : Dt K B v d) : ∀ {vs : List V} {ds : List PyData} (i : Nat), DtAll K B vs ds → DtAll K B (vs.set i v) (ds.set i d)
  | _, _, _, .nil => .nil
  | _, _, 0, .cons _ t => .cons r t
  | _, _, i + 1, .cons a t => .cons a (dpa_set r i t)
theorem dpa_rev {B : Hp} {vs : List V} {ds : List PyData} (h : DtAll K B vs ds) : DtAll K B vs.reverse ds.reverse := by
  induction ds generalizing vs with
  | nil => cases h; exact .nil
  | cons d ds ih =>
    cases h with
    | cons a t => rw [List.reverse_cons, List.reverse_cons]; exact dpa_app (ih t) (.cons a .nil)
theorem dpa_strs {B : Hp} : ∀ {ns : List Str}, DtAll K B (ns.map V.str) (ns.map PyData.str)
  | [] => .nil
  | n :: _ => .cons (.str n) dpa_strs
theorem dpa_ints {B : Hp} : ∀ {ns : List Int}, DtAll K B (ns.map V.int) (ns.map PyData.int)
  | [] => .nil
  | n :: _ => .cons (.int n) dpa_ints
end

/-! ### what a slot may hold -/
abbrev Fs := List (Str × PyData)
/-- an object: where it stands, where its dict stands, its class -/
structure Ob where
  a : Addr
  dx : Addr
  C : Addr
inductive Ent where
  | val (d : PyData)
  | own (ds : List PyData)
  | obj (c : Ob) (fs : Fs)
def Ent.mu : Ent → Prop
  | .val _ => False
  | _ => True
def Ent.ob : Ent → Prop
  | .obj _ _ => True
  | _ => False
abbrev Ev := List (Option Ent)
def FsIs (K : PySem.W.Frag) (B : Hp) : List (Str × V) → Fs → Prop := Paired fun p q => p.1 = q.1 ∧ Dt K B p.2 q.2
def EntIs (K : PySem.W.Frag) (B H : Hp) (v : V) : Ent → Prop
  | .val d => Dt K B v d
  | .own ds => ∃ (l : Addr) (vs : List V), v = .ref l ∧ B l = none ∧ H l = some (.lst vs) ∧ DtAll K B vs ds
  | .obj c fs => ∃ (gs : List (Str × V)), v = .ref c.a ∧ B c.a = none ∧ H c.a = some (.ins c.C c.dx gs) ∧ FsIs K B gs fs

/-- B: the part of H that never changes; M: what may be written -/
structure Gr (M : Addr → Prop) (B H B' H' : Hp) : Prop where
  b : Same B B'
  bh : Same B' H'
  h : ∀ a o, ¬ M a → H a = some o → H' a = some o
  dom : ∀ a, H a ≠ none → H' a ≠ none
  nw : ∀ a, ¬ M a → H a ≠ none → B' a = B a
theorem Gr.refl {M : Addr → Prop} {B H : Hp} (g : Same B H) : Gr M B H B H := ⟨Same.refl B, g, fun _ _ _ h => h, fun _ h => h, fun _ _ _ => rfl⟩
theorem Gr.trans {M : Addr → Prop} {B H B1 H1 B2 H2 : Hp} (a : Gr M B H B1 H1) (b : Gr M B1 H1 B2 H2) : Gr M B H B2 H2 :=
  ⟨a.b.trans b.b, b.bh, fun c o n e => b.h c o n (a.h c o n e), fun c n => b.dom c (a.dom c n), fun c m n => (b.nw c m (a.dom c n)).trans (a.nw c m n)⟩
/-- a smaller licence, all that it allows being new or allowed -/
theorem Gr.trans' {M M' : Addr → Prop} {B H B1 H1 B2 H2 : Hp} (a : Gr M B H B1 H1) (b : Gr M' B1 H1 B2 H2) (m : ∀ c, M' c → H c = none ∨ M c) : Gr M B H B2 H2 :=
  ⟨a.b.trans b.b, b.bh, fun c o n e => by
    by_cases mc : M' c
    · rcases m c mc with z | z
      · rw [e] at z; cases z
      · exact absurd z n
    · exact b.h c o mc (a.h c o n e), fun c n => b.dom c (a.dom c n), fun c m' n => (b.nw c (fun mc => (m c mc).elim n m') (a.dom c n)).trans (a.nw c m' n)⟩

structure Og where
  B : Hp
  H : Hp
  M : Addr → Prop
  E : XK
structure Rep (K : PySem.W.Frag) (O : Og) (σ : L2.St) (ρ : Ev) (B H : Hp) : Prop where
  gr : Gr O.M O.B O.H B H
  len : σ.length = ρ.length
  ent : ∀ (i : Nat) (e : Ent), ρ[i]? = some (some e) → ∃ v, σ[i]? = some (some v) ∧ EntIs K B H v e ∧ (e.mu → ∃ l, v = .ref l ∧ (O.H l = none ∨ (O.M l ∧ e.ob)))
  sep : ∀ (i j : Nat) (ei ej : Ent) (v : V), ρ[i]? = some (some ei) → ρ[j]? = some (some ej) → ei.mu → ej.mu → σ[i]? = some (some v) → σ[j]? = some (some v) → i = j

section
variable {K : PySem.W.Frag} {O : Og} {σ : L2.St} {ρ : Ev} {B H B' H' : Hp}
theorem fsIs_up (g : Same B B') : ∀ {gs : List (Str × V)} {fs : Fs}, FsIs K B gs fs → FsIs K B' gs fs
  | _, _, .nil => .nil
  | _, _, .cons ⟨a, b⟩ t => .cons ⟨a, dp_up g _ _ b⟩ (fsIs_up g t)
/-- a mutable thing is there, and no part of what never changes -/
theorem entIs_mu {v : V} {e : Ent} (h : EntIs K B H v e) (m : e.mu) : ∃ l, v = .ref l ∧ B l = none ∧ H l ≠ none := by
  cases e with
  | val d => exact m.elim
  | own ds => obtain ⟨l, vs, e1, e2, e3, _⟩ := h; exact ⟨l, e1, e2, by rw [e3]; exact fun z => nomatch z⟩
  | obj c fs => obtain ⟨vs, e1, e2, e3, _⟩ := h; exact ⟨c.a, e1, e2, by rw [e3]; exact fun z => nomatch z⟩
/-- growth that leaves a mutable thing alone -/
theorem entIs_up {M : Addr → Prop} (g : Gr M B H B' H') {v : V} {e : Ent} (h : EntIs K B H v e) (m : ∀ l, e.mu → v = .ref l → ¬ M l) : EntIs K B' H' v e := by
  cases e with
  | val d => exact dp_up g.b _ _ h
  | own ds =>
    obtain ⟨l, vs, e1, e2, e3, e4⟩ := h
    exact ⟨l, vs, e1, (g.nw l (m l trivial e1) (by rw [e3]; exact fun z => nomatch z)).trans e2, g.h l _ (m l trivial e1) e3, dpAll_up g.b _ _ e4⟩
  | obj c fs =>
    obtain ⟨vs, e1, e2, e3, e4⟩ := h
    exact ⟨vs, e1, (g.nw c.a (m c.a trivial e1) (by rw [e3]; exact fun z => nomatch z)).trans e2, g.h c.a _ (m c.a trivial e1) e3, fsIs_up g.b e4⟩
theorem Rep.grow (r : Rep K O σ ρ B H) (g : Gr (fun _ => False) B H B' H') : Rep K O σ ρ B' H' where
  gr := r.gr.trans' g fun _ z => z.elim
  len := r.len
  ent := fun i e h => by
    obtain ⟨v, h1, h2, h3⟩ := r.ent i e h
    exact ⟨v, h1, entIs_up g h2 (fun _ _ _ z => z), h3⟩
  sep := r.sep
theorem Rep.sub (r : Rep K O σ ρ B H) : Same B H := r.gr.bh
/-- a new object, never to change -/
theorem gr_new {p : Addr} {o : HO} (g : Same B H) (hp : H p = none) : Gr (fun _ => False) B H (upd B p o) (upd H p o) := by
  have bp : B p = none := g.free hp
  refine ⟨fun a u e => ?_, fun a u e => ?_, fun a u _ e => ?_, fun a n => ?_, fun a _ n => ?_⟩
  · rw [upd_ne (ne_of_none e bp)]; exact e
  · by_cases ea : a = p
    · subst ea; rw [upd_same] at e ⊢; exact e
    · rw [upd_ne ea] at e ⊢; exact g a u e
  · rw [upd_ne (ne_of_none e hp)]; exact e
  · by_cases ea : a = p
    · subst ea; rw [upd_same]; exact fun z => nomatch z
    · rw [upd_ne ea]; exact n
  · by_cases ea : a = p
    · subst ea; exact absurd hp n
    · rw [upd_ne ea]
/-- a new object, to be changed later -/
theorem gr_newM {p : Addr} {o : HO} (g : Same B H) (hp : H p = none) : Gr (fun _ => False) B H B (upd H p o) := by
  refine ⟨Same.refl B, fun a u e => ?_, fun a u _ e => ?_, fun a n => ?_, fun _ _ _ => rfl⟩
  · rw [upd_ne (ne_of_none (g a u e) hp)]; exact g a u e
  · rw [upd_ne (ne_of_none e hp)]; exact e
  · by_cases ea : a = p
    · subst ea; rw [upd_same]; exact fun z => nomatch z
    · rw [upd_ne ea]; exact n
/-- a mutable object is written -/
theorem gr_wr {p : Addr} {o o' : HO} (g : Same B H) (hp : H p = some o') (bp : B p = none) : Gr (fun a => a = p) B H B (upd H p o) := by
  refine ⟨Same.refl B, fun a u e => ?_, fun a u n e => ?_, fun a n => ?_, fun _ _ _ => rfl⟩
  · rw [upd_ne (ne_of_none e bp)]; exact g a u e
  · rw [upd_ne n]; exact e
  · by_cases ea : a = p
    · subst ea; rw [upd_same]; exact fun z => nomatch z
    · rw [upd_ne ea]; exact n
/-- a mutable object becomes one that never changes -/
theorem gr_free {p : Addr} {o : HO} (g : Same B H) (hp : H p = some o) (bp : B p = none) : Gr (fun a => a = p) B H (upd B p o) H := by
  refine ⟨fun a u e => ?_, fun a u e => ?_, fun _ _ _ e => e, fun _ n => n, fun a m _ => by rw [upd_ne m]⟩
  · rw [upd_ne (ne_of_none e bp)]; exact e
  · by_cases ea : a = p
    · subst ea; rw [upd_same] at e; rw [hp]; exact e
    · rw [upd_ne ea] at e; exact g a u e
end
end Pw
namespace Pw
open PySem PySem.Spec PyProof.Rows L2

/-! ### the state's rules -/
section
variable {K : PySem.W.Frag} {O : Og} {σ : L2.St} {ρ : Ev} {B H B' H' : Hp}
theorem set_some {α : Type} {l : List (Option α)} {i j : Nat} {e e' : Option α} {x : α} (h : (l.set i e)[j]? = some (some x)) : (j = i ∧ e = some x) ∨ (j ≠ i ∧ l[j]? = some (some x)) := by
  by_cases c : j = i
  · subst c
    by_cases d : j < l.length
    · rw [List.getElem?_set_self d] at h
      exact .inl ⟨rfl, Option.some.inj h⟩
    · rw [List.getElem?_eq_none (by simpa using d)] at h; cases h
  · rw [List.getElem?_set_ne (Ne.symm c)] at h
    exact .inr ⟨c, h⟩
/-- the thing in slot i is written -/
theorem Rep.wr (r : Rep K O σ ρ B H) {i : Nat} {e e' : Ent} {p : Addr} (hi : ρ[i]? = some (some e)) (me : e.mu) (hs : σ[i]? = some (some (.ref p))) (g : Gr (fun a => a = p) B H B' H') (n : EntIs K B' H' (.ref p) e') (oo : e.ob → e'.ob) :
    Rep K O σ (ρ.set i (some e')) B' H' where
  gr := by
    obtain ⟨v, h1, h2, h3⟩ := r.ent i e hi
    rw [hs] at h1; cases h1
    obtain ⟨l, el, hl⟩ := h3 me
    cases el
    exact r.gr.trans' g fun c ec => by subst ec; exact hl.imp id (·.1)
  len := by rw [List.length_set]; exact r.len
  ent := fun j ej hj => by
    rcases set_some (e' := none) hj with ⟨rfl, e1⟩ | ⟨nj, hj'⟩
    · cases e1
      obtain ⟨v, h1, h2, h3⟩ := r.ent j e hi
      rw [hs] at h1; cases h1
      exact ⟨_, hs, n, fun _ => let ⟨l, el, hl⟩ := h3 me; ⟨l, el, hl.imp id fun z => ⟨z.1, oo z.2⟩⟩⟩
    · obtain ⟨v, h1, h2, h3⟩ := r.ent j ej hj'
      refine ⟨v, h1, entIs_up g h2 (fun l ml ev z => ?_), h3⟩
      subst z
      rw [ev] at h1
      exact nj (r.sep j i ej e (.ref l) hj' hi ml me h1 hs)
  sep := fun j k ej ek v hj hk mj mk sj sk => by
    rcases set_some (e' := none) hj with ⟨rfl, e1⟩ | ⟨nj, hj'⟩
    · rcases set_some (e' := none) hk with ⟨rfl, e2⟩ | ⟨nk, hk'⟩
      · rfl
      · exact r.sep j k e ek v hi hk' me mk sj sk
    · rcases set_some (e' := none) hk with ⟨rfl, e2⟩ | ⟨nk, hk'⟩
      · exact r.sep j k ej e v hj' hi mj me sj sk
      · exact r.sep j k ej ek v hj' hk' mj mk sj sk
/-- a value is stored in slot i -/
theorem Rep.set (r : Rep K O σ ρ B H) {i : Nat} {v : V} {d : PyData} (hv : Dt K B v d) : Rep K O (σ.set i (some v)) (ρ.set i (some (.val d))) B H where
  gr := r.gr
  len := by rw [List.length_set, List.length_set]; exact r.len
  ent := fun j ej hj => by
    rcases set_some (e' := none) hj with ⟨rfl, e1⟩ | ⟨nj, hj'⟩
    · cases e1
      have hl : j < σ.length := by
        have q := (List.getElem?_eq_some_iff.mp hj).1
        rw [List.length_set] at q; rw [r.len]; exact q
      exact ⟨v, List.getElem?_set_self hl, hv, fun z => z.elim⟩
    · obtain ⟨u, h1, h2, h3⟩ := r.ent j ej hj'
      exact ⟨u, by rw [List.getElem?_set_ne (Ne.symm nj)]; exact h1, h2, h3⟩
  sep := fun j k ej ek u hj hk mj mk sj sk => by
    rcases set_some (e' := none) hj with ⟨rfl, e1⟩ | ⟨nj, hj'⟩
    · cases e1; exact mj.elim
    · rcases set_some (e' := none) hk with ⟨rfl, e2⟩ | ⟨nk, hk'⟩
      · cases e2; exact mk.elim
      · rw [List.getElem?_set_ne (Ne.symm nj)] at sj
        rw [List.getElem?_set_ne (Ne.symm nk)] at sk
        exact r.sep j k ej ek u hj' hk' mj mk sj sk
/-- a new mutable thing is stored in slot i -/
theorem Rep.setM (r : Rep K O σ ρ B H) {i : Nat} {p : Addr} {e : Ent} (he : EntIs K B H (.ref p) e) (hp : O.H p = none) (hn : ∀ (j : Nat) (ej : Ent), ρ[j]? = some (some ej) → ej.mu → σ[j]? ≠ some (some (.ref p))) : Rep K O (σ.set i (some (.ref p))) (ρ.set i (some e)) B H where
  gr := r.gr
  len := by rw [List.length_set, List.length_set]; exact r.len
  ent := fun j ej hj => by
    rcases set_some (e' := none) hj with ⟨rfl, e1⟩ | ⟨nj, hj'⟩
    · cases e1
      have hl : j < σ.length := by
        have q := (List.getElem?_eq_some_iff.mp hj).1
        rw [List.length_set] at q; rw [r.len]; exact q
      exact ⟨_, List.getElem?_set_self hl, he, fun _ => ⟨p, rfl, .inl hp⟩⟩
    · obtain ⟨u, h1, h2, h3⟩ := r.ent j ej hj'
      exact ⟨u, by rw [List.getElem?_set_ne (Ne.symm nj)]; exact h1, h2, h3⟩
  sep := fun j k ej ek u hj hk mj mk sj sk => by
    have at_ : ∀ {j : Nat} {ej : Ent} {u : V}, (ρ.set i (some e))[j]? = some (some ej) → (σ.set i (some (.ref p)))[j]? = some (some u) → (j = i ∧ u = .ref p) ∨ (j ≠ i ∧ ρ[j]? = some (some ej) ∧ σ[j]? = some (some u)) := fun {j ej u} h1 h2 => by
      rcases set_some (e' := none) h1 with ⟨rfl, e1⟩ | ⟨nj, h1'⟩
      · rcases set_some (e' := none) h2 with ⟨_, e2⟩ | ⟨nj, h2'⟩
        · exact .inl ⟨rfl, (Option.some.inj e2).symm⟩
        · exact absurd rfl nj
      · rw [List.getElem?_set_ne (Ne.symm nj)] at h2
        exact .inr ⟨nj, h1', h2⟩
    rcases at_ hj sj with ⟨rfl, rfl⟩ | ⟨nj, hj', sj'⟩
    · rcases at_ hk sk with ⟨rfl, _⟩ | ⟨nk, hk', sk'⟩
      · rfl
      · exact absurd sk' (hn k ek hk' mk)
    · rcases at_ hk sk with ⟨rfl, rfl⟩ | ⟨nk, hk', sk'⟩
      · exact absurd sj' (hn j ej hj' mj)
      · exact r.sep j k ej ek u hj' hk' mj mk sj' sk'
/-- a slot is forgotten -/
theorem Rep.drop (r : Rep K O σ ρ B H) {i : Nat} {o : Option V} : Rep K O (σ.set i o) (ρ.set i none) B H where
  gr := r.gr
  len := by rw [List.length_set, List.length_set]; exact r.len
  ent := fun j ej hj => by
    rcases set_some (e' := none) hj with ⟨rfl, e1⟩ | ⟨nj, hj'⟩
    · cases e1
    · obtain ⟨u, h1, h2, h3⟩ := r.ent j ej hj'
      exact ⟨u, by rw [List.getElem?_set_ne (Ne.symm nj)]; exact h1, h2, h3⟩
  sep := fun j k ej ek u hj hk mj mk sj sk => by
    rcases set_some (e' := none) hj with ⟨rfl, e1⟩ | ⟨nj, hj'⟩
    · cases e1
    · rcases set_some (e' := none) hk with ⟨rfl, e2⟩ | ⟨nk, hk'⟩
      · cases e2
      · rw [List.getElem?_set_ne (Ne.symm nj)] at sj
        rw [List.getElem?_set_ne (Ne.symm nk)] at sk
        exact r.sep j k ej ek u hj' hk' mj mk sj sk
/-- the list in slot i is from now on a value -/
theorem Rep.rel (r : Rep K O σ ρ B H) {i : Nat} {ds : List PyData} (hi : ρ[i]? = some (some (.own ds))) : ∃ (l : Addr) (B' : Hp), σ[i]? = some (some (.ref l)) ∧ Gr (fun a => a = l) B H B' H ∧ Dt K B' (.ref l) (.list ds) ∧ Rep K O σ (ρ.set i (some (.val (.list ds)))) B' H := by
  obtain ⟨v, h1, ⟨l, vs, rfl, bl, hl, hd⟩, h3⟩ := r.ent i _ hi
  have g1 := gr_free (o := .lst vs) r.gr.bh hl bl
  obtain ⟨l', el, hO⟩ := h3 trivial
  cases el
  have hO' : O.H l = none := hO.resolve_right fun z => z.2.elim
  have d1 : Dt K (upd B l (.lst vs)) (.ref l) (.list ds) := .lst upd_same (dpAll_up g1.b _ _ hd)
  refine ⟨l, upd B l (.lst vs), h1, g1, d1, r.gr.trans' g1 (fun c e => .inl (by rw [e]; exact hO')), by rw [List.length_set]; exact r.len, fun j ej hj => ?_, fun j k ej ek u hj hk mj mk sj sk => ?_⟩
  · rcases set_some (e' := none) hj with ⟨rfl, e1⟩ | ⟨nj, hj'⟩
    · cases e1
      exact ⟨_, h1, d1, fun z => z.elim⟩
    · obtain ⟨u, s1, s2, s3⟩ := r.ent j ej hj'
      refine ⟨u, s1, entIs_up g1 s2 (fun m me eu z => ?_), s3⟩
      subst z
      rw [eu] at s1
      exact nj (r.sep j i _ _ (.ref m) hj' hi me trivial s1 h1)
  · rcases set_some (e' := none) hj with ⟨rfl, e1⟩ | ⟨nj, hj'⟩
    · cases e1; exact mj.elim
    · rcases set_some (e' := none) hk with ⟨rfl, e2⟩ | ⟨nk, hk'⟩
      · cases e2; exact mk.elim
      · exact r.sep j k ej ek u hj' hk' mj mk sj sk
/-- the addresses of what the slots hold to be changed -/
def Mu (σ : L2.St) (ρ : Ev) (a : Addr) : Prop := ∃ (i : Nat) (e : Ent), ρ[i]? = some (some e) ∧ e.mu ∧ σ[i]? = some (some (.ref a))
/-- one step of a run: what it may change, and that it takes nothing more -/
structure Stp (σ : L2.St) (ρ : Ev) (B H : Hp) (ρ' : Ev) (B' H' : Hp) : Prop where
  gr : Gr (Mu σ ρ) B H B' H'
  mu : ∀ a, Mu σ ρ' a → Mu σ ρ a
theorem Stp.b {ρ' : Ev} (s : Stp σ ρ B H ρ' B' H') : Same B B' := s.gr.b
theorem Stp.refl (r : Rep K O σ ρ B H) : Stp σ ρ B H ρ B H := ⟨Gr.refl r.gr.bh, fun _ h => h⟩
theorem Stp.trans {ρ1 ρ2 : Ev} {B1 H1 B2 H2 : Hp} (a : Stp σ ρ B H ρ1 B1 H1) (b : Stp σ ρ1 B1 H1 ρ2 B2 H2) : Stp σ ρ B H ρ2 B2 H2 :=
  ⟨a.gr.trans' b.gr fun c m => .inr (a.mu c m), fun c m => a.mu c (b.mu c m)⟩
theorem Stp.gro {ρ1 : Ev} {B1 H1 B2 H2 : Hp} (a : Stp σ ρ B H ρ1 B1 H1) (g : Gr (fun _ => False) B1 H1 B2 H2) : Stp σ ρ B H ρ1 B2 H2 :=
  ⟨a.gr.trans' g fun c m => m.elim, a.mu⟩
/-- slot i's thing is written -/
theorem Stp.wr {ρ1 : Ev} {B1 H1 B2 H2 : Hp} (a : Stp σ ρ B H ρ1 B1 H1) {i : Nat} {e : Ent} {e' : Ent} {p : Addr} (hi : ρ1[i]? = some (some e)) (me : e.mu) (hs : σ[i]? = some (some (.ref p))) (g : Gr (fun a => a = p) B1 H1 B2 H2) : Stp σ ρ B H (ρ1.set i (some e')) B2 H2 :=
  ⟨a.gr.trans' g fun c m => .inr (a.mu c (by subst m; exact ⟨i, e, hi, me, hs⟩)), fun c ⟨j, ej, hj, mj, sj⟩ => by
    rcases set_some (e' := none) hj with ⟨rfl, _⟩ | ⟨_, hj'⟩
    · exact a.mu c ⟨j, e, hi, me, sj⟩
    · exact a.mu c ⟨j, ej, hj', mj, sj⟩⟩
end
end Pw
namespace Pw
open PySem PySem.Spec PyProof.Rows L2

def XdIs (K : PySem.W.Frag) (H0 B H : Hp) (d : Option Addr) (xs : Fs) : Prop := (d = none ∧ xs = []) ∨ ∃ (dx : Addr) (gs : List (Str × V)), d = some dx ∧ H0 dx = none ∧ H dx = some (.xd gs) ∧ FsIs K B gs xs
theorem XdIs.old {K : PySem.W.Frag} {H1 B' H' : Hp} {d : Option Addr} {xs : Fs} (x : XdIs K H1 B' H' d xs) {M : Addr → Prop} {B H B1 : Hp} (g : Gr M B H B1 H1) : XdIs K H B' H' d xs := by
  rcases x with x | ⟨dx, gs, e, n, h, f⟩
  · exact .inl x
  · refine .inr ⟨dx, gs, e, ?_, h, f⟩
    cases q : H dx with
    | none => rfl
    | some o => exact absurd n (g.dom dx (by rw [q]; exact fun z => nomatch z))
abbrev Wx := Value → Fs → Prop
structure Wsh (O : Og) (X : Cx) (W : Wx) : Prop where
  tk : Takes X (fun cls d _ H => O.E cls d H)
  ok : ∀ (cls : Value) (xs : Fs) (d : Option Addr) (B' H' : Hp), W cls xs → Gr O.M O.B O.H B' H' → XdIs X.K O.H B' H' d xs → O.E cls d H'

/-! ### what an expression evaluates to, over data -/
def DE (X : Cx) (W : Wx) (e : Expr) (ρ : Ev) (Q : PyData → Ev → Prop) : Prop :=
  ∀ (O : Og) (σ : L2.St) (B H : Hp), Rep X.K O σ ρ B H → Wsh O X W → ∀ R : VK, (∀ d ρ' v B' H', Q d ρ' → Rep X.K O σ ρ' B' H' → Stp σ ρ B H ρ' B' H' → Dt X.K B' v d → R v H') → WE X e σ H R
def DT (X : Cx) (W : Wx) (e : Expr) (ρ : Ev) (Q : Bool → Ev → Prop) : Prop :=
  ∀ (O : Og) (σ : L2.St) (B H : Hp), Rep X.K O σ ρ B H → Wsh O X W → ∀ R : Bool → Hp → Prop, (∀ b ρ' B' H', Q b ρ' → Rep X.K O σ ρ' B' H' → Stp σ ρ B H ρ' B' H' → R b H') → WT X e σ H R
def DA (X : Cx) (W : Wx) (es : List Expr) (ρ : Ev) (Q : List PyData → Ev → Prop) : Prop :=
  ∀ (O : Og) (σ : L2.St) (B H : Hp), Rep X.K O σ ρ B H → Wsh O X W → ∀ R : List V → Hp → Prop, (∀ ds ρ' vs B' H', Q ds ρ' → Rep X.K O σ ρ' B' H' → Stp σ ρ B H ρ' B' H' → DtAll X.K B' vs ds → R vs H') → WA X es σ H R
/-- a new list that nobody else holds -/
def DL (X : Cx) (W : Wx) (e : Expr) (ρ : Ev) (Q : List PyData → Ev → Prop) : Prop :=
  ∀ (O : Og) (σ : L2.St) (B H : Hp), Rep X.K O σ ρ B H → Wsh O X W → ∀ R : VK, (∀ ds ρ' l vs B' H', Q ds ρ' → Rep X.K O σ ρ' B' H' → Stp σ ρ B H ρ' B' H' → H l = none → B' l = none → H' l = some (.lst vs) → DtAll X.K B' vs ds →
    (∀ (j : Nat) (ej : Ent), ρ'[j]? = some (some ej) → ej.mu → σ[j]? ≠ some (some (.ref l))) → R (.ref l) H') → WE X e σ H R
/-- a list or a tuple that stands -/
def DP (X : Cx) (W : Wx) (e : Expr) (ρ : Ev) (Q : List PyData → Ev → Prop) : Prop :=
  ∀ (O : Og) (σ : L2.St) (B H : Hp), Rep X.K O σ ρ B H → Wsh O X W → ∀ R : VK, (∀ ds ρ' a vs B' H', Q ds ρ' → Rep X.K O σ ρ' B' H' → Stp σ ρ B H ρ' B' H' → (SqL X.K B' a vs ∨ SqT X.K B' a vs) → DtAll X.K B' vs ds → R (.ref a) H') → WE X e σ H R

section
variable {X : Cx} {W : Wx} {a b c e : Expr} {es : List Expr} {ρ : Ev} {pos : Pos} {Q : PyData → Ev → Prop}
theorem de_mono {Q' : PyData → Ev → Prop} (h : DE X W e ρ Q) (m : ∀ d ρ', Q d ρ' → Q' d ρ') : DE X W e ρ Q' := fun O σ B H r w R k => h O σ B H r w R fun d ρ' v B' H' q => k d ρ' v B' H' (m d ρ' q)
theorem de_int {i : Int} {j : Nat} (k : Q (.int i) ρ) : DE X W (.Constant (.int i) j pos) ρ Q := fun O σ B H r w R q => we_of pe_int (q _ _ _ B H k r (Stp.refl r) (.int i))
theorem de_str {x : Str} {j : Nat} (k : Q (.str x) ρ) : DE X W (.Constant (.str x) j pos) ρ Q := fun O σ B H r w R q => we_of pe_str (q _ _ _ B H k r (Stp.refl r) (.str x))
theorem de_bl {x : Bool} {j : Nat} (k : Q (.bool x) ρ) : DE X W (.Constant (.bool x) j pos) ρ Q := fun O σ B H r w R q => we_of pe_bl (q _ _ _ B H k r (Stp.refl r) (.bl x))
theorem de_non {j : Nat} (k : Q .none ρ) : DE X W (.Constant .none j pos) ρ Q := fun O σ B H r w R q => we_of pe_non (q _ _ _ B H k r (Stp.refl r) .non)
/-- a name that holds a value -/
theorem de_var (i : Nat) {x : Str} {d : PyData} (h : ρ[i]? = some (some (.val d))) (k : Q d ρ) (hN : X.N[i]? = some x := by rfl) (hv : Vis X.env.scope x := by first | exact Or.inl rfl | exact Or.inr (Or.inl rfl) | exact Or.inr (Or.inr rfl))
    (hd : (x == ("__debug__" : Str)) = false := by decide) (hcd : (x == ("__classdict__" : Str)) = false := by decide) : DE X W (.Name x pos) ρ Q := fun O σ B H r w R q => by
  obtain ⟨v, h1, h2, _⟩ := r.ent i _ h
  exact we_of (pe_var hN hv hd hcd) ⟨v, h1, q _ _ _ B H k r (Stp.refl r) h2⟩
/-- a name that owns a list, which is from now on a value -/
theorem de_rel (i : Nat) {x : Str} {ds : List PyData} (h : ρ[i]? = some (some (.own ds))) (k : Q (.list ds) (ρ.set i (some (.val (.list ds))))) (hN : X.N[i]? = some x := by rfl) (hv : Vis X.env.scope x := by first | exact Or.inl rfl | exact Or.inr (Or.inl rfl) | exact Or.inr (Or.inr rfl))
    (hd : (x == ("__debug__" : Str)) = false := by decide) (hcd : (x == ("__classdict__" : Str)) = false := by decide) : DE X W (.Name x pos) ρ Q := fun O σ B H r w R q => by
  obtain ⟨l, B', h1, g, h2, r'⟩ := r.rel h
  exact we_of (pe_var hN hv hd hcd) ⟨_, h1, q _ _ _ B' H k r' ((Stp.refl r).wr h trivial h1 g) h2⟩
/-- a constant of the module -/
theorem de_glob {x : Str} {d : PyData} {v : V} {u : Value} (hm : X.mg x = some u) (rv : RelV v u) (hd : ∀ B, Dt X.K B v d) (k : Q d ρ) (hg : Gl X x := by rfl) (hdb : (x == ("__debug__" : Str)) = false := by decide) : DE X W (.Name x pos) ρ Q :=
  fun O σ B H r w R q => we_of (pe_glob hg hm rv hdb) (q _ _ _ B H k r (Stp.refl r) (hd B))

/-! ### operators -/
def OpD (X : Cx) (r : R2) (x y z : PyData) : Prop := ∀ (B H : Hp) (v u : V) (R : VK), Same B H → Dt X.K B v x → Dt X.K B u y → (∀ w B' H', Gr (fun _ => False) B H B' H' → Dt X.K B' w z → R w H') → r v u H R
theorem de_op {op : Operator} {r : R2} (ho : OpR X (binaryOp op) r) (h : DE X W a ρ fun x ρ1 => DE X W b ρ1 fun y ρ2 => ∃ z, OpD X r x y z ∧ Q z ρ2) : DE X W (.BinOp a op b pos) ρ Q := fun O σ B H rep ws R k =>
  we_of (pe_op ho pe_we pe_we) (h O σ B H rep ws _ fun x ρ1 v B1 H1 hb rep1 g1 dv => hb O σ B1 H1 rep1 ws _ fun y ρ2 u B2 H2 ⟨z, hz, q⟩ rep2 g2 du =>
    hz B2 H2 v u R rep2.sub (dp_up g2.b _ _ dv) du fun w B3 H3 g3 dw => k z ρ2 w B3 H3 q (rep2.grow g3) ((g1.trans g2).gro g3) dw)
theorem de_cmp {op : CmpOp} {r : R2} (ho : OpR X (compareOp op) r) (h : DE X W a ρ fun x ρ1 => DE X W b ρ1 fun y ρ2 => ∃ z, OpD X r x y z ∧ Q z ρ2) (hm : behindInMarks op b = false) : DE X W (.Compare a [op] [b] pos) ρ Q := fun O σ B H rep ws R k =>
  we_of (pe_cmpR ho pe_we pe_we hm) (h O σ B H rep ws _ fun x ρ1 v B1 H1 hb rep1 g1 dv => hb O σ B1 H1 rep1 ws _ fun y ρ2 u B2 H2 ⟨z, hz, q⟩ rep2 g2 du =>
    hz B2 H2 v u R rep2.sub (dp_up g2.b _ _ dv) du fun w B3 H3 g3 dw => k z ρ2 w B3 H3 q (rep2.grow g3) ((g1.trans g2).gro g3) dw)
theorem dt_cmp {op : CmpOp} {r : R2} {T : Bool → Ev → Prop} (ho : OpR X (compareOp op) r) (h : DE X W a ρ fun x ρ1 => DE X W b ρ1 fun y ρ2 => ∃ z, OpD X r x y (.bool z) ∧ T z ρ2) (hm : behindInMarks op b = false) : DT X W (.Compare a [op] [b] pos) ρ T := fun O σ B H rep ws R k =>
  wt_of (pt_cmpR ho pe_we pe_we hm) (h O σ B H rep ws _ fun x ρ1 v B1 H1 hb rep1 g1 dv => hb O σ B1 H1 rep1 ws _ fun y ρ2 u B2 H2 ⟨z, hz, q⟩ rep2 g2 du =>
    hz B2 H2 v u _ rep2.sub (dp_up g2.b _ _ dv) du fun w B3 H3 g3 dw => by
      cases dw
      exact ⟨z, rfl, k z ρ2 B3 H3 q (rep2.grow g3) ((g1.trans g2).gro g3)⟩)
theorem od_I0 {f : Int → Int → Int} {i j : Int} : OpD X (rI0 fun i j => .int (f i j)) (.int i) (.int j) (.int (f i j)) := fun B H v u R g dv du k => by
  cases dv; cases du
  exact ⟨i, j, rfl, rfl, k _ B H (Gr.refl g) (.int _)⟩
theorem od_I {C : Int → Int → Prop} {f : Int → Int → Int} {i j : Int} (hc : C i j) : OpD X (rI C fun i j => .int (f i j)) (.int i) (.int j) (.int (f i j)) := fun B H v u R g dv du k => by
  cases dv; cases du
  exact ⟨i, j, rfl, rfl, hc, k _ B H (Gr.refl g) (.int _)⟩
theorem od_B0 {f : Int → Int → Bool} {i j : Int} : OpD X (rI0 fun i j => .bl (f i j)) (.int i) (.int j) (.bool (f i j)) := fun B H v u R g dv du k => by
  cases dv; cases du
  exact ⟨i, j, rfl, rfl, k _ B H (Gr.refl g) (.bl _)⟩
def rCatS : R2 := fun x y H Q => ∃ i j, x = .str i ∧ y = .str j ∧ i.length + j.length ≤ sizeLine ∧ Q (.str (i ++ j)) H
theorem op_catS : OpR X (binaryOp .Add) rCatS := op_add_str
theorem od_catS {i j : Str} (h : i.length + j.length ≤ sizeLine) : OpD X rCatS (.str i) (.str j) (.str (i ++ j)) := fun B H v u R g dv du k => by
  cases dv; cases du
  exact ⟨i, j, rfl, rfl, h, k _ B H (Gr.refl g) (.str _)⟩
def rMulS : R2 := fun x y H Q => ∃ z n, x = .str z ∧ y = .int n ∧ MulOk z n ∧ Q (.str (Txt.mul z n)) H
theorem op_mulS : OpR X (binaryOp .Mult) rMulS := by
  intro pins s σ H x y v u Q I rx ry h
  obtain ⟨z, n, rfl, rfl, hz, q⟩ := h
  obtain ⟨t, rfl⟩ := rx
  obtain ⟨t', rfl⟩ := ry
  exact PySem.SB.mul hz fun t2 k => ⟨.str _, H, I.tok k, ⟨_, rfl⟩, q⟩
theorem od_mulS {z : Str} {n : Int} (h : MulOk z n) : OpD X rMulS (.str z) (.int n) (.str (Txt.mul z n)) := fun B H v u R g dv du k => by
  cases dv; cases du
  exact ⟨z, n, rfl, rfl, h, k _ B H (Gr.refl g) (.str _)⟩
/-- flat data -/
def flatD : PyData → Bool
  | .none => true
  | .bool _ => true
  | .int _ => true
  | .str _ => true
  | _ => false
def vOf : PyData → V
  | .none => .non
  | .bool b => .bl b
  | .int i => .int i
  | .str x => .str x
  | _ => .non
theorem dt_flat {K : PySem.W.Frag} {B : Hp} {v : V} {d : PyData} (h : Dt K B v d) (f : flatD d = true) : v = vOf d := by
  cases h <;> first | rfl | cases f
theorem od_eq {x y : PyData} (fx : flatD x = true) (fy : flatD y = true) (h : scal (vOf x) (vOf y) = true) : OpD X rEq x y (.bool (decide (vOf x = vOf y))) := fun B H v u R g dv du k => by
  obtain rfl := dt_flat dv fx
  obtain rfl := dt_flat du fy
  exact ⟨h, k _ B H (Gr.refl g) (.bl _)⟩
theorem od_ne {x y : PyData} (fx : flatD x = true) (fy : flatD y = true) (h : scal (vOf x) (vOf y) = true) : OpD X rNe x y (.bool (!decide (vOf x = vOf y))) := fun B H v u R g dv du k => by
  obtain rfl := dt_flat dv fx
  obtain rfl := dt_flat du fy
  exact ⟨h, k _ B H (Gr.refl g) (.bl _)⟩
/-! data compared as wholes -/
mutual
def noDict : PyData → Bool
  | .dict _ => false
  | .list ds => noDicts ds
  | .tuple ds => noDicts ds
  | _ => true
def noDicts : List PyData → Bool
  | [] => true
  | d :: r => noDict d && noDicts r
end
mutual
theorem dt_dp {K : PySem.W.Frag} {B H : Hp} (g : Same B H) : ∀ (d : PyData) (v : V), noDict d = true → Dt K B v d → Dp K H v d
  | .none, _, _, h => by cases h; exact .non
  | .bool b, _, _, h => by cases h; exact .bl b
  | .int i, _, _, h => by cases h; exact .int i
  | .str x, _, _, h => by cases h; exact .str x
  | .list ds, _, n, h => by
    cases h with
    | lst a b => exact .lst (SqL.of (g _ _ a)) (dt_dps g ds _ n b)
  | .tuple ds, _, n, h => by
    cases h with
    | tup a b => exact .tup (SqT.of (g _ _ a)) (dt_dps g ds _ n b)
  | .dict _, _, n, h => by cases n
theorem dt_dps {K : PySem.W.Frag} {B H : Hp} (g : Same B H) : ∀ (ds : List PyData) (vs : List V), noDicts ds = true → DtAll K B vs ds → DpAll K H vs ds
  | [], _, _, h => by cases h; exact .nil
  | d :: ds, _, n, h => by
    cases h with
    | cons a b =>
      have n' := Bool.and_eq_true_iff.mp n
      exact .cons (dt_dp g d _ n'.1 a) (dt_dps g ds _ n'.2 b)
end
structure Whole (d : PyData) : Prop where
  nd : noDict d = true
  sh : SeqAt.shaped d = true
theorem od_eqD {x y : PyData} (hx : Whole x) (hy : Whole y) : OpD X (rEqD X.K) x y (.bool (PyData.eqv x y)) := fun B H v u R g dv du k =>
  ⟨x, y, dt_dp g _ _ hx.nd dv, dt_dp g _ _ hy.nd du, hx.sh, hy.sh, k _ B H (Gr.refl g) (.bl _)⟩
theorem od_neD {x y : PyData} (hx : Whole x) (hy : Whole y) : OpD X (rNeD X.K) x y (.bool (!PyData.eqv x y)) := fun B H v u R g dv du k =>
  ⟨x, y, dt_dp g _ _ hx.nd dv, dt_dp g _ _ hy.nd du, hx.sh, hy.sh, k _ B H (Gr.refl g) (.bl _)⟩
/-! in, not in -/
theorem dts_flat {K : PySem.W.Frag} {B : Hp} : ∀ {vs : List V} {ds : List PyData}, DtAll K B vs ds → ds.all flatD = true → vs = ds.map vOf
  | _, _, .nil, _ => rfl
  | _, _, .cons a t, f => by
    have f' := Bool.and_eq_true_iff.mp (by rw [List.all_cons] at f; exact f)
    rw [List.map_cons, dt_flat a f'.1, dts_flat t f'.2]
theorem flat_vOf {d : PyData} (f : flatD d = true) : flatV (vOf d) = true := by cases d <;> first | rfl | cases f
theorem flats_vOf : ∀ {ds : List PyData}, ds.all flatD = true → (ds.map vOf).all flatV = true
  | [], _ => rfl
  | d :: ds, f => by
    have f' := Bool.and_eq_true_iff.mp (by rw [List.all_cons] at f; exact f)
    rw [List.map_cons, List.all_cons, flat_vOf f'.1, flats_vOf f'.2]; rfl
theorem od_inT {neg : Bool} {x : PyData} {ds : List PyData} (fx : flatD x = true) (fy : ds.all flatD = true) : OpD X (rIn X.K neg) x (.tuple ds) (.bool (if neg then !inV (vOf x) (ds.map vOf) else inV (vOf x) (ds.map vOf))) := fun B H v u R g dv du k => by
  obtain rfl := dt_flat dv fx
  cases du with
  | tup hb hd =>
    obtain rfl := dts_flat hd fy
    exact ⟨_, _, rfl, .inr (SqT.of (g _ _ hb)), flat_vOf fx, flats_vOf fy, k _ B H (Gr.refl g) (.bl _)⟩
def rInS (neg : Bool) : R2 := fun x y H Q => ∃ (c : Nat) (z : Str), x = .str ⟨#[c]⟩ ∧ y = .str z ∧ Q (.bl (if neg then !decide (c ∈ z.cps.toList) else decide (c ∈ z.cps.toList))) H
theorem op_inS : OpR X (compareOp .In) (rInS false) := op_in_sign
theorem op_niS : OpR X (compareOp .NotIn) (rInS true) := op_notIn_sign
theorem od_inS {neg : Bool} {c : Nat} {z : Str} : OpD X (rInS neg) (.str ⟨#[c]⟩) (.str z) (.bool (if neg then !decide (c ∈ z.cps.toList) else decide (c ∈ z.cps.toList))) := fun B H v u R g dv du k => by
  cases dv; cases du
  exact ⟨c, z, rfl, rfl, k _ B H (Gr.refl g) (.bl _)⟩
theorem de_neg (h : DE X W a ρ fun x ρ1 => ∃ i, x = .int i ∧ Q (.int (-i)) ρ1) : DE X W (.UnaryOp .USub a pos) ρ Q := fun O σ B H rep ws R k =>
  we_of (pe_un un_neg pe_we) (h O σ B H rep ws _ fun x ρ1 v B1 H1 ⟨i, ex, q⟩ rep1 g1 dv => by
    subst ex; cases dv
    exact ⟨i, rfl, k _ _ _ B1 H1 q rep1 g1 (.int _)⟩)

/-! ### tests -/
variable {T : Bool → Ev → Prop}
theorem dt_val (h : DE X W e ρ fun x ρ1 => ∃ b, x = .bool b ∧ T b ρ1) (he : ∀ whole, isTrue e X.env whole = (do let v ← whole; standAt e.pos; holding [v] (truthy v)) := by intro _; rfl) : DT X W e ρ T := fun O σ B H rep ws R k =>
  wt_of (pt_val pe_we he) (h O σ B H rep ws _ fun x ρ1 v B1 H1 ⟨b, ex, q⟩ rep1 g1 dv => by
    subst ex; cases dv
    exact ⟨b, rfl, k b ρ1 B1 H1 q rep1 g1⟩)
/-- a value's truth -/
def truD : PyData → Bool
  | .none => false
  | .bool b => b
  | .int i => i != 0
  | .str x => (x.length : Int) != 0
  | .list ds => !ds.isEmpty
  | .tuple ds => !ds.isEmpty
  | .dict kvs => !kvs.isEmpty
def shortD : PyData → Prop
  | .dict ((.str _, _) :: _) => False
  | .str x => x.length ≤ sizeLine
  | _ => True
theorem short_scr {ns : List Int} : shortD (scrD ns) := by cases ns <;> exact trivial
theorem isEmpty_dt {K : PySem.W.Frag} {B : Hp} {vs : List V} {ds : List PyData} (h : DtAll K B vs ds) : vs.isEmpty = ds.isEmpty := by cases h <;> rfl
theorem truV_of {K : PySem.W.Frag} {B H : Hp} {v : V} {d : PyData} (g : Same B H) (h : Dt K B v d) (s : shortD d) : TruV K v H (truD d) := by
  cases h with
  | non => rfl
  | bl b => rfl
  | int i => rfl
  | str x => exact ⟨s, rfl⟩
  | lst a b => exact .inl ⟨_, SqL.of (g _ _ a), by rw [isEmpty_dt b]; rfl⟩
  | tup a b => exact .inr (.inl ⟨_, SqT.of (g _ _ a), by rw [isEmpty_dt b]; rfl⟩)
  | @scr a ns hs => exact .inl ⟨_, sqL_up g hs, by cases ns <;> rfl⟩
  | exc a b => exact s.elim
theorem dt_tru (h : DE X W e ρ fun x ρ1 => shortD x ∧ T (truD x) ρ1) (he : ∀ whole, isTrue e X.env whole = (do let v ← whole; standAt e.pos; holding [v] (truthy v)) := by intro _; rfl) : DT X W e ρ T := fun O σ B H rep ws R k =>
  wt_of (pt_truth pe_we he) (h O σ B H rep ws _ fun x ρ1 v B1 H1 ⟨s, q⟩ rep1 g1 dv => ⟨_, truV_of rep1.sub dv s, k _ ρ1 B1 H1 q rep1 g1⟩)
/-- a name that owns a list, as a test -/
theorem dt_own (i : Nat) {x : Str} {ds : List PyData} (h : ρ[i]? = some (some (.own ds))) (k : T (!ds.isEmpty) ρ) (hN : X.N[i]? = some x := by rfl) (hv : Vis X.env.scope x := by first | exact Or.inl rfl | exact Or.inr (Or.inl rfl) | exact Or.inr (Or.inr rfl))
    (hd : (x == ("__debug__" : Str)) = false := by decide) (hcd : (x == ("__classdict__" : Str)) = false := by decide) : DT X W (.Name x pos) ρ T := fun O σ B H r w R q => by
  obtain ⟨v, h1, ⟨l, vs, rfl, _, hl, hd'⟩, _⟩ := r.ent i _ h
  exact wt_of (pt_truth (pe_var hN hv hd hcd) (by intro _; rfl)) ⟨_, h1, _, .inl ⟨_, SqL.of hl, by rw [isEmpty_dt hd']⟩, q _ _ B H k r (Stp.refl r)⟩
theorem dt_not (h : DT X W a ρ fun b ρ1 => T (!b) ρ1) : DT X W (.UnaryOp .Not a pos) ρ T := fun O σ B H rep ws R k =>
  wt_of (pt_not pt_wt) (h O σ B H rep ws _ fun b ρ1 B1 H1 q rep1 g1 => k _ ρ1 B1 H1 q rep1 g1)
variable {rest : List Expr}
end
end Pw
namespace Pw
open PySem PySem.Spec PyProof.Rows L2

def WW (X : Cx) (e : Expr) (σ : L2.St) (H : Hp) (R : Bool → Hp → Prop) : Prop :=
  ∀ (whole : Sem Value) (pins : List (Addr × Obj)) (s : Shared), Inv X pins σ H s → wpAny (model X.prog X.w) X.A (isTrue e X.env whole) (TP X pins σ R) X.xe s
def DW (X : Cx) (W : Wx) (e : Expr) (ρ : Ev) (T : Bool → Ev → Prop) : Prop :=
  ∀ (O : Og) (σ : L2.St) (B H : Hp), Rep X.K O σ ρ B H → Wsh O X W → ∀ R : Bool → Hp → Prop, (∀ b ρ' B' H', T b ρ' → Rep X.K O σ ρ' B' H' → Stp σ ρ B H ρ' B' H' → R b H') → WW X e σ H R
section
variable {X : Cx} {W : Wx} {a b c e : Expr} {es : List Expr} {ρ : Ev} {pos : Pos} {Q : PyData → Ev → Prop} {T : Bool → Ev → Prop} {rest : List Expr} {QA : List PyData → Ev → Prop}
theorem pw_ww : PW X e (WW X e) := ⟨fun wh pins s _ _ _ I h => h wh pins s I⟩
theorem ww_of {t : TT} {σ : L2.St} {H : Hp} {R : Bool → Hp → Prop} (h : PW X e t) (q : t σ H R) : WW X e σ H R := fun wh pins s I => h.run wh pins s σ H R I q
theorem dw_and1 (h : DT X W a ρ T) : DW X W (.BoolOp .And [a] pos) ρ T := fun O σ B H rep ws R k => ww_of (pw_and1 pt_wt) (h O σ B H rep ws R k)
theorem dw_or1 (h : DT X W a ρ T) : DW X W (.BoolOp .Or [a] pos) ρ T := fun O σ B H rep ws R k => ww_of (pw_or1 pt_wt) (h O σ B H rep ws R k)
theorem dw_and (h : DT X W a ρ fun k ρ1 => if k = true then DW X W (.BoolOp .And (b :: rest) pos) ρ1 T else T false ρ1) : DW X W (.BoolOp .And (a :: b :: rest) pos) ρ T := fun O σ B H rep ws R k =>
  ww_of (pw_and pt_wt pw_ww) (h O σ B H rep ws _ fun x ρ1 B1 H1 q rep1 g1 => by
    cases x with
    | true => exact q O σ B1 H1 rep1 ws R fun y ρ2 B2 H2 q2 rep2 g2 => k y ρ2 B2 H2 q2 rep2 (g1.trans g2)
    | false => exact k false ρ1 B1 H1 q rep1 g1)
theorem dw_or (h : DT X W a ρ fun k ρ1 => if k = true then T true ρ1 else DW X W (.BoolOp .Or (b :: rest) pos) ρ1 T) : DW X W (.BoolOp .Or (a :: b :: rest) pos) ρ T := fun O σ B H rep ws R k =>
  ww_of (pw_or pt_wt pw_ww) (h O σ B H rep ws _ fun x ρ1 B1 H1 q rep1 g1 => by
    cases x with
    | false => exact q O σ B1 H1 rep1 ws R fun y ρ2 B2 H2 q2 rep2 g2 => k y ρ2 B2 H2 q2 rep2 (g1.trans g2)
    | true => exact k true ρ1 B1 H1 q rep1 g1)
theorem dt_w (h : DW X W e ρ T) : DT X W e ρ T := fun O σ B H rep ws R k => wt_of (PW.pt pw_ww) (h O σ B H rep ws R k)
/-! and, or as values (truths) -/
theorem de_one {op : BoolOp} (h : DE X W a ρ Q) : DE X W (.BoolOp op [a] pos) ρ Q := fun O σ B H rep ws R k => we_of (pe_one pe_we) (h O σ B H rep ws R k)
theorem de_and (h : DE X W a ρ fun x ρ1 => ∃ k, x = .bool k ∧ if k = true then DE X W (.BoolOp .And (b :: rest) pos) ρ1 Q else Q (.bool false) ρ1) : DE X W (.BoolOp .And (a :: b :: rest) pos) ρ Q := fun O σ B H rep ws R k =>
  we_of (pe_and pe_we pe_we) (h O σ B H rep ws _ fun x ρ1 v B1 H1 ⟨y, ex, q⟩ rep1 g1 dv => by
    subst ex; cases dv
    refine ⟨y, rfl, ?_⟩
    cases y with
    | true => exact q O σ B1 H1 rep1 ws R fun z ρ2 v2 B2 H2 q2 rep2 g2 d2 => k z ρ2 v2 B2 H2 q2 rep2 (g1.trans g2) d2
    | false => exact k _ ρ1 _ B1 H1 q rep1 g1 (.bl false))
theorem de_or (h : DE X W a ρ fun x ρ1 => ∃ k, x = .bool k ∧ if k = true then Q (.bool true) ρ1 else DE X W (.BoolOp .Or (b :: rest) pos) ρ1 Q) : DE X W (.BoolOp .Or (a :: b :: rest) pos) ρ Q := fun O σ B H rep ws R k =>
  we_of (pe_or pe_we pe_we) (h O σ B H rep ws _ fun x ρ1 v B1 H1 ⟨y, ex, q⟩ rep1 g1 dv => by
    subst ex; cases dv
    refine ⟨y, rfl, ?_⟩
    cases y with
    | false => exact q O σ B1 H1 rep1 ws R fun z ρ2 v2 B2 H2 q2 rep2 g2 d2 => k z ρ2 v2 B2 H2 q2 rep2 (g1.trans g2) d2
    | true => exact k _ ρ1 _ B1 H1 q rep1 g1 (.bl true))
theorem de_not (h : DE X W a ρ fun x ρ1 => ∃ k, x = .bool k ∧ Q (.bool (!k)) ρ1) : DE X W (.UnaryOp .Not a pos) ρ Q := fun O σ B H rep ws R k =>
  we_of (pe_not pe_we) (h O σ B H rep ws _ fun x ρ1 v B1 H1 ⟨y, ex, q⟩ rep1 g1 dv => by
    subst ex; cases dv
    exact ⟨y, rfl, k _ ρ1 _ B1 H1 q rep1 g1 (.bl _)⟩)
theorem de_if (h : DT X W c ρ fun k ρ1 => if k = true then DE X W a ρ1 Q else DE X W b ρ1 Q) : DE X W (.IfExp c a b pos) ρ Q := fun O σ B H rep ws R k =>
  we_of (pe_ifExp pt_wt pe_we pe_we) (h O σ B H rep ws _ fun x ρ1 B1 H1 q rep1 g1 => by
    cases x with
    | true => exact q O σ B1 H1 rep1 ws R fun z ρ2 v2 B2 H2 q2 rep2 g2 d2 => k z ρ2 v2 B2 H2 q2 rep2 (g1.trans g2) d2
    | false => exact q O σ B1 H1 rep1 ws R fun z ρ2 v2 B2 H2 q2 rep2 g2 d2 => k z ρ2 v2 B2 H2 q2 rep2 (g1.trans g2) d2)

/-! ### argument lists, displays -/
theorem da_nil (k : QA [] ρ) : DA X W [] ρ QA := fun O σ B H rep ws R q => wa_of pa_nil (q _ _ _ B H k rep (Stp.refl rep) .nil)
theorem da_cons (h : DE X W e ρ fun x ρ1 => DA X W es ρ1 fun xs ρ2 => QA (x :: xs) ρ2) (hs : starEach (e :: es) X.env = (false, eval e X.env) :: starEach es X.env := by rfl) : DA X W (e :: es) ρ QA := fun O σ B H rep ws R k =>
  wa_of (pa_cons pe_we pa_wa hs) (h O σ B H rep ws _ fun x ρ1 v B1 H1 ha rep1 g1 dv => ha O σ B1 H1 rep1 ws _ fun xs ρ2 vs B2 H2 q rep2 g2 dvs =>
    k _ ρ2 _ B2 H2 q rep2 (g1.trans g2) (.cons (dp_up g2.b _ _ dv) dvs))
theorem de_tup {x1} (h : DA X W es ρ fun ds ρ1 => ds.length ≤ sizeLine ∧ Q (.tuple ds) ρ1) : DE X W (.Tuple es x1 pos) ρ Q := fun O σ B H rep ws R k =>
  we_of (pe_tup pa_wa) (h O σ B H rep ws _ fun ds ρ1 vs B1 H1 ⟨hl, q⟩ rep1 g1 dvs => ⟨by rw [dpa_len dvs]; exact hl, fun p hp => by
    have g := gr_new (o := .tup vs) rep1.sub hp
    exact k _ ρ1 _ _ _ q (rep1.grow g) (g1.gro g) (.tup upd_same (dpAll_up g.b _ _ dvs))⟩)
/-- the fresh list's place -/
theorem dl_new {O : Og} {σ : L2.St} {ρ' : Ev} {B H B' H' : Hp} {QL : List PyData → Ev → Prop} {R : VK} {ds : List PyData} {vs : List V}
    (k : ∀ ds ρ' l vs B' H', QL ds ρ' → Rep X.K O σ ρ' B' H' → Stp σ ρ B H ρ' B' H' → H l = none → B' l = none → H' l = some (.lst vs) → DtAll X.K B' vs ds →
    (∀ (j : Nat) (ej : Ent), ρ'[j]? = some (some ej) → ej.mu → σ[j]? ≠ some (some (.ref l))) → R (.ref l) H') (rep : Rep X.K O σ ρ' B' H') (g : Stp σ ρ B H ρ' B' H') (d : DtAll X.K B' vs ds) (q : QL ds ρ') {p : Addr} (hp : H' p = none) : R (.ref p) (upd H' p (.lst vs)) := by
  have gr := gr_newM (o := .lst vs) rep.sub hp
  refine k ds ρ' p vs B' _ q (rep.grow gr) (g.gro gr) ?_ (rep.sub.free hp) upd_same d fun j ej hj mj hs => ?_
  · cases e : H p with
    | none => rfl
    | some o => exact absurd hp (g.gr.dom p (by rw [e]; exact fun z => nomatch z))
  · obtain ⟨v, h1, h2, _⟩ := rep.ent j ej hj
    obtain ⟨l, el, _, hl⟩ := entIs_mu h2 mj
    rw [hs] at h1; cases h1
    cases el
    exact hl hp
theorem Rep.freshO {O : Og} {σ : L2.St} {B H : Hp} {K : PySem.W.Frag} (rep : Rep K O σ ρ B H) {l : Addr} (h : H l = none) : O.H l = none := by
  cases e : O.H l with
  | none => rfl
  | some o => exact absurd h (rep.gr.dom l (by rw [e]; exact fun z => nomatch z))
variable {QL : List PyData → Ev → Prop}
theorem dl_lst (h : DA X W es ρ fun ds ρ1 => ds.length ≤ sizeLine ∧ QL ds ρ1) : DL X W (.List es pos) ρ QL := fun O σ B H rep ws R k =>
  we_of (pe_lst pa_wa) (h O σ B H rep ws _ fun ds ρ1 vs B1 H1 ⟨hl, q⟩ rep1 g1 dvs => ⟨by rw [dpa_len dvs]; exact hl, fun p hp => dl_new k rep1 g1 dvs q hp⟩)
/-- a new list, kept as a value -/
theorem de_new (h : DL X W e ρ fun ds ρ1 => Q (.list ds) ρ1) : DE X W e ρ Q := fun O σ B H rep ws R k =>
  h O σ B H rep ws R fun ds ρ' l vs B' H' q rep1 g1 o1 b1 h1 d1 n1 => by
    have g2 := gr_free (o := .lst vs) rep1.sub h1 b1
    have hO := rep.freshO o1
    refine k _ ρ' _ (upd B' l (.lst vs)) H' q ⟨rep1.gr.trans' g2 (fun c e => .inl (by rw [e]; exact hO)), rep1.len, fun i ei hi => ?_, rep1.sep⟩ ⟨g1.gr.trans' g2 (fun c e => .inl (by rw [e]; exact o1)), g1.mu⟩ (.lst upd_same (dpAll_up g2.b _ _ d1))
    obtain ⟨v, s1, s2, s3⟩ := rep1.ent i ei hi
    refine ⟨v, s1, entIs_up g2 s2 (fun m me ev z => ?_), s3⟩
    subst z
    exact n1 i ei hi me (by rw [s1, ev])

/-! ### lists and tuples that stand -/
theorem dp_list (h : DE X W e ρ fun x ρ1 => ∃ ds, x = .list ds ∧ QL ds ρ1) : DP X W e ρ QL := fun O σ B H rep ws R k =>
  h O σ B H rep ws R fun x ρ1 v B1 H1 ⟨ds, ex, q⟩ rep1 g1 dv => by
    subst ex
    cases dv with
    | lst hb hd => exact k ds ρ1 _ _ B1 H1 q rep1 g1 (.inl (SqL.of hb)) hd
theorem dp_tup (h : DE X W e ρ fun x ρ1 => ∃ ds, x = .tuple ds ∧ QL ds ρ1) : DP X W e ρ QL := fun O σ B H rep ws R k =>
  h O σ B H rep ws R fun x ρ1 v B1 H1 ⟨ds, ex, q⟩ rep1 g1 dv => by
    subst ex
    cases dv with
    | tup hb hd => exact k ds ρ1 _ _ B1 H1 q rep1 g1 (.inr (SqT.of hb)) hd
theorem scrD_inj {ns ms : List Int} (h : scrD ns = scrD ms) : ns = ms := by
  have e : (ns.map fun n => (PyData.int n, PyData.none)) = ms.map fun n => (PyData.int n, PyData.none) := PyData.dict.inj h
  have := congrArg (List.map fun p : PyData × PyData => match p.1 with | .int i => i | _ => 0) e
  simpa [List.map_map, Function.comp_def] using this
theorem scr_exc {ns : List Int} {C : Addr} {fs : List (Str × Int)} (h : scrD ns = excD C fs) : False := by
  have e := PyData.dict.inj h
  cases ns with
  | nil => cases e
  | cons n ns => cases (List.cons.inj e).1
theorem dp_scr (h : DE X W e ρ fun x ρ1 => ∃ ns, x = scrD ns ∧ QL (ns.map .int) ρ1) : DP X W e ρ QL := fun O σ B H rep ws R k =>
  h O σ B H rep ws R fun x ρ1 v B1 H1 ⟨ns, ex, q⟩ rep1 g1 dv => by
    generalize ey : x = y at dv
    cases dv with
    | @scr a ms hs =>
      obtain rfl := scrD_inj (ex.symm.trans ey)
      exact k _ ρ1 _ _ B1 H1 q rep1 g1 (.inl hs) dpa_ints
    | exc a b => exact (scr_exc (ex.symm.trans ey)).elim
    | _ => rw [ex] at ey; cases ey
theorem atI_dt {K : PySem.W.Frag} {B : Hp} {vs : List V} {ds : List PyData} {i : Int} {d : PyData} (h : DtAll K B vs ds) (e : atI ds i = some d) : ∃ v, atI vs i = some v ∧ Dt K B v d := by
  unfold atI at e ⊢
  rw [dpa_len h]
  cases q : ixN ds.length i with
  | none => rw [q] at e; cases e
  | some j =>
    rw [q] at e
    exact dpa_get h e
theorem seq_up {K : PySem.W.Frag} {B B' : Hp} {a : Addr} {vs : List V} (g : Same B B') (h : SqL K B a vs ∨ SqT K B a vs) : SqL K B' a vs ∨ SqT K B' a vs := h.imp (sqL_up g) (sqT_up g)
theorem de_ix (h : DP X W a ρ fun ds ρ1 => DE X W b ρ1 fun y ρ2 => ∃ i d, y = .int i ∧ atI ds i = some d ∧ Q d ρ2) (hs : PlainIx b := by exact fun _ _ => rfl) : DE X W (.Subscript a b pos) ρ Q := fun O σ B H rep ws R k =>
  we_of (pe_ix ix_seq pe_we pe_we hs) (h O σ B H rep ws _ fun ds ρ1 p vs B1 H1 hb rep1 g1 sq dvs => hb O σ B1 H1 rep1 ws _ fun y ρ2 u B2 H2 ⟨i, d, ey, ea, q⟩ rep2 g2 du => by
    subst ey; cases du
    obtain ⟨v, e1, dv⟩ := atI_dt (dpAll_up g2.b _ _ dvs) ea
    have fin := k d ρ2 v B2 H2 q rep2 (g1.trans g2) dv
    rcases seq_up (g2.b.trans rep2.sub) sq with z | z
    · exact .inl ⟨p, vs, i, v, rfl, rfl, z, e1, fin⟩
    · exact .inr (.inl ⟨p, vs, i, v, rfl, rfl, z, e1, fin⟩))
theorem de_ixS (h : DE X W a ρ fun x ρ1 => DE X W b ρ1 fun y ρ2 => ∃ z i c, x = .str z ∧ y = .int i ∧ z.length ≤ sizeLine ∧ atI z.cps.toList i = some c ∧ Q (.str ⟨#[c]⟩) ρ2) (hs : PlainIx b := by exact fun _ _ => rfl) : DE X W (.Subscript a b pos) ρ Q := fun O σ B H rep ws R k =>
  we_of (pe_ix ix_seq pe_we pe_we hs) (h O σ B H rep ws _ fun x ρ1 v B1 H1 hb rep1 g1 dv => hb O σ B1 H1 rep1 ws _ fun y ρ2 u B2 H2 ⟨z, i, c, ex, ey, hz, ea, q⟩ rep2 g2 du => by
    subst ex; subst ey; cases dv; cases du
    exact .inr (.inr ⟨z, i, c, rfl, rfl, hz, ea, k _ ρ2 _ B2 H2 q rep2 (g1.trans g2) (.str _)⟩))
/-- an item of a list that a name owns -/
theorem de_ixO (i : Nat) {x : Str} {ds : List PyData} {p1 : Pos} (h : ρ[i]? = some (some (.own ds))) (hb : DE X W b ρ fun y ρ2 => ρ2 = ρ ∧ ∃ j d, y = .int j ∧ atI ds j = some d ∧ Q d ρ) (hN : X.N[i]? = some x := by rfl) (hv : Vis X.env.scope x := by first | exact Or.inl rfl | exact Or.inr (Or.inl rfl) | exact Or.inr (Or.inr rfl))
    (hd : (x == ("__debug__" : Str)) = false := by decide) (hcd : (x == ("__classdict__" : Str)) = false := by decide) (hs : PlainIx b := by exact fun _ _ => rfl) : DE X W (.Subscript (.Name x p1) b pos) ρ Q := fun O σ B H r w R q => by
  obtain ⟨v, h1, ⟨l, vs, rfl, _, hl, hd'⟩, _⟩ := r.ent i _ h
  refine we_of (pe_ix ix_list (pe_var hN hv hd hcd) pe_we hs) ⟨_, h1, hb O σ B H r w _ fun y ρ2 u B2 H2 ⟨er, j, d, ey, ea, k⟩ rep2 g2 du => ?_⟩
  subst er; subst ey; cases du
  obtain ⟨v', h1', ⟨l', vs', rfl, _, hl', hd2⟩, _⟩ := rep2.ent i _ h
  rw [h1] at h1'; cases h1'
  obtain ⟨u, e1, dv⟩ := atI_dt hd2 ea
  exact ⟨l, vs', j, u, rfl, rfl, SqL.of hl', e1, q d _ u B2 H2 k rep2 g2 dv⟩

/-! ### slices -/
def DO (X : Cx) (W : Wx) (e : Option Expr) (ρ : Ev) (QO : Option Int → Ev → Prop) : Prop := match e with
  | none => QO none ρ
  | some e => DE X W e ρ fun x ρ1 => ∃ i, x = .int i ∧ QO (some i) ρ1
def tO (X : Cx) : Option Expr → TO
  | none => tNoPart
  | some e => tPart (WE X e)
theorem po_tO : ∀ {o : Option Expr}, PO X o (tO X o)
  | none => po_none
  | some _ => po_some pe_we
theorem do_run {o : Option Expr} {QO : Option Int → Ev → Prop} (h : DO X W o ρ QO) {O : Og} {σ : L2.St} {B H : Hp} (rep : Rep X.K O σ ρ B H) (ws : Wsh O X W) {R : Option Int → Hp → Prop}
    (k : ∀ i ρ' B' H', QO i ρ' → Rep X.K O σ ρ' B' H' → Stp σ ρ B H ρ' B' H' → R i H') : tO X o σ H R := by
  cases o with
  | none => exact k _ _ B H h rep (Stp.refl rep)
  | some e =>
    refine h O σ B H rep ws _ fun x ρ1 v B1 H1 hq rep1 g1 dv => ?_
    obtain ⟨i, ex, q⟩ := hq
    subst ex; cases dv
    exact ⟨i, rfl, k _ ρ1 B1 H1 q rep1 g1⟩
variable {lo hi : Option Expr} {p2 : Pos}
def cutD (ds : List PyData) (lo hi : Option Int) : List PyData := (ds.drop (HT.sIx ds.length 0 lo)).take (HT.sIx ds.length ds.length hi - HT.sIx ds.length 0 lo)
theorem cut_dt {K : PySem.W.Frag} {B : Hp} {vs : List V} {ds : List PyData} (h : DtAll K B vs ds) (lo hi : Option Int) : DtAll K B (cutV vs lo hi) (cutD ds lo hi) := by
  unfold cutV cutD
  rw [dpa_len h]
  exact dpa_take _ (dpa_drop _ h)
theorem dl_sl (h : DE X W e ρ fun x ρ1 => DO X W lo ρ1 fun i ρ2 => DO X W hi ρ2 fun j ρ3 => ∃ ds, x = .list ds ∧ QL (cutD ds i j) ρ3) : DL X W (.Subscript e (.Slice lo hi none p2) pos) ρ QL := fun O σ B H rep ws R k =>
  we_of (pe_slice sl_list pe_we po_tO po_tO) (h O σ B H rep ws _ fun x ρ1 v B1 H1 h1 rep1 g1 dv => do_run h1 rep1 ws fun i ρ2 B2 H2 h2 rep2 g2 => do_run h2 rep2 ws fun j ρ3 B3 H3 ⟨ds, ex, q⟩ rep3 g3 => by
    subst ex
    cases dv with
    | lst hb hd => exact ⟨_, _, rfl, SqL.of (rep3.sub _ _ (g3.b _ _ (g2.b _ _ hb))), fun p hp => dl_new k rep3 ((g1.trans g2).trans g3) (cut_dt (dpAll_up (g2.trans g3).b _ _ hd) i j) q hp⟩)
theorem dl_slO (i : Nat) {x : Str} {ds : List PyData} {p1 : Pos} (h : ρ[i]? = some (some (.own ds))) (hb : DO X W lo ρ fun i ρ2 => DO X W hi ρ2 fun j ρ3 => ρ3 = ρ ∧ QL (cutD ds i j) ρ3) (hN : X.N[i]? = some x := by rfl) (hv : Vis X.env.scope x := by first | exact Or.inl rfl | exact Or.inr (Or.inl rfl) | exact Or.inr (Or.inr rfl))
    (hd : (x == ("__debug__" : Str)) = false := by decide) (hcd : (x == ("__classdict__" : Str)) = false := by decide) : DL X W (.Subscript (.Name x p1) (.Slice lo hi none p2) pos) ρ QL := fun O σ B H r w R q => by
  obtain ⟨v, h1, ⟨l, vs, rfl, _, hl, hd'⟩, _⟩ := r.ent i _ h
  refine we_of (pe_slice sl_list (pe_var hN hv hd hcd) po_tO po_tO) ⟨_, h1, do_run hb r w fun i1 ρ2 B2 H2 h2 rep2 g2 => do_run h2 rep2 w fun j ρ3 B3 H3 ⟨er, k⟩ rep3 g3 => ?_⟩
  subst er
  obtain ⟨v', h1', ⟨l', vs', rfl, _, hl', hd2⟩, _⟩ := rep3.ent i _ h
  rw [h1] at h1'; cases h1'
  exact ⟨l, vs', rfl, SqL.of hl', fun p hp => dl_new q rep3 (g2.trans g3) (cut_dt hd2 i1 j) k hp⟩
theorem de_slS (h : DE X W e ρ fun x ρ1 => DO X W lo ρ1 fun i ρ2 => DO X W hi ρ2 fun j ρ3 => ∃ z : Str, x = .str z ∧ z.length ≤ sizeLine ∧ Q (.str (cutS z i j)) ρ3) : DE X W (.Subscript e (.Slice lo hi none p2) pos) ρ Q := fun O σ B H rep ws R k =>
  we_of (pe_slice sl_str pe_we po_tO po_tO) (h O σ B H rep ws _ fun x ρ1 v B1 H1 h1 rep1 g1 dv => do_run h1 rep1 ws fun i ρ2 B2 H2 h2 rep2 g2 => do_run h2 rep2 ws fun j ρ3 B3 H3 ⟨z, ex, hz, q⟩ rep3 g3 => by
    subst ex; cases dv
    exact ⟨z, rfl, hz, k _ ρ3 _ B3 H3 q rep3 ((g1.trans g2).trans g3) (.str _)⟩)
/-! list + list, list * int -/
theorem dl_cat (h : DE X W a ρ fun x ρ1 => DE X W b ρ1 fun y ρ2 => ∃ ds es, x = .list ds ∧ y = .list es ∧ ds.length + es.length ≤ sizeLine ∧ QL (ds ++ es) ρ2) : DL X W (.BinOp a .Add b pos) ρ QL := fun O σ B H rep ws R k =>
  we_of (pe_op op_cat pe_we pe_we) (h O σ B H rep ws _ fun x ρ1 v B1 H1 hb rep1 g1 dv => hb O σ B1 H1 rep1 ws _ fun y ρ2 u B2 H2 ⟨ds, es, ex, ey, hl, q⟩ rep2 g2 du => by
    subst ex; subst ey
    cases dv with
    | lst hb1 hd1 =>
      cases du with
      | lst hb2 hd2 => exact ⟨_, _, _, _, rfl, rfl, rep2.sub _ _ (g2.b _ _ hb1), rep2.sub _ _ hb2, by rw [dpa_len hd1, dpa_len hd2]; exact hl, fun p hp => dl_new k rep2 (g1.trans g2) (dpa_app (dpAll_up g2.b _ _ hd1) hd2) q hp⟩)
theorem dpa_rep {K : PySem.W.Frag} {B : Hp} {vs : List V} {ds : List PyData} (h : DtAll K B vs ds) : ∀ k : Nat, DtAll K B (List.replicate k vs).flatten (List.replicate k ds).flatten
  | 0 => .nil
  | k + 1 => by rw [List.replicate_succ, List.replicate_succ, List.flatten_cons, List.flatten_cons]; exact dpa_app h (dpa_rep h k)
theorem dl_rep (h : DE X W a ρ fun x ρ1 => DE X W b ρ1 fun y ρ2 => ∃ ds n, x = .list ds ∧ y = .int n ∧ -(2 ^ 63) ≤ n ∧ n < 2 ^ 63 ∧ ds.length * n.toNat ≤ sizeLine ∧ QL (List.replicate n.toNat ds).flatten ρ2) : DL X W (.BinOp a .Mult b pos) ρ QL := fun O σ B H rep ws R k =>
  we_of (pe_op op_rep pe_we pe_we) (h O σ B H rep ws _ fun x ρ1 v B1 H1 hb rep1 g1 dv => hb O σ B1 H1 rep1 ws _ fun y ρ2 u B2 H2 ⟨ds, n, ex, ey, n1, n2, hl, q⟩ rep2 g2 du => by
    subst ex; subst ey; cases du
    cases dv with
    | lst hb1 hd1 => exact ⟨_, _, _, rfl, rfl, rep2.sub _ _ (g2.b _ _ hb1), n1, n2, by rw [dpa_len hd1]; exact hl, fun p hp => dl_new k rep2 (g1.trans g2) (dpa_rep (dpAll_up g2.b _ _ hd1) _) q hp⟩)
end
end Pw
namespace Pw
open PySem PySem.Spec PyProof.Rows L2

/-! ### promises over data -/
inductive Out where
  | ret (d : PyData)
  | exc (cls : Value) (xs : Fs)
inductive OutO where
  | ret (d : PyData) (fs : Fs)
  | exc (cls : Value) (xs : Fs)
def PostP (K : PySem.W.Frag) (B H : Hp) (Q : VK) (E : XK) : Out → Prop
  | .ret d => ∀ (v : V) (B' H' : Hp), Gr (fun _ => False) B H B' H' → Dt K B' v d → Q v H'
  | .exc cls xs => ∀ (d : Option Addr) (B' H' : Hp), Gr (fun _ => False) B H B' H' → XdIs K H B' H' d xs → E cls d H'
def PostO (K : PySem.W.Frag) (C p dx : Addr) (B H : Hp) (Q : VK) (E : XK) : OutO → Prop
  | .ret d fs => ∀ (v : V) (B' H' : Hp) (gs : List (Str × V)), Gr (fun a => a = p) B H B' H' → B' p = none → H' p = some (.ins C dx gs) → FsIs K B' gs fs → Dt K B' v d → Q v H'
  | .exc cls xs => ∀ (d : Option Addr) (B' H' : Hp), Gr (fun a => a = p) B H B' H' → XdIs K H B' H' d xs → E cls d H'
/-- a def over data: n arguments, R says how they end -/
def spP (K : PySem.W.Frag) (n : Nat) (R : List PyData → Out → Prop) : Sp := fun vs H Q E => ∃ (B : Hp) (ds : List PyData) (out : Out), Same B H ∧ DtAll K B vs ds ∧ ds.length = n ∧ R ds out ∧ PostP K B H Q E out
/-- a def (a method) that changes its first argument, an instance of the class at C -/
def spO (K : PySem.W.Frag) (C : Addr) (n : Nat) (R : Fs → List PyData → OutO → Prop) : Sp := fun vs H Q E => ∃ (p dx : Addr) (gs : List (Str × V)) (vs' : List V) (B : Hp) (fs : Fs) (ds : List PyData) (out : OutO),
  vs = .ref p :: vs' ∧ Same B H ∧ B p = none ∧ H p = some (.ins C dx gs) ∧ FsIs K B gs fs ∧ DtAll K B vs' ds ∧ ds.length = n ∧ R fs ds out ∧ PostO K C p dx B H Q E out
/-- a def that is known by its name -/
structure Kn (P : Program) (w : World) (K : PySem.W.Frag) (mg : Str → Option Value) (base : Heap) (x : Str) (k : Nat) (sp : Sp) : Prop where
  ex : ∃ (f : Addr) (fd : FuncData) (ps : List Str), FnOk P w K mg base (L2.CX P w) k f fd ps sp ∧ mg x = some (.ref f) ∧ PySem.W.keepIn K (.ref f) = true ∧ Binds K fd ps []
/-- a method -/
structure KnM (P : Program) (w : World) (K : PySem.W.Frag) (mg : Str → Option Value) (base : Heap) (C : Addr) (m : Str) (k : Nat) (sp : Sp) : Prop where
  ex : ∃ (f : Addr) (fd : FuncData) (ps : List Str), FnOk P w K mg base (L2.CX P w) k f fd ps sp ∧ Meth K C m f ∧ Binds K fd ps []
  cl : Cls K C
/-- a class with its __init__ -/
structure KnC (P : Program) (w : World) (K : PySem.W.Frag) (mg : Str → Option Value) (base : Heap) (x : Str) (C : Addr) (k : Nat) (sp : Sp) : Prop where
  ex : ∃ (f : Addr) (fd : FuncData) (ps : List Str), FnOk P w K mg base (L2.CX P w) k f fd ps sp ∧ Mk K C f ∧ mg x = some (.ref C) ∧ Binds K fd ps []

section
variable {X : Cx} {W : Wx} {a b c e o : Expr} {es : List Expr} {ρ : Ev} {p pos apos : Pos} {Q : PyData → Ev → Prop} {QL : List PyData → Ev → Prop} {x m : Str} {k n : Nat} {C : Addr}
def OutQ (W : Wx) (Q : PyData → Ev → Prop) (ρ : Ev) : Out → Prop
  | .ret d => Q d ρ
  | .exc c xs => W c xs
theorem de_call {R : List PyData → Out → Prop} (F : Kn X.prog X.w X.K X.mg X.base x k (spP X.K n R)) (hr : Room k X.A) (h : DA X W (e :: es) ρ fun ds ρ1 => ds.length = n ∧ ∃ out, R ds out ∧ OutQ W Q ρ1 out) (hg : Gl X x := by rfl)
    (hdb : (x == ("__debug__" : Str)) = false := by decide) (he : starEach (e :: es) X.env = (false, eval e X.env) :: starEach es X.env := by rfl) (hpl : (backTo pos (starEach es X.env)).any (·.1) = false := by rfl) : DE X W (.Call (.Name x p) (e :: es) [] pos) ρ Q := fun O σ B H rep ws R' q => by
  obtain ⟨f, fd, ps, G, hm, hk, hb⟩ := F.ex
  refine we_of (pe_call (E := O.E) G hr hg hm hk hb .nil (passes_call ws.tk fun _ _ _ _ h => h) pa_wa hdb he hpl) (h O σ B H rep ws _ fun ds ρ1 vs B1 H1 hq rep1 g1 dvs => ?_)
  obtain ⟨hl, out, hR, ho⟩ := hq
  rw [List.append_nil]
  refine ⟨B1, ds, out, rep1.sub, dvs, hl, hR, ?_⟩
  cases out with
  | ret d => exact fun v B2 H2 g2 dv => q d ρ1 v B2 H2 ho (rep1.grow g2) (g1.gro g2) dv
  | exc cls xs => exact fun d B2 H2 g2 dx => ws.ok cls xs d B2 H2 ho (rep1.gr.trans' g2 fun _ z => z.elim) (dx.old rep1.gr)
/-- behind a call that had slot i's object -/
theorem Rep.objAfter {O : Og} {σ : L2.St} {B H B' H' : Hp} {K : PySem.W.Frag} {c : Ob} (r : Rep K O σ ρ B H) {i : Nat} {fs fs' : Fs} {gs : List (Str × V)} (hi : ρ[i]? = some (some (.obj c fs))) (hs : σ[i]? = some (some (.ref c.a))) (g : Gr (fun a => a = c.a) B H B' H') (bp : B' c.a = none)
    (h' : H' c.a = some (.ins c.C c.dx gs)) (f' : FsIs K B' gs fs') : Rep K O σ (ρ.set i (some (.obj c fs'))) B' H' :=
  r.wr hi trivial hs g ⟨gs, rfl, bp, h', f'⟩ fun _ => trivial
def OutQO (W : Wx) (Q : PyData → Ev → Prop) (ρ : Ev) (c : Ob) (i : Nat) : OutO → Prop
  | .ret d fs => Q d (ρ.set i (some (.obj c fs)))
  | .exc cl xs => W cl xs
/-- the licence of a callee at slot i's object is within ours -/
theorem Rep.lic {O : Og} {σ : L2.St} {B H : Hp} {K : PySem.W.Frag} (r : Rep K O σ ρ B H) {i : Nat} {ei : Ent} {p : Addr} (hi : ρ[i]? = some (some ei)) (mi : ei.mu) (hs : σ[i]? = some (some (.ref p))) : ∀ c, c = p → O.H c = none ∨ O.M c := fun c e => by
  obtain ⟨v, h1, _, h3⟩ := r.ent i ei hi
  rw [hs] at h1; cases h1
  obtain ⟨l, el, hl⟩ := h3 mi
  cases el
  subst e
  exact hl.imp id (·.1)
theorem run_objpost {O : Og} {σ : L2.St} {B H B1 H1 : Hp} {ρ1 : Ev} {i : Nat} {fs : Fs} {c : Ob} {R' : VK} (ws : Wsh O X W) (q : ∀ d ρ' v B' H', Q d ρ' → Rep X.K O σ ρ' B' H' → Stp σ ρ B H ρ' B' H' → Dt X.K B' v d → R' v H')
    (rep1 : Rep X.K O σ ρ1 B1 H1) (g1 : Stp σ ρ B H ρ1 B1 H1) (hi : ρ1[i]? = some (some (.obj c fs))) (hs : σ[i]? = some (some (.ref c.a))) (out : OutO) (ho : OutQO W Q ρ1 c i out) :
    PostO X.K c.C c.a c.dx B1 H1 R' O.E out := by
  cases out with
  | ret d fs' => exact fun v B2 H2 gs2 g2 b2 h2 f2 dv => q d _ v B2 H2 ho (rep1.objAfter hi hs g2 b2 h2 f2) (g1.wr hi trivial hs g2) dv
  | exc cls xs => exact fun d B2 H2 g2 dx => ws.ok cls xs d B2 H2 ho (rep1.gr.trans' g2 (rep1.lic hi trivial hs)) (dx.old rep1.gr)
/-- f(o, ..), o the object in slot i -/
theorem de_callO (i : Nat) {y : Str} {py : Pos} {R : Fs → List PyData → OutO → Prop} {c : Ob} (F : Kn X.prog X.w X.K X.mg X.base x k (spO X.K c.C n R)) (hr : Room k X.A)
    (h : DA X W es ρ fun ds ρ1 => ds.length = n ∧ ∃ fs, ρ1[i]? = some (some (.obj c fs)) ∧ ∃ out, R fs ds out ∧ OutQO W Q ρ1 c i out) (hi : ∃ fs, ρ[i]? = some (some (.obj c fs))) (hg : Gl X x := by rfl)
    (hN : X.N[i]? = some y := by rfl) (hv : Vis X.env.scope y := by first | exact Or.inl rfl | exact Or.inr (Or.inl rfl) | exact Or.inr (Or.inr rfl)) (hd : (y == ("__debug__" : Str)) = false := by decide) (hcd : (y == ("__classdict__" : Str)) = false := by decide)
    (hdb : (x == ("__debug__" : Str)) = false := by decide) (he : starEach (.Name y py :: es) X.env = (false, eval (.Name y py) X.env) :: starEach es X.env := by rfl) (hpl : (backTo pos (starEach es X.env)).any (·.1) = false := by rfl) : DE X W (.Call (.Name x p) (.Name y py :: es) [] pos) ρ Q := fun O σ B H rep ws R' q => by
  obtain ⟨f, fd, ps, G, hm, hk, hb⟩ := F.ex
  obtain ⟨fs0, hi⟩ := hi
  obtain ⟨v0, h1, ⟨gs0, ev, _⟩, _⟩ := rep.ent i _ hi
  refine we_of (pe_call (E := O.E) G hr hg hm hk hb .nil (passes_call ws.tk fun _ _ _ _ h => h) (pa_cons (pe_var hN hv hd hcd) pa_wa he) hdb he hpl) ⟨v0, h1, h O σ B H rep ws _ fun ds ρ1 vs B1 H1 hq rep1 g1 dvs => ?_⟩
  obtain ⟨hl, fs, hi1, out, hR, ho⟩ := hq
  obtain ⟨v1, h2, ⟨gs, ev1, bp, hp, hf⟩, _⟩ := rep1.ent i _ hi1
  subst ev1
  rw [h1] at h2; cases h2
  show spO X.K c.C n R (.ref c.a :: vs ++ []) _ _ _
  rw [List.append_nil]
  exact ⟨c.a, c.dx, gs, vs, B1, fs, ds, out, rfl, rep1.sub, bp, hp, hf, dvs, hl, hR, run_objpost ws q rep1 g1 hi1 h1 out ho⟩
theorem fsIs_none {K : PySem.W.Frag} {B : Hp} {f : Str} : ∀ {gs : List (Str × V)} {fs : Fs}, FsIs K B gs fs → fs.lookup f = none → gs.lookup f = none
  | _, _, .nil, _ => rfl
  | (g, v) :: gs, (g', d) :: fs, .cons ⟨e, _⟩ t, h => by
    have e' : g = g' := e
    subst e'
    rw [List.lookup_cons] at h ⊢
    cases q : f == g with
    | true => rw [q] at h; cases h
    | false => rw [q] at h; exact fsIs_none t h
theorem fsIs_some {K : PySem.W.Frag} {B : Hp} {f : Str} {d : PyData} : ∀ {gs : List (Str × V)} {fs : Fs}, FsIs K B gs fs → fs.lookup f = some d → ∃ v, gs.lookup f = some v ∧ Dt K B v d
  | _, _, .nil, h => by cases h
  | (g, v) :: gs, (g', d') :: fs, .cons ⟨e, r⟩ t, h => by
    have e' : g = g' := e
    subst e'
    rw [List.lookup_cons] at h ⊢
    cases q : f == g with
    | true => rw [q] at h; cases h; exact ⟨v, rfl, r⟩
    | false => rw [q] at h; exact fsIs_some t h
/-- o.m(..), o the object in slot i -/
theorem de_meth (i : Nat) {y : Str} {py : Pos} {R : Fs → List PyData → OutO → Prop} {c : Ob} (F : KnM X.prog X.w X.K X.mg X.base c.C m k (spO X.K c.C n R)) (hr : Room k X.A) {fs0 : Fs} (hi : ρ[i]? = some (some (.obj c fs0))) (hno : fs0.lookup m = none)
    (h : DA X W (e :: es) ρ fun ds ρ1 => ds.length = n ∧ ∃ fs, ρ1[i]? = some (some (.obj c fs)) ∧ ∃ out, R fs ds out ∧ OutQO W Q ρ1 c i out) {pl : Sem Bool}
    (hN : X.N[i]? = some y := by rfl) (hv : Vis X.env.scope y := by first | exact Or.inl rfl | exact Or.inr (Or.inl rfl) | exact Or.inr (Or.inr rfl)) (hd : (y == ("__debug__" : Str)) = false := by decide) (hcd : (y == ("__classdict__" : Str)) = false := by decide)
    (hst : starEach (e :: es) X.env = (false, eval e X.env) :: starEach es X.env := by rfl) (hpl : (backTo pos (starEach es X.env)).any (·.1) = false := by rfl)
    (ht : eval (.Call (.Attribute (.Name y py) m apos) (e :: es) [] pos) X.env = (do
      let ov ← eval (.Name y py) X.env
      standAt apos.atName
      let (f, first) ← holding [ov] (getMethod ov m pl)
      callWith pos f first (backTo pos (starEach (e :: es) X.env)) (backToKw pos (keywordEach [] X.env))) := by rfl) : DE X W (.Call (.Attribute (.Name y py) m apos) (e :: es) [] pos) ρ Q := fun O σ B H rep ws R' q => by
  obtain ⟨f, fd, ps, G, hm, hb⟩ := F.ex
  obtain ⟨v0, h1, ⟨gs0, ev, _, hp0, hf0⟩, _⟩ := rep.ent i _ hi
  subst ev
  refine we_of (pe_meth (E := O.E) (pe_var hN hv hd hcd) F.cl hm G hr hb .nil (passes_call ws.tk fun _ _ _ _ h => h) pa_wa hst hpl ht) ⟨_, h1, c.a, c.dx, gs0, rfl, hp0, fsIs_none hf0 hno, h O σ B H rep ws _ fun ds ρ1 vs B1 H1 hq rep1 g1 dvs => ?_⟩
  obtain ⟨hl, fs, hi1, out, hR, ho⟩ := hq
  obtain ⟨v1, h2, ⟨gs, ev1, bp, hp, hf⟩, _⟩ := rep1.ent i _ hi1
  subst ev1
  rw [h1] at h2; cases h2
  rw [List.append_nil]
  exact ⟨_, c.dx, gs, vs, B1, fs, ds, out, rfl, rep1.sub, bp, hp, hf, dvs, hl, hR, run_objpost ws q rep1 g1 hi1 h1 out ho⟩
theorem de_meth0 (i : Nat) {y : Str} {py : Pos} {R : Fs → List PyData → OutO → Prop} {c : Ob} (F : KnM X.prog X.w X.K X.mg X.base c.C m k (spO X.K c.C 0 R)) (hr : Room k X.A) {fs0 : Fs} (hi : ρ[i]? = some (some (.obj c fs0))) (hno : fs0.lookup m = none)
    (h : ∃ out, R fs0 [] out ∧ OutQO W Q ρ c i out) {pl : Sem Bool}
    (hN : X.N[i]? = some y := by rfl) (hv : Vis X.env.scope y := by first | exact Or.inl rfl | exact Or.inr (Or.inl rfl) | exact Or.inr (Or.inr rfl)) (hd : (y == ("__debug__" : Str)) = false := by decide) (hcd : (y == ("__classdict__" : Str)) = false := by decide)
    (ht : eval (.Call (.Attribute (.Name y py) m apos) [] [] pos) X.env = (do
      let ov ← eval (.Name y py) X.env
      standAt apos.atName
      let (f, first) ← holding [ov] (getMethod ov m pl)
      callWith pos f first (backTo pos (starEach [] X.env)) (backToKw pos (keywordEach [] X.env))) := by rfl) : DE X W (.Call (.Attribute (.Name y py) m apos) [] [] pos) ρ Q := fun O σ B H rep ws R' q => by
  obtain ⟨f, fd, ps, G, hm, hb⟩ := F.ex
  obtain ⟨out, hR, ho⟩ := h
  obtain ⟨v0, h1, ⟨gs0, ev, bp, hp0, hf0⟩, _⟩ := rep.ent i _ hi
  subst ev
  exact we_of (pe_meth0 (E := O.E) (pe_var hN hv hd hcd) F.cl hm G hr hb .nil (passes_call ws.tk fun _ _ _ _ h => h) ht) ⟨_, h1, c.a, c.dx, gs0, rfl, hp0, fsIs_none hf0 hno,
    ⟨c.a, c.dx, gs0, [], B, fs0, [], out, rfl, rep.sub, bp, hp0, hf0, .nil, rfl, hR, run_objpost ws q rep (Stp.refl rep) hi h1 out ho⟩⟩
/-- o.f, o the object in slot i -/
theorem de_fld (i : Nat) {y f : Str} {py : Pos} {fs : Fs} {d : PyData} {c : Ob} (hi : ρ[i]? = some (some (.obj c fs))) (hl : fs.lookup f = some d) (hc : Cls X.K c.C) (hno : NoAttr X.K c.C f) (k : Q d ρ)
    (hN : X.N[i]? = some y := by rfl) (hv : Vis X.env.scope y := by first | exact Or.inl rfl | exact Or.inr (Or.inl rfl) | exact Or.inr (Or.inr rfl)) (hd : (y == ("__debug__" : Str)) = false := by decide) (hcd : (y == ("__classdict__" : Str)) = false := by decide)
    (hb : attributeBase (.Name y py) f X.env (eval (.Name y py) X.env) = eval (.Name y py) X.env := by rfl) : DE X W (.Attribute (.Name y py) f pos) ρ Q := fun O σ B H rep ws R' q => by
  obtain ⟨v0, h1, ⟨gs0, ev, bp, hp0, hf0⟩, _⟩ := rep.ent i _ hi
  subst ev
  obtain ⟨v, hg, dv⟩ := fsIs_some hf0 hl
  exact we_of (pe_fld (pe_var hN hv hd hcd) hb) ⟨_, h1, c.a, c.C, c.dx, gs0, v, rfl, hp0, hc, hno, hg, q d ρ v B H k rep (Stp.refl rep) dv⟩

/-! ### built-in functions -/
def CallD (X : Cx) (r : List V → Hp → VK → Prop) (ds : List PyData) (z : PyData) : Prop := ∀ (B H : Hp) (vs : List V) (R : VK), Same B H → DtAll X.K B vs ds → (∀ w B' H', Gr (fun _ => False) B H B' H' → Dt X.K B' w z → R w H') → r vs H R
theorem de_cb {id : String} {r : List V → Hp → VK → Prop} (hc : CallR X (.builtin id) r) (hm : X.mg x = none) (hv : bootBuiltins x = some (.builtin id)) (h : DA X W (e :: es) ρ fun ds ρ1 => ∃ z, CallD X r ds z ∧ Q z ρ1) (hg : Gl X x := by rfl) (hn : x ≠ "__name__" := by decide) (hdb : (x == ("__debug__" : Str)) = false := by decide)
    (he : starEach (e :: es) X.env = (false, eval e X.env) :: starEach es X.env := by rfl) (hpl : (backTo pos (starEach es X.env)).any (·.1) = false := by rfl) : DE X W (.Call (.Name x p) (e :: es) [] pos) ρ Q := fun O σ B H rep ws R' q =>
  we_of (pe_callB hc hg hm hv pa_wa hn hdb he hpl) (h O σ B H rep ws _ fun ds ρ1 vs B1 H1 ⟨z, hz, hq⟩ rep1 g1 dvs => hz B1 H1 vs R' rep1.sub dvs fun w B2 H2 g2 dw => q z ρ1 w B2 H2 hq (rep1.grow g2) (g1.gro g2) dw)
theorem de_ct {T : String} {r : List V → Hp → VK → Prop} (hc : CallR X (.type T) r) (hm : X.mg x = none) (hv : bootBuiltins x = some (.type T)) (h : DA X W (e :: es) ρ fun ds ρ1 => ∃ z, CallD X r ds z ∧ Q z ρ1) (hg : Gl X x := by rfl) (hn : x ≠ "__name__" := by decide) (hdb : (x == ("__debug__" : Str)) = false := by decide)
    (he : starEach (e :: es) X.env = (false, eval e X.env) :: starEach es X.env := by rfl) (hpl : (backTo pos (starEach es X.env)).any (·.1) = false := by rfl) : DE X W (.Call (.Name x p) (e :: es) [] pos) ρ Q := fun O σ B H rep ws R' q =>
  we_of (pe_callTy hc hg hm hv pa_wa hn hdb he hpl) (h O σ B H rep ws _ fun ds ρ1 vs B1 H1 ⟨z, hz, hq⟩ rep1 g1 dvs => hz B1 H1 vs R' rep1.sub dvs fun w B2 H2 g2 dw => q z ρ1 w B2 H2 hq (rep1.grow g2) (g1.gro g2) dw)
/-- len -/
def rLen (K : PySem.W.Frag) : List V → Hp → VK → Prop := fun xs H Q => ∃ x n, xs = [x] ∧ LenV K x H n ∧ Q (.int n) H
theorem call_lenR : CallR X (.builtin "len") (rLen X.K) := call_len
def lenD : PyData → Option Nat
  | .str x => if decide (x.length ≤ sizeLine) = true then some x.length else none
  | .list ds => some ds.length
  | .tuple ds => some ds.length
  | .dict ((.str _, _) :: _) => none
  | .dict kvs => some kvs.length
  | _ => none
theorem lenD_scr {ns : List Int} : lenD (scrD ns) = some ns.length := by
  cases ns with
  | nil => rfl
  | cons n ns => show some (List.length (_ :: ns.map _)) = _; rw [List.length_cons, List.length_map, List.length_cons]
theorem cd_len {d : PyData} {n : Nat} (h : lenD d = some n) : CallD X (rLen X.K) [d] (.int n) := fun B H vs R g dvs k => by
  cases dvs with
  | cons dv t =>
    cases t
    refine ⟨_, n, rfl, ?_, k _ B H (Gr.refl g) (.int _)⟩
    cases dv with
    | str x =>
      have h' : (if decide (x.length ≤ sizeLine) = true then some x.length else none) = some n := h
      by_cases z : x.length ≤ sizeLine
      · rw [if_pos (decide_eq_true z)] at h'; cases h'; exact ⟨z, rfl⟩
      · rw [if_neg (by rw [decide_eq_false z]; exact Bool.false_ne_true)] at h'; cases h'
    | lst a b => cases h; exact .inl ⟨_, SqL.of (g _ _ a), (dpa_len b).symm⟩
    | tup a b => cases h; exact .inr ⟨_, SqT.of (g _ _ a), (dpa_len b).symm⟩
    | @scr a ns hs =>
      rw [lenD_scr] at h
      cases h
      exact .inl ⟨_, sqL_up g hs, by rw [List.length_map]⟩
    | _ => cases h
theorem cd_lenS {z : Str} (h : z.length ≤ sizeLine) : CallD X (rLen X.K) [.str z] (.int z.length) := cd_len (by show (if decide (z.length ≤ sizeLine) = true then some z.length else none) = _; rw [if_pos (decide_eq_true h)])
theorem de_globS {z : Str} {t : Tok} (hm : X.mg x = some (.str z t)) (k : Q (.str z) ρ) (hg : Gl X x := by rfl) (hdb : (x == ("__debug__" : Str)) = false := by decide) : DE X W (.Name x pos) ρ Q := de_glob (v := .str z) hm ⟨t, rfl⟩ (fun B => .str z) k hg hdb
theorem de_globI {z : Int} {t : Tok} (hm : X.mg x = some (.int z t)) (k : Q (.int z) ρ) (hg : Gl X x := by rfl) (hdb : (x == ("__debug__" : Str)) = false := by decide) : DE X W (.Name x pos) ρ Q := de_glob (v := .int z) hm ⟨t, rfl⟩ (fun B => .int z) k hg hdb
/-- len of a list that a name owns -/
theorem de_lenO (i : Nat) {y : Str} {py : Pos} {ds : List PyData} (hm : X.mg "len" = none) (h : ρ[i]? = some (some (.own ds))) (k : Q (.int ds.length) ρ) (hg : Gl X "len" := by rfl)
    (hN : X.N[i]? = some y := by rfl) (hv : Vis X.env.scope y := by first | exact Or.inl rfl | exact Or.inr (Or.inl rfl) | exact Or.inr (Or.inr rfl)) (hd : (y == ("__debug__" : Str)) = false := by decide) (hcd : (y == ("__classdict__" : Str)) = false := by decide)
    (he : starEach [.Name y py] X.env = (false, eval (.Name y py) X.env) :: starEach [] X.env := by rfl) (hpl : (backTo pos (starEach [] X.env)).any (·.1) = false := by rfl) : DE X W (.Call (.Name "len" p) [.Name y py] [] pos) ρ Q := fun O σ B H r w R q => by
  obtain ⟨v, h1, ⟨l, vs, rfl, _, hl, hd'⟩, _⟩ := r.ent i _ h
  exact we_of (pe_callB call_lenR hg hm boot_len (pa_cons (pe_var hN hv hd hcd) pa_nil he) (by decide) (by decide) he hpl) ⟨_, h1, _, _, rfl, .inl ⟨_, SqL.of hl, (dpa_len hd').symm⟩, q _ _ _ B H k r (Stp.refl r) (.int _)⟩
/-- int of a truth, str of a number, of a text -/
def rInt1 : List V → Hp → VK → Prop := fun xs H Q => (∃ i, xs = [.int i] ∧ Q (.int i) H) ∨ ∃ k, xs = [.bl k] ∧ Q (.int (if k then 1 else 0)) H
theorem call_intR : CallR X (.type "int") rInt1 := call_int1
theorem cd_intB {b : Bool} : CallD X rInt1 [.bool b] (.int (if b then 1 else 0)) := fun B H vs R g dvs k => by
  cases dvs with
  | cons dv t => cases t; cases dv; exact .inr ⟨b, rfl, k _ B H (Gr.refl g) (.int _)⟩
def rIntS : List V → Hp → VK → Prop := fun xs H Q => ∃ a n, xs = [.str a] ∧ PySem.intText? a = some n ∧ a.length ≤ 640 ∧ Q (.int n) H
theorem call_intSR : CallR X (.type "int") rIntS := call_int_str
theorem cd_intS {a : Str} {n : Int} (h : PySem.intText? a = some n) (hl : a.length ≤ 640) : CallD X rIntS [.str a] (.int n) := fun B H vs R g dvs k => by
  cases dvs with
  | cons dv t => cases t; cases dv; exact ⟨a, n, rfl, h, hl, k _ B H (Gr.refl g) (.int _)⟩
def rStr1 : List V → Hp → VK → Prop := fun xs H Q => (∃ i : Int, xs = [.int i] ∧ i.natAbs.log2 < 1920 ∧ Q (.str (toString i)) H) ∨ ∃ a, xs = [.str a] ∧ Q (.str a) H
theorem call_strR : CallR X (.type "str") rStr1 := call_str_int.or SkE.call_str_str
theorem cd_strI {i : Int} (h : i.natAbs.log2 < 1920) : CallD X rStr1 [.int i] (.str (toString i)) := fun B H vs R g dvs k => by
  cases dvs with
  | cons dv t => cases t; cases dv; exact .inl ⟨i, rfl, h, k _ B H (Gr.refl g) (.str _)⟩
theorem cd_strS {a : Str} : CallD X rStr1 [.str a] (.str a) := fun B H vs R g dvs k => by
  cases dvs with
  | cons dv t => cases t; cases dv; exact .inr ⟨a, rfl, k _ B H (Gr.refl g) (.str _)⟩
def rMax2 : List V → Hp → VK → Prop := fun xs H Q => ∃ i j, xs = [.int i, .int j] ∧ Q (.int (if j > i then j else i)) H
theorem call_maxR (hc : X.calm = true) : CallR X (.builtin "max") rMax2 := call_max2 hc
theorem cd_max {i j : Int} : CallD X rMax2 [.int i, .int j] (.int (if j > i then j else i)) := fun B H vs R g dvs k => by
  cases dvs with
  | cons dv t =>
    cases t with
    | cons du t => cases t; cases dv; cases du; exact ⟨i, j, rfl, k _ B H (Gr.refl g) (.int _)⟩
theorem dts_ints {K : PySem.W.Frag} {B : Hp} : ∀ {ns : List Int} {vs : List V}, DtAll K B vs (ns.map .int) → vs = ns.map V.int
  | [], _, h => by cases h; rfl
  | n :: ns, _, h => by
    cases h with
    | cons a t => cases a; rw [dts_ints t]; rfl
theorem cd_sum {ns : List Int} : CallD X (rSum X.K) [.list (ns.map .int)] (.int ns.sum) := fun B H vs R g dvs k => by
  cases dvs with
  | cons dv t =>
    cases t
    cases dv with
    | lst a b =>
      obtain rfl := dts_ints b
      exact ⟨_, ns, rfl, SqL.of (g _ _ a), k _ B H (Gr.refl g) (.int _)⟩
/-- list(x), a new list -/
def rListOf (K : PySem.W.Frag) : List V → Hp → VK → Prop := fun xs H Q => ∃ p ys, xs = [.ref p] ∧ (SqL K H p ys ∨ SqT K H p ys) ∧ ∀ l, H l = none → Q (.ref l) (upd H l (.lst ys))
theorem call_listR : CallR X (.type "list") (rListOf X.K) := call_list_of
theorem dl_list (hm : X.mg "list" = none) (h : DP X W e ρ QL) (hg : Gl X "list" := by rfl) (hv : bootBuiltins "list" = some (.type "list") := by decide +kernel)
    (he : starEach [e] X.env = (false, eval e X.env) :: starEach [] X.env := by rfl) (hpl : (backTo pos (starEach [] X.env)).any (·.1) = false := by rfl) : DL X W (.Call (.Name "list" p) [e] [] pos) ρ QL := fun O σ B H rep ws R' q =>
  we_of (pe_callTy call_listR hg hm hv (pa_cons pe_we pa_nil he) (by decide) (by decide) he hpl) (h O σ B H rep ws _ fun ds ρ1 a vs B1 H1 hq rep1 g1 sq dvs => ⟨a, vs, rfl, seq_up rep1.sub sq, fun l hl => dl_new q rep1 g1 dvs hq hl⟩)
/-- list(x), x a name that owns a list -/
theorem dl_listO (i : Nat) {y : Str} {py : Pos} {ds : List PyData} (hm : X.mg "list" = none) (h : ρ[i]? = some (some (.own ds))) (k : QL ds ρ) (hg : Gl X "list" := by rfl) (hv2 : bootBuiltins "list" = some (.type "list") := by decide +kernel)
    (hN : X.N[i]? = some y := by rfl) (hv : Vis X.env.scope y := by first | exact Or.inl rfl | exact Or.inr (Or.inl rfl) | exact Or.inr (Or.inr rfl)) (hd : (y == ("__debug__" : Str)) = false := by decide) (hcd : (y == ("__classdict__" : Str)) = false := by decide)
    (he : starEach [.Name y py] X.env = (false, eval (.Name y py) X.env) :: starEach [] X.env := by rfl) (hpl : (backTo pos (starEach [] X.env)).any (·.1) = false := by rfl) : DL X W (.Call (.Name "list" p) [.Name y py] [] pos) ρ QL := fun O σ B H r w R q => by
  obtain ⟨v, h1, ⟨l, vs, rfl, _, hl, hd'⟩, _⟩ := r.ent i _ h
  exact we_of (pe_callTy call_listR hg hm hv2 (pa_cons (pe_var hN hv hd hcd) pa_nil he) (by decide) (by decide) he hpl) ⟨_, h1, l, vs, rfl, .inl (SqL.of hl), fun l' hl' => dl_new q r (Stp.refl r) hd' k hl'⟩
/-- tuple(x), x a list -/
theorem de_tupleOf (hm : X.mg "tuple" = none) (h : DE X W e ρ fun d ρ1 => ∃ ds, d = .list ds ∧ Q (.tuple ds) ρ1) (hg : Gl X "tuple" := by rfl) (hv : bootBuiltins "tuple" = some (.type "tuple") := by decide +kernel)
    (he : starEach [e] X.env = (false, eval e X.env) :: starEach [] X.env := by rfl) (hpl : (backTo pos (starEach [] X.env)).any (·.1) = false := by rfl) : DE X W (.Call (.Name "tuple" p) [e] [] pos) ρ Q := fun O σ B H rep ws R' q =>
  we_of (pe_callTy call_tuple_of hg hm hv (pa_cons pe_we pa_nil he) (by decide) (by decide) he hpl) (h O σ B H rep ws _ fun d ρ1 v B1 H1 ⟨ds, ed, hq⟩ rep1 g1 dv => by
    subst ed
    cases dv with
    | @lst a vs ds a b => exact ⟨_, _, rfl, .inl ⟨SqL.of (rep1.sub _ _ a), fun l hl => by
        have g := gr_new (o := .tup vs) rep1.sub hl
        exact q _ ρ1 _ _ _ hq (rep1.grow g) (g1.gro g) (.tup upd_same (dpAll_up g.b _ _ b))⟩⟩)
/-! methods of texts -/
def MtD (X : Cx) (r : V → List V → Hp → VK → Prop) (x : PyData) (ds : List PyData) (z : PyData) : Prop := ∀ (B H : Hp) (v : V) (vs : List V) (R : VK), Same B H → Dt X.K B v x → DtAll X.K B vs ds → (∀ w B' H', Gr (fun _ => False) B H B' H' → Dt X.K B' w z → R w H') → r v vs H R
theorem de_m1 {id : String} {name : Str} {r : V → List V → Hp → VK → Prop} (slot : Slot "str" name id) (ty : typeOf (.builtin id) = pure (.type "method_descriptor")) (rule : MtR X id r) (h : DE X W o ρ fun x ρ1 => ∃ a, x = .str a ∧ DE X W e ρ1 fun y ρ2 => ∃ z, MtD X r (.str a) [y] z ∧ Q z ρ2)
    (hs : starEach [e] X.env = [(false, eval e X.env)] := by rfl) (hbase : attributeBase o name X.env (eval o X.env) = eval o X.env := by rfl) (hline : (apos.endLine == pos.line) = true := by rfl) : DE X W (.Call (.Attribute o name apos) [e] [] pos) ρ Q := fun O σ B H rep ws R' q =>
  we_of (pe_m1 slot ty rule pe_we pe_we hs hbase hline) (h O σ B H rep ws _ fun x ρ1 v B1 H1 ⟨a, ex, he⟩ rep1 g1 dv => by
    subst ex; cases dv
    exact ⟨⟨a, rfl⟩, he O σ B1 H1 rep1 ws _ fun y ρ2 u B2 H2 ⟨z, hz, hq⟩ rep2 g2 du => hz B2 H2 _ _ R' rep2.sub (.str a) (.cons du .nil) fun w B3 H3 g3 dw => q z ρ2 w B3 H3 hq (rep2.grow g3) ((g1.trans g2).gro g3) dw⟩)
/-- .. that give a new list of texts -/
theorem dl_m1 {id : String} {name : Str} {r : V → List V → Hp → VK → Prop} (slot : Slot "str" name id) (ty : typeOf (.builtin id) = pure (.type "method_descriptor")) (rule : MtR X id r) (h : DE X W o ρ fun x ρ1 => ∃ a, x = .str a ∧ DE X W e ρ1 fun y ρ2 => ∃ ss : List Str, flatD y = true ∧ (∀ (H : Hp) (R : VK), rNewStrs ss H R → r (.str a) [vOf y] H R) ∧ QL (ss.map .str) ρ2)
    (hs : starEach [e] X.env = [(false, eval e X.env)] := by rfl) (hbase : attributeBase o name X.env (eval o X.env) = eval o X.env := by rfl) (hline : (apos.endLine == pos.line) = true := by rfl) : DL X W (.Call (.Attribute o name apos) [e] [] pos) ρ QL := fun O σ B H rep ws R' q =>
  we_of (pe_m1 slot ty rule pe_we pe_we hs hbase hline) (h O σ B H rep ws _ fun x ρ1 v B1 H1 ⟨a, ex, he⟩ rep1 g1 dv => by
    subst ex; cases dv
    exact ⟨⟨a, rfl⟩, he O σ B1 H1 rep1 ws _ fun y ρ2 u B2 H2 ⟨ss, fy, hz, hq⟩ rep2 g2 du => by
      rw [dt_flat du fy]
      exact hz H2 R' fun p hp => dl_new q rep2 (g1.trans g2) dpa_strs hq hp⟩)
end
end Pw
namespace Pw
open PySem PySem.Spec PyProof.Rows L2

structure DEnds where
  nx : Ev → Prop
  rt : PyData → Ev → Prop
  bk : Ev → Prop := fun _ => False
  ct : Ev → Prop := fun _ => False
structure EOk (K : PySem.W.Frag) (O : Og) (D : DEnds) (T : Ends) (B : Hp) : Prop where
  nx : ∀ (ρ' : Ev) (σ' : L2.St) (B' H' : Hp), D.nx ρ' → Rep K O σ' ρ' B' H' → Same B B' → T.nx σ' H'
  rt : ∀ (d : PyData) (ρ' : Ev) (v : V) (σ' : L2.St) (B' H' : Hp), D.rt d ρ' → Rep K O σ' ρ' B' H' → Same B B' → Dt K B' v d → T.rt v H'
  bk : ∀ (ρ' : Ev) (σ' : L2.St) (B' H' : Hp), D.bk ρ' → Rep K O σ' ρ' B' H' → Same B B' → T.bk σ' H'
  ct : ∀ (ρ' : Ev) (σ' : L2.St) (B' H' : Hp), D.ct ρ' → Rep K O σ' ρ' B' H' → Same B B' → T.ct σ' H'
theorem EOk.up {K : PySem.W.Frag} {O : Og} {D : DEnds} {T : Ends} {B B1 : Hp} (e : EOk K O D T B) (g : Same B B1) : EOk K O D T B1 :=
  ⟨fun a b c d q r s => e.nx a b c d q r (g.trans s), fun a b c d f h q r s => e.rt a b c d f h q r (g.trans s), fun a b c d q r s => e.bk a b c d q r (g.trans s), fun a b c d q r s => e.ct a b c d q r (g.trans s)⟩
def DS (X : Cx) (W : Wx) (st : Stmt) (D : DEnds) (ρ : Ev) : Prop := ∀ (O : Og) (σ : L2.St) (B H : Hp), Rep X.K O σ ρ B H → Wsh O X W → ∀ T : Ends, EOk X.K O D T B → WS X st T σ H
def DSs (X : Cx) (W : Wx) (ss : List Stmt) (D : DEnds) (ρ : Ev) : Prop := ∀ (O : Og) (σ : L2.St) (B H : Hp), Rep X.K O σ ρ B H → Wsh O X W → ∀ T : Ends, EOk X.K O D T B → WSs X ss T σ H

section
variable {X : Cx} {W : Wx} {a b c e o : Expr} {es : List Expr} {ρ : Ev} {p pos apos : Pos} {x y m : Str} {k n : Nat} {C : Addr} {D : DEnds} {st : Stmt} {ss rest body orelse : List Stmt}
theorem dss_nil (h : D.nx ρ) : DSs X W [] D ρ := fun O σ B H r w T k => wss_of pss_nil (k.nx ρ σ B H h r (Same.refl B))
theorem dss_cons (h : DS X W st { D with nx := fun ρ' => DSs X W rest D ρ' } ρ) : DSs X W (st :: rest) D ρ := fun O σ B H r w T k =>
  wss_of (pss_cons ps_ws pss_wss) (h O σ B H r w _ ⟨fun ρ' σ' B' H' q r' s => q O σ' B' H' r' w T (k.up s), k.rt, k.bk, k.ct⟩)
/-- the last statement of a body -/
theorem dss_one (h : DS X W st D ρ) : DSs X W [st] D ρ := fun O σ B H r w T k => wss_of (pss_one ps_ws) (h O σ B H r w T k)
theorem ds_set (i : Nat) (h : DE X W e ρ fun d ρ1 => D.nx (ρ1.set i (some (.val d)))) (hnd : X.N.Nodup) (hN : X.N[i]? = some x := by rfl) (hx : Loc X.env.scope x := by first | exact Or.inl rfl | exact Or.inr rfl)
    (hs : swapsWith e (some (.Name x p)) pos.line X.env = pure false := by rfl) (hf : X.fn x = true ∨ X.env.scope.names.lookup x = some .local := by first | exact .inl rfl | exact .inr rfl) : DS X W (.Assign [.Name x p] e pos) D ρ := fun O σ B H r w T k =>
  ws_of (ps_set hnd hN hx pe_we hs hf) (h O σ B H r w _ fun d ρ1 v B1 H1 q r1 s1 dv => k.nx _ _ B1 H1 q (r1.set dv) s1.b)
theorem ds_own (i : Nat) (h : DL X W e ρ fun ds ρ1 => D.nx (ρ1.set i (some (.own ds)))) (hnd : X.N.Nodup) (hN : X.N[i]? = some x := by rfl) (hx : Loc X.env.scope x := by first | exact Or.inl rfl | exact Or.inr rfl)
    (hs : swapsWith e (some (.Name x p)) pos.line X.env = pure false := by rfl) (hf : X.fn x = true ∨ X.env.scope.names.lookup x = some .local := by first | exact .inl rfl | exact .inr rfl) : DS X W (.Assign [.Name x p] e pos) D ρ := fun O σ B H r w T k =>
  ws_of (ps_set hnd hN hx pe_we hs hf) (h O σ B H r w _ fun ds ρ1 l vs B1 H1 q r1 s1 o1 b1 h1 d1 n1 => k.nx _ _ B1 H1 q (r1.setM ⟨l, vs, rfl, b1, h1, d1⟩ (r.freshO o1) n1) s1.b)
theorem ds_ret (h : DE X W e ρ fun d ρ1 => D.rt d ρ1) : DS X W (.Return (some e) pos) D ρ := fun O σ B H r w T k =>
  ws_of (ps_ret pe_we) (h O σ B H r w _ fun d ρ1 v B1 H1 q r1 s1 dv => k.rt d ρ1 v σ B1 H1 q r1 s1.b dv)
theorem ds_retN (h : D.rt .none ρ) : DS X W (.Return none pos) D ρ := fun O σ B H r w T k => ws_of ps_retN (k.rt _ ρ _ σ B H h r (Same.refl B) .non)
theorem ds_if (h : DT X W c ρ fun b ρ1 => if b = true then DSs X W body D ρ1 else DSs X W orelse D ρ1) : DS X W (.If c body orelse pos) D ρ := fun O σ B H r w T k =>
  ws_of (ps_if pt_wt pss_wss pss_wss) (h O σ B H r w _ fun b ρ1 B1 H1 q r1 s1 => by
    cases b with
    | true => exact q O σ B1 H1 r1 w T (k.up s1.b)
    | false => exact q O σ B1 H1 r1 w T (k.up s1.b))
theorem ds_expr (h : DE X W e ρ fun _ ρ1 => D.nx ρ1) (hs : swapsWith e none pos.line X.env = pure false := by rfl) : DS X W (.Expr e pos) D ρ := fun O σ B H r w T k =>
  ws_of (ps_expr pe_we hs) (h O σ B H r w _ fun d ρ1 v B1 H1 q r1 s1 dv => k.nx ρ1 σ B1 H1 q r1 s1.b)
theorem ds_doc {s : Str} {j : Nat} {p1 : Pos} (h : D.nx ρ) : DS X W (.Expr (.Constant (.str s) j p1) pos) D ρ := fun O σ B H r w T k => ws_of ps_doc (k.nx ρ σ B H h r (Same.refl B))
theorem ds_pass (h : D.nx ρ) : DS X W (.Pass pos) D ρ := fun O σ B H r w T k => ws_of ps_pass (k.nx ρ σ B H h r (Same.refl B))
theorem ds_break (h : D.bk ρ) : DS X W (.Break pos) D ρ := fun O σ B H r w T k => ws_of ps_break (k.bk ρ σ B H h r (Same.refl B))
theorem ds_continue (h : D.ct ρ) : DS X W (.Continue pos) D ρ := fun O σ B H r w T k => ws_of ps_continue (k.ct ρ σ B H h r (Same.refl B))
/-- x.append(e), x the list of slot i -/
theorem ds_append (i : Nat) {py : Pos} {ds0 : List PyData} (h0 : ρ[i]? = some (some (.own ds0))) (h : DE X W e ρ fun d ρ1 => ∃ ds, ρ1[i]? = some (some (.own ds)) ∧ ds.length < sizeLine ∧ D.nx (ρ1.set i (some (.own (ds ++ [d])))))
    (hN : X.N[i]? = some y := by rfl) (hv : Vis X.env.scope y := by first | exact Or.inl rfl | exact Or.inr (Or.inl rfl) | exact Or.inr (Or.inr rfl)) (hd : (y == ("__debug__" : Str)) = false := by decide) (hcd : (y == ("__classdict__" : Str)) = false := by decide)
    (hs : swapsWith (.Call (.Attribute (.Name y py) "append" apos) [e] [] p) none pos.line X.env = pure false := by rfl)
    (hbase : attributeBase (.Name y py) "append" X.env (eval (.Name y py) X.env) = eval (.Name y py) X.env := by rfl)
    (hfew : ((backTo p (starEach [e] X.env)).all (fun x => !x.1) && (backToKw p (keywordEach [] X.env)).all (fun x => x.1.isSome)
      && decide (([e] : List Expr).length + ([] : List Keyword).length + (if ([] : List Keyword).isEmpty then 0 else 1) < 30)) = true := by rfl)
    (hline : (apos.endLine == p.line) = true := by rfl) (hst : starEach [e] X.env = (false, eval e X.env) :: starEach [] X.env := by rfl) (hplain : (backTo p (starEach [] X.env)).any (·.1) = false := by rfl) :
    DS X W (.Expr (.Call (.Attribute (.Name y py) "append" apos) [e] [] p) pos) D ρ := fun O σ B H r w T k => by
  obtain ⟨v, h1, ⟨l, vs, rfl, _, hl, hd'⟩, _⟩ := r.ent i _ h0
  refine ws_of (ps_expr (pe_bm PySem.F.plainAttrs_list PySem.F.slot_list_append PySem.F.type_list_append mt_append (pe_var hN hv hd hcd) (pa_cons pe_we pa_nil hst) hbase hfew hline hst hplain) hs) ⟨_, h1, .inl ⟨rfl, _, SqL.of hl⟩, h O σ B H r w _ fun d ρ1 u B1 H1 hq r1 s1 du => ?_⟩
  obtain ⟨ds, h2, hlen, q⟩ := hq
  obtain ⟨v', h1', ⟨l', vs', rfl, b2, hl2, hd2⟩, _⟩ := r1.ent i _ h2
  rw [h1] at h1'; cases h1'
  refine ⟨l, vs', u, rfl, rfl, hl2, by rw [dpa_len hd2]; exact hlen, ?_⟩
  exact k.nx _ σ _ _ q (r1.wr h2 trivial h1 (gr_wr r1.sub hl2 b2) ⟨l, _, rfl, b2, upd_same, dpa_app hd2 (.cons du .nil)⟩ fun z => z) s1.b
/-- x.extend(e), x the list of slot i -/
theorem ds_extend (i : Nat) {py : Pos} {ds0 : List PyData} (h0 : ρ[i]? = some (some (.own ds0))) (h : DE X W e ρ fun d ρ1 => ∃ ds es, d = .list es ∧ ρ1[i]? = some (some (.own ds)) ∧ ds.length + es.length ≤ sizeLine ∧ D.nx (ρ1.set i (some (.own (ds ++ es)))))
    (hN : X.N[i]? = some y := by rfl) (hv : Vis X.env.scope y := by first | exact Or.inl rfl | exact Or.inr (Or.inl rfl) | exact Or.inr (Or.inr rfl)) (hd : (y == ("__debug__" : Str)) = false := by decide) (hcd : (y == ("__classdict__" : Str)) = false := by decide)
    (hs : swapsWith (.Call (.Attribute (.Name y py) "extend" apos) [e] [] p) none pos.line X.env = pure false := by rfl)
    (hbase : attributeBase (.Name y py) "extend" X.env (eval (.Name y py) X.env) = eval (.Name y py) X.env := by rfl)
    (hfew : ((backTo p (starEach [e] X.env)).all (fun x => !x.1) && (backToKw p (keywordEach [] X.env)).all (fun x => x.1.isSome)
      && decide (([e] : List Expr).length + ([] : List Keyword).length + (if ([] : List Keyword).isEmpty then 0 else 1) < 30)) = true := by rfl)
    (hline : (apos.endLine == p.line) = true := by rfl) (hst : starEach [e] X.env = (false, eval e X.env) :: starEach [] X.env := by rfl) (hplain : (backTo p (starEach [] X.env)).any (·.1) = false := by rfl) :
    DS X W (.Expr (.Call (.Attribute (.Name y py) "extend" apos) [e] [] p) pos) D ρ := fun O σ B H r w T k => by
  obtain ⟨v, h1, ⟨l, vs, rfl, _, hl, hd'⟩, _⟩ := r.ent i _ h0
  refine ws_of (ps_expr (pe_bm PySem.F.plainAttrs_list PySem.F.slot_list_extend PySem.F.type_list_extend mt_extend (pe_var hN hv hd hcd) (pa_cons pe_we pa_nil hst) hbase hfew hline hst hplain) hs) ⟨_, h1, .inl ⟨rfl, _, SqL.of hl⟩, h O σ B H r w _ fun d ρ1 u B1 H1 hq r1 s1 du => ?_⟩
  obtain ⟨ds, es, ed, h2, hlen, q⟩ := hq
  subst ed
  obtain ⟨v', h1', ⟨l', vs', rfl, b2, hl2, hd2⟩, _⟩ := r1.ent i _ h2
  rw [h1] at h1'; cases h1'
  cases du with
  | lst ha hb =>
    refine ⟨l, _, vs', _, rfl, rfl, hl2, r1.sub _ _ ha, by rw [dpa_len hd2, dpa_len hb]; exact hlen, ?_⟩
    exact k.nx _ σ _ _ q (r1.wr h2 trivial h1 (gr_wr r1.sub hl2 b2) ⟨l, _, rfl, b2, upd_same, dpa_app hd2 hb⟩ fun z => z) s1.b
/-- x[j] = e, x the list of slot i -/
theorem ds_setIx (i : Nat) {py tp : Pos} {j : Expr} (h : DE X W e ρ fun d ρ1 => (∃ ds, ρ1[i]? = some (some (.own ds))) ∧ DE X W j ρ1 fun z ρ2 => ∃ ds q r, z = .int q ∧ ρ2[i]? = some (some (.own ds)) ∧ ixN ds.length q = some r ∧ D.nx (ρ2.set i (some (.own (ds.set r d)))))
    (hN : X.N[i]? = some y := by rfl) (hv : Vis X.env.scope y := by first | exact Or.inl rfl | exact Or.inr (Or.inl rfl) | exact Or.inr (Or.inr rfl)) (hd : (y == ("__debug__" : Str)) = false := by decide) (hcd : (y == ("__classdict__" : Str)) = false := by decide)
    (hs : swapsWithSole [.Subscript (.Name y py) j tp] e pos.line X.env = pure false := by rfl) (hw : swappedStores [.Subscript (.Name y py) j tp] e X.env = pure none := by rfl)
    (h1 : (assignEach [.Subscript (.Name y py) j tp] X.env).map (·.2) = [assign (.Subscript (.Name y py) j tp) X.env] := by rfl)
    (ha : ∀ v, assign (.Subscript (.Name y py) j tp) X.env v = (do
      let ov ← holding [v] (eval (.Name y py) X.env)
      let iv ← holding [v, ov] (eval j X.env)
      standAt tp
      holding [v, ov, iv] (setItem ov iv v)
      release [v, ov, iv] []) := by intro _; rfl) : DS X W (.Assign [.Subscript (.Name y py) j tp] e pos) D ρ := fun O σ B H r w T k => by
  refine ws_of (ps_asg pe_we (pg_sub (pe_var hN hv hd hcd) pe_we set_list ha) hs hw h1) (h O σ B H r w _ fun d ρ1 u B1 H1 hq r1 s1 du => ?_)
  obtain ⟨⟨ds1, hi⟩, hj⟩ := hq
  obtain ⟨v, h2, ⟨l, vs, rfl, _, hl, hd'⟩, _⟩ := r1.ent i _ hi
  refine ⟨_, h2, hj O σ B1 H1 r1 w _ fun z ρ2 v2 B2 H2 hq r2 s2 dz => ?_⟩
  obtain ⟨ds, q, r', ez, h3, hix, hn⟩ := hq
  subst ez; cases dz
  obtain ⟨v', h2', ⟨l', vs', rfl, b2, hl2, hd2⟩, _⟩ := r2.ent i _ h3
  rw [h2] at h2'; cases h2'
  refine ⟨l, vs', q, r', rfl, rfl, hl2, by rw [dpa_len hd2]; exact hix, ?_⟩
  exact k.nx _ σ _ _ hn (r2.wr h3 trivial h2 (gr_wr r2.sub hl2 b2) ⟨l, _, rfl, b2, upd_same, dpa_set (dp_up s2.b _ _ du) _ hd2⟩ fun z => z) (s1.b.trans s2.b)
def putD (f : Str) (v : PyData) : Fs → Fs
  | [] => [(f, v)]
  | (g, w) :: r => if g = f then (g, v) :: r else (g, w) :: putD f v r
theorem fsIs_put {K : PySem.W.Frag} {B : Hp} {f : Str} {v : V} {d : PyData} (r : Dt K B v d) : ∀ {gs : List (Str × V)} {fs : Fs}, FsIs K B gs fs → FsIs K B (putF f v gs) (putD f d fs)
  | _, _, .nil => .cons ⟨rfl, r⟩ .nil
  | (g, u) :: gs, (g', d') :: fs, .cons ⟨e, q⟩ t => by
    have e' : g = g' := e
    subst e'
    unfold putF putD
    by_cases c : g = f
    · rw [if_pos c, if_pos c]; exact .cons ⟨rfl, r⟩ t
    · rw [if_neg c, if_neg c]; exact .cons ⟨rfl, q⟩ (fsIs_put r t)
theorem fsIs_len {K : PySem.W.Frag} {B : Hp} {gs : List (Str × V)} {fs : Fs} (h : FsIs K B gs fs) : gs.length = fs.length := Paired.length h
/-- o.f = e, o the object in slot i -/
theorem ds_fld (i : Nat) {f : Str} {py tp : Pos} {c : Ob} (hc : Cls X.K c.C) (hno : NoAttr X.K c.C f) (h : DE X W e ρ fun d ρ1 => ∃ fs, ρ1[i]? = some (some (.obj c fs)) ∧ fs.length < 1000 ∧ D.nx (ρ1.set i (some (.obj c (putD f d fs)))))
    (hN : X.N[i]? = some y := by rfl) (hv : Vis X.env.scope y := by first | exact Or.inl rfl | exact Or.inr (Or.inl rfl) | exact Or.inr (Or.inr rfl)) (hd : (y == ("__debug__" : Str)) = false := by decide) (hcd : (y == ("__classdict__" : Str)) = false := by decide)
    (hs : swapsWith e (some (.Attribute (.Name y py) f tp)) pos.line X.env = pure false := by rfl) : DS X W (.Assign [.Attribute (.Name y py) f tp] e pos) D ρ := fun O σ B H r w T k => by
  refine ws_of (ps_fld (pe_var hN hv hd hcd) pe_we hs) (h O σ B H r w _ fun d ρ1 u B1 H1 hq r1 s1 du => ?_)
  obtain ⟨fs, hi, hl, q⟩ := hq
  obtain ⟨v, h2, ⟨gs, rfl, b2, hp, hf⟩, _⟩ := r1.ent i _ hi
  refine ⟨_, h2, c.a, c.C, c.dx, gs, rfl, hp, hc, hno, by rw [fsIs_len hf]; exact hl, ?_⟩
  exact k.nx _ σ _ _ q (r1.wr hi trivial h2 (gr_wr r1.sub hp b2) ⟨_, rfl, b2, upd_same, fsIs_put du hf⟩ fun z => z) s1.b
/-- x = C(..): a new object, by its __init__ -/
theorem ds_make (i : Nat) {R : Fs → List PyData → OutO → Prop} (F : KnC X.prog X.w X.K X.mg X.base y C k (spO X.K C n R)) (hr : Room (k + 1) X.A) {cp : Pos}
    (h : DA X W (a :: es) ρ fun ds ρ1 => ds.length = n ∧ ∃ out, R [] ds out ∧ match out with | .ret d fs => d = .none ∧ ∀ aa dx : Addr, D.nx (ρ1.set i (some (.obj ⟨aa, dx, C⟩ fs))) | .exc c xs => W c xs)
    (hnd : X.N.Nodup) (hN : X.N[i]? = some x := by rfl) (hx : Loc X.env.scope x := by first | exact Or.inl rfl | exact Or.inr rfl) (hg : Gl X y := by rfl)
    (hs : swapsWith (.Call (.Name y cp) (a :: es) [] apos) (some (.Name x p)) pos.line X.env = pure false := by rfl) (hf : X.fn x = true ∨ X.env.scope.names.lookup x = some .local := by first | exact .inl rfl | exact .inr rfl)
    (hdb : (y == ("__debug__" : Str)) = false := by decide) (he : starEach (a :: es) X.env = (false, eval a X.env) :: starEach es X.env := by rfl) (hpl : (backTo apos (starEach es X.env)).any (·.1) = false := by rfl) :
    DS X W (.Assign [.Name x p] (.Call (.Name y cp) (a :: es) [] apos) pos) D ρ := fun O σ B H r w T kk => by
  obtain ⟨f, fd, ps, G, hm, hmg, hb⟩ := F.ex
  refine ws_of (ps_set hnd hN hx (pe_make (E := O.E) hm G hr hg hmg hb .nil (passes_call w.tk fun _ _ _ _ h => h) pa_wa hdb he hpl) hs hf) (h O σ B H r w _ fun ds ρ1 vs B1 H1 hq r1 s1 dvs => ?_)
  obtain ⟨hl, out, hR, ho⟩ := hq
  intro xx dx nx ndx nex
  rw [List.append_nil]
  have g1 := gr_newM (o := .own xx) r1.sub ndx
  have nx' : upd H1 dx (.own xx) xx = none := by rw [upd_ne (Ne.symm nex)]; exact nx
  have g2 := g1.trans (gr_newM (o := .ins C dx []) g1.bh nx')
  have r2 := r1.grow g2
  refine ⟨xx, dx, [], vs, B1, [], ds, out, rfl, r2.sub, r1.sub.free nx, upd_same, .nil, dvs, hl, hR, ?_⟩
  cases out with
  | ret d fs =>
    obtain ⟨ed, q⟩ := ho
    intro v B2 H2 gs g3 b2 h2 f2 dv
    subst ed; cases dv
    have g4 : Gr (fun _ => False) B1 H1 B2 H2 := g2.trans' g3 fun c e => .inl (by rw [e]; exact nx)
    refine ⟨rfl, kk.nx _ _ B2 H2 (q xx dx) ((r1.grow g4).setM (e := .obj ⟨xx, dx, C⟩ fs) ⟨gs, rfl, b2, h2, f2⟩ (r1.freshO nx) fun j ej hj mj hs => ?_) (s1.b.trans g4.b)⟩
    obtain ⟨v, e1, e2, _⟩ := r1.ent j ej hj
    obtain ⟨l, el, _, hl⟩ := entIs_mu e2 mj
    rw [hs] at e1; cases e1
    cases el
    exact hl nx
  | exc cls xs =>
    intro d B2 H2 g3 dx'
    have g4 : Gr (fun _ => False) B1 H1 B2 H2 := g2.trans' g3 fun c e => .inl (by rw [e]; exact nx)
    exact w.ok cls xs d B2 H2 ho (r1.gr.trans' g4 fun _ z => z.elim) (dx'.old (r1.gr.trans' g2 fun _ z => z.elim))
end
end Pw
namespace Pw
open PySem PySem.Spec PyProof.Rows L2

/-! ### what is walked -/
structure YOk (K : PySem.W.Frag) (B : Hp) (J : It) (ds : List PyData) : Prop where
  go : ∀ (i : Nat) (H : Hp), Same B H → i < ds.length → J.go i H
  yl : ∀ (i : Nat) (H : Hp) (x : V) (H' : Hp), Same B H → i < ds.length → J.yld i H x H' → H' = H ∧ ∃ d, ds[i]? = some d ∧ Dt K B x d
  st : ∀ (H : Hp), Same B H → J.stop ds.length H
def DI (X : Cx) (W : Wx) (tg iter : Expr) (ρ : Ev) (QI : List PyData → Ev → Prop) : Prop :=
  ∀ (O : Og) (σ : L2.St) (B H : Hp), Rep X.K O σ ρ B H → Wsh O X W → ∀ R : It → Hp → Prop, (∀ ds ρ' J B' H', QI ds ρ' → Rep X.K O σ ρ' B' H' → Stp σ ρ B H ρ' B' H' → YOk X.K B' J ds → R J H') → ∃ wi : TI, PI X tg iter wi ∧ wi σ H R
section
variable {X : Cx} {W : Wx} {a b c e o tg iter elt : Expr} {es : List Expr} {ρ : Ev} {p pos apos : Pos} {x y m : Str} {k n : Nat} {C : Addr} {D : DEnds} {st : Stmt} {ss rest body orelse : List Stmt} {QI QL : List PyData → Ev → Prop}
theorem di_list (h : DE X W e ρ fun d ρ' => ∃ ds, d = .list ds ∧ QI ds ρ') : DI X W tg e ρ QI := fun O σ B H r w R k => by
  refine ⟨_, pi_list pe_we, h O σ B H r w _ fun d ρ1 v B1 H1 hq r1 s1 dv => ?_⟩
  obtain ⟨ds, ed, q⟩ := hq
  subst ed
  cases dv with
  | @lst a vs ds hb hd =>
    refine ⟨a, rfl, ⟨vs, SqL.of (r1.sub _ _ hb)⟩, k ds ρ1 _ B1 H1 q r1 s1 ⟨fun i H g hi => ?_, fun i H x H' g hi y => ?_, fun H g => ⟨vs, SqL.of (g _ _ hb), by rw [dpa_len hd]; exact Nat.le_refl _⟩⟩⟩
    · obtain ⟨v, h1, _⟩ := dpa_get hd (List.getElem?_eq_getElem hi)
      exact ⟨vs, v, SqL.of (g _ _ hb), h1⟩
    · obtain ⟨e1, y⟩ := y
      obtain ⟨v, h1, h2⟩ := dpa_get hd (List.getElem?_eq_getElem hi)
      have h3 := y vs (SqL.of (g _ _ hb))
      rw [h1] at h3; cases h3
      exact ⟨e1, _, List.getElem?_eq_getElem hi, h2⟩
theorem di_rev (hm : X.mg "reversed" = none) (h : DE X W e ρ fun d ρ' => ∃ ds, d = .list ds ∧ QI ds.reverse ρ') (hg : Gl X "reversed" := by rfl) (hs : starEach [e] X.env = [(false, eval e X.env)] := by rfl) : DI X W tg (.Call (.Name "reversed" p) [e] [] pos) ρ QI := fun O σ B H r w R k => by
  refine ⟨_, pi_reversed hg hm (pa_cons pe_we pa_nil hs) hs, h O σ B H r w _ fun d ρ1 v B1 H1 hq r1 s1 dv => ?_⟩
  obtain ⟨ds, ed, q⟩ := hq
  subst ed
  cases dv with
  | @lst a vs ds hb hd =>
    have el := dpa_len hd
    refine ⟨a, vs, rfl, SqL.of (r1.sub _ _ hb), k ds.reverse ρ1 _ B1 H1 q r1 s1 ⟨fun i H g hi => ?_, fun i H x H' g hi y => ?_, fun H g => by show vs.length ≤ _; rw [List.length_reverse, el]; exact Nat.le_refl _⟩⟩
    · rw [List.length_reverse] at hi
      obtain ⟨v, h1, _⟩ := dpa_get hd (List.getElem?_eq_getElem (show ds.length - 1 - i < ds.length by omega))
      exact ⟨by omega, vs, v, SqL.of (g _ _ hb), by rw [el]; exact h1⟩
    · rw [List.length_reverse] at hi
      obtain ⟨e1, y⟩ := y
      have hi2 : ds.length - 1 - i < ds.length := by omega
      obtain ⟨v, h1, h2⟩ := dpa_get hd (List.getElem?_eq_getElem hi2)
      have h3 := y vs (SqL.of (g _ _ hb))
      rw [el, h1] at h3; cases h3
      exact ⟨e1, _, by rw [List.getElem?_reverse hi, List.getElem?_eq_getElem hi2], h2⟩
def rangeD (lo : Int) (n : Nat) : List PyData := (List.range n).map fun (i : Nat) => .int (lo + (i : Int))
theorem yok_range {K : PySem.W.Frag} {B : Hp} (lo : Int) (n : Nat) : YOk K B (Itr lo n) (rangeD lo n) := by
  have hl : (rangeD lo n).length = n := by unfold rangeD; rw [List.length_map, List.length_range]
  refine ⟨fun i H g hi => ?_, fun i H x H' g hi y => ?_, fun H g => ?_⟩
  · rw [hl] at hi; exact hi
  · rw [hl] at hi
    obtain ⟨e1, e2⟩ := y
    subst e2
    exact ⟨e1, _, by unfold rangeD; rw [List.getElem?_map, List.getElem?_range hi]; rfl, .int _⟩
  · show n ≤ _
    rw [hl]; exact Nat.le_refl _
theorem di_range (hm : X.mg "range" = none) (h : DE X W e ρ fun d ρ' => ∃ n : Int, d = .int n ∧ -(2 ^ 62) ≤ n ∧ n < 2 ^ 62 ∧ QI (rangeD 0 n.toNat) ρ') (hg : Gl X "range" := by rfl) (hs : starEach [e] X.env = [(false, eval e X.env)] := by rfl) : DI X W tg (.Call (.Name "range" p) [e] [] pos) ρ QI := fun O σ B H r w R k => by
  refine ⟨_, pi_range1 hg hm (pa_cons pe_we pa_nil hs) hs, h O σ B H r w _ fun d ρ1 v B1 H1 hq r1 s1 dv => ?_⟩
  obtain ⟨n, ed, n1, n2, q⟩ := hq
  subst ed; cases dv
  exact ⟨n, rfl, n1, n2, k _ ρ1 _ B1 H1 q r1 s1 (yok_range 0 n.toNat)⟩

/-! ### loops -/
theorem ds_for (j : Nat) (h : DI X W (.Name x p) iter ρ fun ds ρ1 => ∃ I : Nat → Ev → Prop, I 0 ρ1 ∧ (∀ (i : Nat) (d : PyData) (ρ' : Ev), ds[i]? = some d → I i ρ' → DSs X W body { D with nx := I (i + 1), ct := I (i + 1), bk := D.nx } (ρ'.set j (some (.val d)))) ∧ ∀ ρ', I ds.length ρ' → D.nx ρ')
    (hnd : X.N.Nodup) (hc : X.calm = true := by rfl) (hp : PassesOwn (model X.prog X.w) X.A X.env X.xe := by exact passes_of rfl) (hN : X.N[j]? = some x := by rfl) (hx : Loc X.env.scope x := by first | exact Or.inl rfl | exact Or.inr rfl)
    (hf : X.fn x = true ∨ X.env.scope.names.lookup x = some .local := by first | exact .inl rfl | exact .inr rfl) (hs : ∀ v, foldedSetIterable iter X.env v = pure v := by intro _; rfl) : DS X W (.For (.Name x p) iter body [] pos) D ρ := fun O σ B H r w T k => by
  obtain ⟨wi, hpi, hw⟩ := h O σ B H r w (fun J H1 => ∃ W' : Nat → Nat → L2.St → Hp → Prop, (∃ m, W' 0 m σ H1) ∧ ∀ i m σ H, W' i m σ H → (J.stop i H ∧ T.nx σ H) ∨ (J.go i H ∧ ∃ N : L2.St → Hp → Prop, (∀ σ' H', N σ' H' → ∃ m', m' < m ∧ W' (i + 1) m' σ' H') ∧
    ∀ x H', J.yld i H x H' → gName j x σ H' fun σ2 H2 => WSs X body { T with nx := N, ct := N, bk := T.nx } σ2 H2)) (fun ds ρ1 J B1 H1 hq r1 s1 y => by
    obtain ⟨I, h0, hI, hd⟩ := hq
    refine ⟨fun i m σ' H' => m = ds.length - i ∧ i ≤ ds.length ∧ ∃ ρ' B', I i ρ' ∧ Rep X.K O σ' ρ' B' H' ∧ Same B1 B', ⟨_, rfl, Nat.zero_le _, ρ1, B1, h0, r1, Same.refl B1⟩, ?_⟩
    rintro i m σ' H' ⟨rfl, hi, ρ', B', hIi, r', g'⟩
    by_cases hlt : i < ds.length
    · refine .inr ⟨y.go i H' (g'.trans r'.sub) hlt, fun σ2 H2 => ∃ ρ2 B2, I (i + 1) ρ2 ∧ Rep X.K O σ2 ρ2 B2 H2 ∧ Same B1 B2, fun σ2 H2 ⟨ρ2, B2, q1, q2, q3⟩ => ⟨ds.length - (i + 1), by omega, rfl, hlt, ρ2, B2, q1, q2, q3⟩, fun v H2 hy => ?_⟩
      obtain ⟨e1, d, hd1, dv⟩ := y.yl i H' v H2 (g'.trans r'.sub) hlt hy
      subst e1
      show WSs X body _ (σ'.set j (some v)) H2
      exact hI i d ρ' hd1 hIi O _ B' H2 (r'.set (dp_up g' _ _ dv)) w _ ⟨fun ρ3 σ3 B3 H3 q r3 g3 => ⟨ρ3, B3, q, r3, g'.trans g3⟩, fun d3 ρ3 v3 σ3 B3 H3 q r3 g3 dv3 => k.rt d3 ρ3 v3 σ3 B3 H3 q r3 ((s1.b.trans g').trans g3) dv3, fun ρ3 σ3 B3 H3 q r3 g3 => k.nx ρ3 σ3 B3 H3 q r3 ((s1.b.trans g').trans g3), fun ρ3 σ3 B3 H3 q r3 g3 => ⟨ρ3, B3, q, r3, g'.trans g3⟩⟩
    · have e : i = ds.length := by omega
      subst e
      exact .inl ⟨y.st H' (g'.trans r'.sub), k.nx ρ' σ' B' H' (hd ρ' hIi) r' (s1.b.trans g')⟩)
  exact ws_of (ps_for hp hc hpi (pg_name hnd hN hx hf) pss_wss hs) hw
theorem ds_while (I : Nat → Ev → Prop) (m0 : Nat) (h0 : I m0 ρ) (h : ∀ (m : Nat) (ρ' : Ev), I m ρ' → DT X W c ρ' fun b ρ2 => if b = true then DSs X W body { D with nx := fun ρ3 => ∃ m', m' < m ∧ I m' ρ3, ct := fun ρ3 => ∃ m', m' < m ∧ I m' ρ3, bk := D.nx } ρ2 else D.nx ρ2)
    (hp : PassesOwn (model X.prog X.w) X.A X.env X.xe := by exact passes_of rfl) : DS X W (.While c body [] pos) D ρ := fun O σ B H r w T k => by
  refine ws_of (ps_while hp pt_wt pss_wss) ⟨fun m σ' H' => ∃ ρ' B', I m ρ' ∧ Rep X.K O σ' ρ' B' H' ∧ Same B B', ⟨m0, ρ, B, h0, r, Same.refl B⟩, ?_⟩
  rintro m σ' H' ⟨ρ', B', hI, r', g'⟩
  refine h m ρ' hI O σ' B' H' r' w _ fun b ρ2 B2 H2 q r2 s2 => ?_
  cases b with
  | true =>
    rw [if_pos rfl] at q ⊢
    refine ⟨fun σ3 H3 => ∃ m', m' < m ∧ ∃ ρ3 B3, I m' ρ3 ∧ Rep X.K O σ3 ρ3 B3 H3 ∧ Same B B3, fun σ3 H3 ⟨m', l, z⟩ => ⟨m', l, z⟩, q O σ' B2 H2 r2 w _ ⟨fun ρ3 σ3 B3 H3 q3 r3 g3 => ?_, fun d3 ρ3 v3 σ3 B3 H3 q3 r3 g3 dv3 => k.rt d3 ρ3 v3 σ3 B3 H3 q3 r3 ((g'.trans s2.b).trans g3) dv3, fun ρ3 σ3 B3 H3 q3 r3 g3 => k.nx ρ3 σ3 B3 H3 q3 r3 ((g'.trans s2.b).trans g3), fun ρ3 σ3 B3 H3 q3 r3 g3 => ?_⟩⟩
    · obtain ⟨m', l, hI'⟩ := q3
      exact ⟨m', l, ρ3, B3, hI', r3, (g'.trans s2.b).trans g3⟩
    · obtain ⟨m', l, hI'⟩ := q3
      exact ⟨m', l, ρ3, B3, hI', r3, (g'.trans s2.b).trans g3⟩
  | false =>
    rw [if_neg Bool.false_ne_true] at q ⊢
    exact k.nx ρ2 σ' B2 H2 q r2 (g'.trans s2.b)

/-! ### list comprehensions -/
section
variable {K : PySem.W.Frag} {O : Og} {σ : L2.St} {B H B' H' : Hp}
/-- a thing that no slot holds is written -/
theorem Rep.other (r : Rep K O σ ρ B H) {q : Addr} (g : Gr (fun a => a = q) B H B' H') (n : ¬ Mu σ ρ q) (hO : O.H q = none) : Rep K O σ ρ B' H' where
  gr := r.gr.trans' g fun c e => .inl (by rw [e]; exact hO)
  len := r.len
  ent := fun i e h => by
    obtain ⟨v, h1, h2, h3⟩ := r.ent i e h
    refine ⟨v, h1, entIs_up g h2 (fun l me ev z => ?_), h3⟩
    subst z
    exact n ⟨i, e, h, me, by rw [h1, ev]⟩
  sep := r.sep
/-- a slot's value is taken back -/
theorem Rep.unset {i : Nat} {v : Option V} {d : PyData} (r0 : σ.length = ρ.length) (hi : ρ[i]? = some none) (r : Rep K O (σ.set i v) (ρ.set i (some (.val d))) B H) : Rep K O σ ρ B H where
  gr := r.gr
  len := r0
  ent := fun j e h => by
    have nj : j ≠ i := fun z => by rw [z, hi] at h; cases h
    obtain ⟨u, h1, h2, h3⟩ := r.ent j e (by rw [List.getElem?_set_ne (Ne.symm nj)]; exact h)
    exact ⟨u, by rw [List.getElem?_set_ne (Ne.symm nj)] at h1; exact h1, h2, h3⟩
  sep := fun j k ej ek u hj hk mj mk sj sk => by
    have nj : j ≠ i := fun z => by rw [z, hi] at hj; cases hj
    have nk : k ≠ i := fun z => by rw [z, hi] at hk; cases hk
    exact r.sep j k ej ek u (by rw [List.getElem?_set_ne (Ne.symm nj)]; exact hj) (by rw [List.getElem?_set_ne (Ne.symm nk)]; exact hk) mj mk (by rw [List.getElem?_set_ne (Ne.symm nj)]; exact sj) (by rw [List.getElem?_set_ne (Ne.symm nk)]; exact sk)
theorem mu_set {i : Nat} {v : Option V} {d : PyData} {a : Addr} (h : Mu (σ.set i v) (ρ.set i (some (.val d))) a) : Mu σ ρ a := by
  obtain ⟨j, e, hj, me, hs⟩ := h
  rcases set_some (e' := none) hj with ⟨rfl, e1⟩ | ⟨nj, hj'⟩
  · cases e1; exact me.elim
  · exact ⟨j, e, hj', me, by rw [List.getElem?_set_ne (Ne.symm nj)] at hs; exact hs⟩
theorem mu_there (r : Rep K O σ ρ B H) {a : Addr} (h : Mu σ ρ a) : H a ≠ none := by
  obtain ⟨j, e, hj, me, hs⟩ := h
  obtain ⟨v, h1, h2, _⟩ := r.ent j e hj
  obtain ⟨l, el, _, hl⟩ := entIs_mu h2 me
  rw [hs] at h1; cases h1; cases el
  exact hl
theorem Rep.noE (r : Rep K O σ ρ B H) : Rep K { O with E := fun _ _ _ => False } σ ρ B H := ⟨r.gr, r.len, r.ent, r.sep⟩
theorem Rep.withE (r : Rep K { O with E := fun _ _ _ => False } σ ρ B H) : Rep K O σ ρ B H := ⟨r.gr, r.len, r.ent, r.sep⟩
theorem dpa_snoc {vs : List V} {fs : List PyData} {i : Nat} {v : V} {d : PyData} (h : DtAll K B vs (fs.take i)) (hv : Dt K B v d) (hd : fs[i]? = some d) : DtAll K B (vs ++ [v]) (fs.take (i + 1)) := by
  obtain ⟨hi, e⟩ := List.getElem?_eq_some_iff.mp hd
  rw [List.take_add_one, hd]
  exact dpa_app h (.cons hv .nil)
end
/-- the block's reading -/
def teB (X : Cx) (scope : Scope) (elt : Expr) : TE := fun σ H Q => ∀ (s : Shared) (H0 : Hp) (C : Addr) (cl : List (Str × Addr)) (fp : List Addr), WE (X.blk s H0 scope (compEnvC scope cl C X.env) fp) elt σ H Q
theorem lc_run (i : Nat) {scope : Scope} (hw : ∀ O σ B H, Rep X.K O σ ρ B H → Wsh O X W → ∀ R : It → Hp → Prop, (∀ ds ρ' J B' H', (ρ'[i]? = some none ∧ ∃ fs : List PyData, fs.length = ds.length ∧ fs.length ≤ sizeLine ∧ (∀ (s : Shared) (H0 : Hp) (C : Addr) (cl : List (Str × Addr)) (fp : List Addr) (j : Nat) (d r : PyData), ds[j]? = some d → fs[j]? = some r →
      DE (X.blk s H0 scope (compEnvC scope cl C X.env) fp) (fun _ _ => False) elt (ρ'.set i (some (.val d))) fun r' ρ2 => r' = r ∧ ρ2 = ρ'.set i (some (.val d))) ∧ QL fs ρ') → Rep X.K O σ ρ' B' H' → Stp σ ρ B H ρ' B' H' → YOk X.K B' J ds → R J H') → ∃ wi : TI, PI X tg iter wi ∧ wi σ H R)
    {O : Og} {σ : L2.St} {B H : Hp} (rep : Rep X.K O σ ρ B H) (ws : Wsh O X W) {R : VK} (k : ∀ ds ρ' l vs B' H', QL ds ρ' → Rep X.K O σ ρ' B' H' → Stp σ ρ B H ρ' B' H' → H l = none → B' l = none → H' l = some (.lst vs) → DtAll X.K B' vs ds →
    (∀ (j : Nat) (ej : Ent), ρ'[j]? = some (some ej) → ej.mu → σ[j]? ≠ some (some (.ref l))) → R (.ref l) H') : ∃ wi : TI, PI X tg iter wi ∧ tLc wi (gName i) tYes (teB X scope elt) [i] σ H R := by
  obtain ⟨wi, hpi, hq⟩ := hw O σ B H rep ws (fun J H1 => ∀ D, H1 D = none → ∃ W' : Nat → Nat → Hp → Prop, (∃ m, W' 0 m (upd H1 D (.lst []))) ∧ ∀ i' m H, W' i' m H →
    (J.stop i' H ∧ R (.ref D) H) ∨ (J.go i' H ∧ ∃ Nx : Hp → Prop, (∀ H', Nx H' → ∃ m', m' < m ∧ W' (i' + 1) m' H') ∧ ∀ x H', J.yld i' H x H' → gName i x (wipe σ [i]) H' fun σ2 H2 => wipe σ2 [i] = wipe σ [i] ∧ tYes σ2 H2 fun b H3 =>
      if b = true then teB X scope elt σ2 H3 fun y H4 => ∃ acc, H4 D = some (.lst acc) ∧ acc.length < sizeLine ∧ Nx (upd H4 D (.lst (acc ++ [y]))) else Nx H3)) (fun ds ρ1 J B1 H1 hh r1 s1 y => by
  obtain ⟨hi, fs, hfl, hfz, hel, hQ⟩ := hh
  intro D hD
  have nD : ¬ Mu σ ρ1 D := fun z => mu_there r1 z hD
  have oD : O.H D = none := r1.freshO hD
  have g0 := gr_newM (o := .lst []) r1.sub hD
  refine ⟨fun i' m H' => m = ds.length - i' ∧ i' ≤ ds.length ∧ ∃ B' vs, Rep X.K O σ ρ1 B' H' ∧ Stp σ ρ1 B1 H1 ρ1 B' H' ∧ H' D = some (.lst vs) ∧ B' D = none ∧ DtAll X.K B' vs (fs.take i'), ⟨_, rfl, Nat.zero_le _, B1, [], r1.grow g0, (Stp.refl r1).gro g0, upd_same, r1.sub.free hD, .nil⟩, ?_⟩
  rintro i' m H' ⟨rfl, hi', B', vs, r', s', hH, hB, hvs⟩
  have gg : Same B1 H' := s'.b.trans r'.sub
  by_cases hlt : i' < ds.length
  · refine .inr ⟨y.go i' H' gg hlt, fun H2 => i' + 1 ≤ ds.length ∧ ∃ B2 vs2, Rep X.K O σ ρ1 B2 H2 ∧ Stp σ ρ1 B1 H1 ρ1 B2 H2 ∧ H2 D = some (.lst vs2) ∧ B2 D = none ∧ DtAll X.K B2 vs2 (fs.take (i' + 1)), fun H2 z => ⟨ds.length - (i' + 1), by omega, rfl, z⟩, fun v H2 hy => ?_⟩
    obtain ⟨e1, d, hd1, dv⟩ := y.yl i' H' v H2 gg hlt hy
    subst e1
    have e2 : (wipe σ [i]).set i (some v) = σ.set i (some v) := by
      show ((σ.set i none).set i (some v)) = _
      rw [List.set_set]
    show wipe ((wipe σ [i]).set i (some v)) [i] = wipe σ [i] ∧ _
    refine ⟨by rw [e2]; show (σ.set i (some v)).set i none = σ.set i none; rw [List.set_set], ?_⟩
    unfold tYes
    refine iteT ?_
    rw [e2]
    have hlt2 : i' < fs.length := by omega
    intro s0 H0 C cl fp
    have rb : Rep X.K O (σ.set i (some v)) (ρ1.set i (some (.val d))) B' H2 := r'.set (dp_up s'.b _ _ dv)
    refine hel s0 H0 C cl fp i' d fs[i'] hd1 (List.getElem?_eq_getElem hlt2) { O with E := fun _ _ _ => False } _ B' H2 rb.noE ⟨takes0, fun _ _ _ _ _ z => z.elim⟩ _ fun r ρ2 u B3 H3 hr r3 s3 du => ?_
    obtain ⟨er, eρ⟩ := hr
    subst er; subst eρ
    have nD2 : ¬ Mu (σ.set i (some v)) (ρ1.set i (some (.val d))) D := fun z => nD (mu_set z)
    have hH3 : H3 D = some (.lst vs) := s3.gr.h D _ nD2 hH
    have hB3 : B3 D = none := (s3.gr.nw D nD2 (by rw [hH]; exact fun z => nomatch z)).trans hB
    have r4 : Rep X.K O σ ρ1 B3 H3 := Rep.unset (v := some v) (d := d) r1.len hi r3.withE
    have g4 := gr_wr (o := .lst (vs ++ [u])) r4.sub hH3 hB3
    refine ⟨vs, hH3, ?_, hlt, B3, vs ++ [u], r4.other g4 nD oD, ⟨(s'.gr.trans' s3.gr fun c z => .inr (mu_set z)).trans' g4 fun c e => .inl (by rw [e]; exact hD), fun _ z => z⟩, upd_same, hB3, dpa_snoc (dpAll_up s3.b _ _ hvs) du (List.getElem?_eq_getElem hlt2)⟩
    have hl := dpa_len hvs
    rw [List.length_take] at hl
    omega
  · have e : i' = ds.length := by omega
    subst e
    refine .inl ⟨y.st H' gg, k fs ρ1 D vs B' H' hQ r' (s1.trans s') ?_ hB hH (by rw [← hfl, List.take_length] at hvs; exact hvs) fun j ej hj mj hs => nD ⟨j, ej, hj, mj, hs⟩⟩
    cases z : H D with
    | none => rfl
    | some o => exact absurd hD (s1.gr.dom D (by rw [z]; exact fun q => nomatch q)))
  exact ⟨wi, hpi, hq⟩
theorem pe_teB {scope : Scope} (s : Shared) (H : Hp) (C : Addr) (cl : List (Str × Addr)) (fp : List Addr) : PE (X.blk s H scope (compEnvC scope cl C X.env) fp) elt (teB X scope elt) := ⟨fun pins s0 σ H1 Q I h => h s H C cl fp pins s0 I⟩
/-- [elt for x in iter] -/
theorem dl_lc (i : Nat) {scope : Scope} (h : DI X W (.Name x p) iter ρ fun ds ρ' => ρ'[i]? = some none ∧ ∃ fs : List PyData, fs.length = ds.length ∧ fs.length ≤ sizeLine ∧ (∀ (s : Shared) (H0 : Hp) (C : Addr) (cl : List (Str × Addr)) (fp : List Addr) (j : Nat) (d r : PyData), ds[j]? = some d → fs[j]? = some r →
      DE (X.blk s H0 scope (compEnvC scope cl C X.env) fp) (fun _ _ => False) elt (ρ'.set i (some (.val d))) fun r' ρ2 => r' = r ∧ ρ2 = ρ'.set i (some (.val d))) ∧ QL fs ρ') (hnd : X.N.Nodup) (hc : X.calm = true := by rfl) (ok : BlkOk X.N X.env.scope scope [(x, i)] := by exact blkOk_by (by decide +kernel))
    (hg : ∀ (s : Shared) (H : Hp) (C : Addr) (cl : List (Str × Addr)) (fp : List Addr), PG (X.blk s H scope (compEnvC scope cl C X.env) fp) (.Name x p) (gName i) := by exact fun _ _ _ _ _ => pg_name (by assumption) rfl (Or.inl rfl))
    (hs : ∀ x, foldedSetIterable iter X.env x = pure x := by intro _; rfl) : DL X W (.ListComp elt [⟨.Name x p, iter, [], 0⟩] scope pos) ρ QL := fun O σ B H r w R k => by
  obtain ⟨wi, hpi, hq⟩ := lc_run i h r w k
  exact we_of (pe_lc (own := [(x, i)]) hc hnd hpi ok hg (fun _ _ _ _ _ => pts_nil) pe_teB hs) hq
/-- y = [elt for x in iter], y a local name -/
theorem ds_lc (i j : Nat) {scope : Scope} {py : Pos} (h : DI X W (.Name x p) iter ρ fun ds ρ' => ρ'[i]? = some none ∧ ∃ fs : List PyData, fs.length = ds.length ∧ fs.length ≤ sizeLine ∧ (∀ (s : Shared) (H0 : Hp) (C : Addr) (cl : List (Str × Addr)) (fp : List Addr) (j : Nat) (d r : PyData), ds[j]? = some d → fs[j]? = some r →
      DE (X.blk s H0 scope (compEnvC scope cl C X.env) fp) (fun _ _ => False) elt (ρ'.set i (some (.val d))) fun r' ρ2 => r' = r ∧ ρ2 = ρ'.set i (some (.val d))) ∧ D.nx (ρ'.set j (some (.val (.list fs))))) (hnd : X.N.Nodup) (hN : X.N[j]? = some y := by rfl) (hyl : X.env.scope.names.lookup y = some .local := by rfl)
    (hsw : swapsWith (.ListComp elt [⟨.Name x p, iter, [], 0⟩] scope apos) (some (.Name y py)) pos.line X.env = pure true := by exact sw_true rfl rfl rfl (by decide +kernel)) (hc : X.calm = true := by rfl) (ok : BlkOk X.N X.env.scope scope [(x, i)] := by exact blkOk_by (by decide +kernel))
    (hg : ∀ (s : Shared) (H : Hp) (C : Addr) (cl : List (Str × Addr)) (fp : List Addr), PG (X.blk s H scope (compEnvC scope cl C X.env) fp) (.Name x p) (gName i) := by exact fun _ _ _ _ _ => pg_name (by assumption) rfl (Or.inl rfl))
    (hs : ∀ x, foldedSetIterable iter X.env x = pure x := by intro _; rfl) : DS X W (.Assign [.Name y py] (.ListComp elt [⟨.Name x p, iter, [], 0⟩] scope apos) pos) D ρ := fun O σ B H r w T k => by
  obtain ⟨wi, hpi, hq⟩ := lc_run (QL := fun fs ρ' => D.nx (ρ'.set j (some (.val (.list fs))))) i h r w (R := fun v H' => T.nx (σ.set j (some v)) H') fun fs ρ' l vs B' H' q r' s' o' b' h' d' n' => by
    have g2 := gr_free (o := .lst vs) r'.sub h' b'
    refine k.nx _ _ _ H' q (Rep.set (r'.other g2 (fun ⟨j', ej, hj, mj, hs'⟩ => n' j' ej hj mj hs') (r.freshO o')) (.lst upd_same (dpAll_up g2.b _ _ d'))) (s'.b.trans g2.b)
  exact ws_of (ps_setLc (own := [(x, i)]) hc hnd hN hyl hsw hpi ok hg (fun _ _ _ _ _ => pts_nil) pe_teB hs) hq
end
end Pw
namespace Pw
open PySem PySem.Spec PyProof.Rows L2

def startE (N : List Str) (ds : List PyData) : Ev := ds.map (fun d => some (Ent.val d)) ++ List.replicate (N.length - ds.length) none
def startO (N : List Str) (c : Ob) (fs : Fs) (ds : List PyData) : Ev := some (Ent.obj c fs) :: ds.map (fun d => some (Ent.val d)) ++ List.replicate (N.length - (ds.length + 1)) none
section
variable {P : Program} {w : World} {K : PySem.W.Frag} {mg : Str → Option Value} {base : Heap}
theorem ev_val {ds : List PyData} {n i : Nat} {e : Ent} (h : (ds.map (fun d => some (Ent.val d)) ++ List.replicate n none)[i]? = some (some e)) : ∃ d, ds[i]? = some d ∧ e = .val d := by
  by_cases c : i < ds.length
  · rw [List.getElem?_append_left (by simpa using c), List.getElem?_map, List.getElem?_eq_getElem c] at h
    exact ⟨ds[i], List.getElem?_eq_getElem c, (Option.some.inj (Option.some.inj h)).symm⟩
  · rw [List.getElem?_append_right (by simpa using c), List.getElem?_replicate] at h
    split at h
    · cases h
    · cases h
theorem st_val {vs : List V} {n i : Nat} {v : V} (h : vs[i]? = some v) : (vs.map some ++ List.replicate n (none : Option V))[i]? = some (some v) := by
  have c := (List.getElem?_eq_some_iff.mp h).1
  rw [List.getElem?_append_left (by simpa using c), List.getElem?_map, h]; rfl
theorem rep_start {N : List Str} {B H : Hp} {vs : List V} {ds : List PyData} {E : XK} (g : Same B H) (d : DtAll K B vs ds) : Rep K ⟨B, H, fun _ => False, E⟩ (L2.start N vs) (startE N ds) B H where
  gr := Gr.refl g
  len := by unfold L2.start startE; rw [List.length_append, List.length_append, List.length_map, List.length_map, List.length_replicate, List.length_replicate, dpa_len d]
  ent := fun i e h => by
    obtain ⟨x, hx, rfl⟩ := ev_val h
    obtain ⟨v, h1, h2⟩ := dpa_get d hx
    exact ⟨v, st_val h1, h2, fun z => z.elim⟩
  sep := fun i j ei ej v hi hj mi => by
    obtain ⟨x, hx, rfl⟩ := ev_val hi
    exact mi.elim
theorem rep_startO {N : List Str} {B H : Hp} {c : Ob} {gs : List (Str × V)} {fs : Fs} {vs : List V} {ds : List PyData} {E : XK} (g : Same B H) (bp : B c.a = none) (hp : H c.a = some (.ins c.C c.dx gs)) (hf : FsIs K B gs fs) (d : DtAll K B vs ds) :
    Rep K ⟨B, H, fun a => a = c.a, E⟩ (L2.start N (.ref c.a :: vs)) (startO N c fs ds) B H where
  gr := Gr.refl g
  len := by simp [L2.start, startO, dpa_len d]
  ent := fun i e h => by
    cases i with
    | zero => cases h; exact ⟨_, rfl, ⟨gs, rfl, bp, hp, hf⟩, fun _ => ⟨c.a, rfl, .inr ⟨rfl, trivial⟩⟩⟩
    | succ i =>
      obtain ⟨x, hx, rfl⟩ := ev_val (i := i) (n := N.length - (ds.length + 1)) (by simpa [startO] using h)
      obtain ⟨v, h1, h2⟩ := dpa_get d hx
      exact ⟨v, by have := st_val (n := N.length - (V.ref c.a :: vs).length) h1; simpa [L2.start] using this, h2, fun z => z.elim⟩
  sep := fun i j ei ej v hi hj mi mj si sj => by
    have z : ∀ {i : Nat} {ei : Ent}, (startO N c fs ds)[i]? = some (some ei) → ei.mu → i = 0 := fun {i ei} hi mi => by
      cases i with
      | zero => rfl
      | succ i =>
        obtain ⟨x, hx, rfl⟩ := ev_val (i := i) (n := N.length - (ds.length + 1)) (by simpa [startO] using hi)
        exact mi.elim
    rw [z hi mi, z hj mj]
/-- a def of the text over data -/
theorem kn_def {x qual : Str} {st : Stmt} {f : Addr} {fd : FuncData} {N ps : List Str} {k n : Nat} {R : List PyData → Out → Prop} (F : Fun K x qual st f fd) (S : FnScope N ps (defScope st)) (hm : mg x = some (.ref f)) (hb : L2.Binds K fd ps []) (hn : ps.length = n)
    (body : ∀ (cdv : Value) (A : Around) (outer : List Env) (s : Shared) (H : Hp) (E : XK), Room k (A.deeper (envOfC qual (defScope st) s.heap.objs.size f cdv)) → ∀ (ds : List PyData) (out : Out), ds.length = n → R ds out →
      DSs (cxOf (L2.CX P w) P w K mg base N qual (defScope st) f cdv A outer s H E) (fun c xs => out = .exc c xs) (defBody st) { nx := fun _ => out = .ret .none, rt := fun d _ => out = .ret d } (startE N ds)) :
    Kn P w K mg base x (k + 1) (spP K n R) := by
  refine ⟨f, fd, ps, F.okX S (fun vs H Q E h => ?_) (fun cdv A outer s H vs Q E hr h => ⟨_, pss_wss, ?_⟩), hm, F.kp, hb⟩
  · obtain ⟨B, ds, out, _, d, hl, _⟩ := h
    rw [dpa_len d, hl, hn]
  · obtain ⟨B, ds, out, g, d, hl, hR, post⟩ := h
    refine body cdv A outer s H E hr ds out hl hR ⟨B, H, fun _ => False, E⟩ _ B H (rep_start g d) ⟨takes_of rfl rfl rfl rfl, fun cls xs d B' H' e g' x => ?_⟩ _ ⟨fun ρ' σ' B' H' e r' _ => ?_, fun d ρ' v σ' B' H' e r' _ dv => ?_, fun _ _ _ _ z => z.elim, fun _ _ _ _ z => z.elim⟩
    · subst e; exact post d B' H' g' x
    · subst e; exact post .non B' H' r'.gr .non
    · subst e; exact post v B' H' r'.gr dv
/-- a def that changes its first argument -/
theorem okO_def {x qual : Str} {st : Stmt} {f C : Addr} {fd : FuncData} {N ps : List Str} {k n : Nat} {R : Fs → List PyData → OutO → Prop} (F : Fun K x qual st f fd) (S : FnScope N ps (defScope st)) (hn : ps.length = n + 1)
    (body : ∀ (cdv : Value) (A : Around) (outer : List Env) (s : Shared) (H : Hp) (E : XK), Room k (A.deeper (envOfC qual (defScope st) s.heap.objs.size f cdv)) → ∀ (c : Ob) (fs : Fs) (ds : List PyData) (out : OutO), c.C = C → ds.length = n → R fs ds out →
      DSs (cxOf (L2.CX P w) P w K mg base N qual (defScope st) f cdv A outer s H E) (fun cl xs => out = .exc cl xs) (defBody st) { nx := fun ρ => ∃ fs', ρ[0]? = some (some (.obj c fs')) ∧ out = .ret .none fs', rt := fun d ρ => ∃ fs', ρ[0]? = some (some (.obj c fs')) ∧ out = .ret d fs' } (startO N c fs ds)) :
    FnOk P w K mg base (L2.CX P w) (k + 1) f fd ps (spO K C n R) := by
  refine F.okX S (fun vs H Q E h => ?_) (fun cdv A outer s H vs Q E hr h => ⟨_, pss_wss, ?_⟩)
  · obtain ⟨p, dx, gs, vs', B, fs, ds, out, rfl, _, _, _, _, d, hl, _⟩ := h
    rw [List.length_cons, dpa_len d, hl, hn]
  · obtain ⟨p, dx, gs, vs', B, fs, ds, out, rfl, g, bp, hp, hf, d, hl, hR, post⟩ := h
    have fin : ∀ (d : PyData) (fs' : Fs) (v : V) (σ' : L2.St) (ρ' : Ev) (B' H' : Hp), out = .ret d fs' → ρ'[0]? = some (some (.obj ⟨p, dx, C⟩ fs')) → Rep K ⟨B, H, fun a => a = p, E⟩ σ' ρ' B' H' → Dt K B' v d → Q v H' := fun d fs' v σ' ρ' B' H' e h0 r' dv => by
      subst e
      obtain ⟨v', _, ⟨gs', _, b', h', f'⟩, _⟩ := r'.ent 0 _ h0
      exact post v B' H' gs' r'.gr b' h' f' dv
    refine body cdv A outer s H E hr ⟨p, dx, C⟩ fs ds out rfl hl hR ⟨B, H, fun a => a = p, E⟩ _ B H (rep_startO (c := ⟨p, dx, C⟩) g bp hp hf d) ⟨takes_of rfl rfl rfl rfl, fun cls xs d B' H' e g' x => ?_⟩ _ ⟨fun ρ' σ' B' H' e r' _ => ?_, fun d ρ' v σ' B' H' e r' _ dv => ?_, fun _ _ _ _ z => z.elim, fun _ _ _ _ z => z.elim⟩
    · subst e; exact post d B' H' g' x
    · obtain ⟨fs', h0, e⟩ := e; exact fin _ fs' .non σ' ρ' B' H' e h0 r' .non
    · obtain ⟨fs', h0, e⟩ := e; exact fin d fs' v σ' ρ' B' H' e h0 r' dv
theorem knO_def {x qual : Str} {st : Stmt} {f C : Addr} {fd : FuncData} {N ps : List Str} {k n : Nat} {R : Fs → List PyData → OutO → Prop} (F : Fun K x qual st f fd) (S : FnScope N ps (defScope st)) (hm : mg x = some (.ref f)) (hb : L2.Binds K fd ps []) (hn : ps.length = n + 1)
    (body : ∀ (cdv : Value) (A : Around) (outer : List Env) (s : Shared) (H : Hp) (E : XK), Room k (A.deeper (envOfC qual (defScope st) s.heap.objs.size f cdv)) → ∀ (c : Ob) (fs : Fs) (ds : List PyData) (out : OutO), c.C = C → ds.length = n → R fs ds out →
      DSs (cxOf (L2.CX P w) P w K mg base N qual (defScope st) f cdv A outer s H E) (fun cl xs => out = .exc cl xs) (defBody st) { nx := fun ρ => ∃ fs', ρ[0]? = some (some (.obj c fs')) ∧ out = .ret .none fs', rt := fun d ρ => ∃ fs', ρ[0]? = some (some (.obj c fs')) ∧ out = .ret d fs' } (startO N c fs ds)) :
    Kn P w K mg base x (k + 1) (spO K C n R) := ⟨f, fd, ps, okO_def F S hn body, hm, F.kp, hb⟩
/-- nothing is asked of it -/
theorem kn_none {x qual : Str} {st : Stmt} {f : Addr} {fd : FuncData} {ps : List Str} {k : Nat} {sp : Sp} (F : Fun K x qual st f fd) (hm : mg x = some (.ref f)) (hb : L2.Binds K fd ps []) (no : ∀ vs H Q E, ¬ sp vs H Q E) : Kn P w K mg base x k sp :=
  ⟨f, fd, ps, ⟨fun vs H Q E h => absurd h (no vs H Q E), fun A outer s H args us vs Q E _ _ _ _ h => absurd h (no vs H Q E)⟩, hm, F.kp, hb⟩
theorem Kn.mono {x : Str} {j k : Nat} {sp : Sp} (F : Kn P w K mg base x j sp) (h : j ≤ k) : Kn P w K mg base x k sp := let ⟨f, fd, ps, G, a, b, c⟩ := F.ex; ⟨f, fd, ps, G.mono h, a, b, c⟩
theorem KnM.mono {C : Addr} {x : Str} {j k : Nat} {sp : Sp} (F : KnM P w K mg base C x j sp) (h : j ≤ k) : KnM P w K mg base C x k sp := let ⟨f, fd, ps, G, a, b⟩ := F.ex; ⟨⟨f, fd, ps, G.mono h, a, b⟩, F.cl⟩
end

/-! ### raise -/
section
variable {X : Cx} {W : Wx} {a b c e o : Expr} {es : List Expr} {ρ : Ev} {p pos apos : Pos} {x : Str} {C : Addr} {D : DEnds}
/-- raise X('..'), X an own class without __init__ -/
theorem ds_raise0 {m : Str} {j : Nat} {p2 : Pos} {bmB : List Value} {B newId initId : String} (F : ExcBaseFacts B newId initId bmB) (q : PySem.W.excIn X.K C bmB newId = true) (gC : X.mg x = some (.ref C)) (kC : PySem.W.keepIn X.K (.ref C) = true) (r : Raises X (.ref C)) (h : W (.ref C) [])
    (hg : Gl X x := by rfl) (hc : X.calm = true := by rfl) (hdb : (x == ("__debug__" : Str)) = false := by decide) : DS X W (.Raise (some (.Call (.Name x p) [.Constant (.str m) j p2] [] apos)) none pos) D ρ := fun O σ B H rep w T k =>
  ws_of (ps_raise hc w.tk (pmk_own F q gC kC r hg hdb)) (w.ok _ _ _ B H h rep.gr (.inl ⟨rfl, rfl⟩))
end
end Pw
namespace Pw
open PySem PySem.Spec PyProof.Rows L2

/-! ### an own exception whose __init__ stores its one argument in a field -/
def spXI (C : Addr) (f : Str) : Sp := fun vs H Q _ => ∃ (a : Addr) (v : V), vs = [.ref a, v] ∧ H a = some (exo a C none) ∧ ∀ dx : Addr, H dx = none → dx ≠ a → Q .non (upd (upd H dx (exd dx [(f, v)])) a (exo a C (some dx)))
section
variable {P : Program} {w : World} {K : PySem.W.Frag} {mg : Str → Option Value} {base : Heap}
/-- def __init__(self, f): self.f = f -/
theorem ok_xinit {qual f y : Str} {st : Stmt} {fI C : Addr} {fd : FuncData} {N : List Str} {p1 p2 p3 p4 : Pos} (F : Fun K "__init__" qual st fI fd) (S : FnScope N ["self", f] (defScope st)) (T : OexC K C) (hno : PySem.W.findIn K (.ref C) f = some none)
    (hb : defBody st = [.Assign [.Attribute (.Name "self" p1) f p2] (.Name f p3) p4])
    (hv : ∀ X : Cx, X.N = N → X.env.scope = defScope st → PE X (.Name "self" p1) (tVar 0) ∧ PE X (.Name f p3) (tVar 1)) (hs : ∀ env : Env, swapsWith (.Name f p3) (some (.Attribute (.Name "self" p1) f p2)) p4.line env = pure false := by intro _; rfl) :
    FnOk P w K mg base (L2.CX P w) 1 fI fd ["self", f] (spXI C f) := by
  refine F.okX S (fun vs H Q E h => ?_) (fun cdv A outer s H vs Q E hr h => ?_)
  · obtain ⟨a, v, rfl, _⟩ := h; rfl
  · obtain ⟨a, v, rfl, ha, k⟩ := h
    obtain ⟨h1, h2⟩ := hv (cxOf (L2.CX P w) P w K mg base N qual (defScope st) fI cdv A outer s H E) rfl rfl
    refine ⟨_, by rw [hb]; exact pss_one (ps_ost h1 h2 (hs _)), ?_⟩
    exact ⟨v, rfl, _, rfl, a, C, rfl, T, hno, .inl ⟨ha, fun dx n ne => k dx n ne⟩⟩
end
section
variable {X : Cx} {W : Wx} {a b c e o : Expr} {es : List Expr} {ρ : Ev} {p pos apos : Pos} {x f : Str} {C : Addr} {D : DEnds}
/-- raise X(e) of such a class -/
theorem ds_raise1 {fI : Addr} {fd : FuncData} {ps : List Str} (T : OexC X.K C) (iC : PySem.W.findIn X.K (.ref C) "__init__" = some (some (.ref fI))) (tI : PySem.W.typeIn X.K (.ref fI) = some (.type "function"))
    (F1 : FnOk X.prog X.w X.K X.mg X.base (L2.CX X.prog X.w) 1 fI fd ps (spXI C f)) (hr : Room 2 X.A) (hb : L2.Binds X.K fd ps []) (hm : X.mg x = some (.ref C)) (h : DE X W e ρ fun d ρ1 => W (.ref C) [(f, d)])
    (hg : Gl X x := by rfl) (hc : X.calm = true := by rfl) (hdb : (x == ("__debug__" : Str)) = false := by decide) (he : starEach [e] X.env = (false, eval e X.env) :: starEach [] X.env := by rfl) (hpl : (backTo apos (starEach [] X.env)).any (·.1) = false := by rfl) :
    DS X W (.Raise (some (.Call (.Name x p) [e] [] apos)) none pos) D ρ := fun O σ B H rep w T' k =>
  ws_of (ps_raise hc w.tk (pmk_oex T iC tI F1 hr hb .nil passL hg hm (pa_cons pe_we pa_nil he) hdb he hpl)) (h O σ B H rep w _ fun d ρ1 v B1 H1 q rep1 s1 dv => by
    refine ⟨by show 1 ≤ 1000; decide, fun a ha => ?_⟩
    refine ⟨a, v, rfl, upd_same, fun dx n ne => ⟨rfl, dx, [(f, v)], upd_same, ?_, ?_, ?_⟩⟩
    · rw [upd_ne ne, upd_same]
    · rw [upd_ne ne] at n; exact n
    · have n1 : H1 dx = none := by rw [upd_ne ne] at n; exact n
      have eH : upd (del (upd (upd (upd H1 a (exo a C none)) dx (exd dx [(f, v)])) a (exo a C (some dx))) a) dx (.xd [(f, v)]) = upd H1 dx (.xd [(f, v)]) := by
        funext b
        by_cases eb : b = dx
        · subst eb; rw [upd_same, upd_same]
        · rw [upd_ne eb, upd_ne eb]
          unfold del
          by_cases ea : b = a
          · subst ea; rw [if_pos rfl]; exact ha.symm
          · rw [if_neg ea, upd_ne ea, upd_ne eb, upd_ne ea]
      rw [eH]
      have g := gr_newM (o := .xd [(f, v)]) rep1.sub n1
      exact w.ok _ _ (some dx) _ _ q (rep1.gr.trans' g fun _ z => z.elim) (.inr ⟨dx, _, rfl, rep1.freshO n1, upd_same, .cons ⟨rfl, dv⟩ .nil⟩))
end
end Pw
namespace Pw
open PySem PySem.Spec PyProof.Rows L2
/-- a def of the text over data, at its place -/
theorem ok_def {P : Program} {w : World} {K : PySem.W.Frag} {mg : Str → Option Value} {base : Heap} {x qual : Str} {st : Stmt} {f : Addr} {fd : FuncData} {N ps : List Str} {k n : Nat} {R : List PyData → Out → Prop} (F : Fun K x qual st f fd) (S : FnScope N ps (defScope st)) (hn : ps.length = n)
    (body : ∀ (cdv : Value) (A : Around) (outer : List Env) (s : Shared) (H : Hp) (E : XK), Room k (A.deeper (envOfC qual (defScope st) s.heap.objs.size f cdv)) → ∀ (ds : List PyData) (out : Out), ds.length = n → R ds out →
      DSs (cxOf (L2.CX P w) P w K mg base N qual (defScope st) f cdv A outer s H E) (fun c xs => out = .exc c xs) (defBody st) { nx := fun _ => out = .ret .none, rt := fun d _ => out = .ret d } (startE N ds)) :
    FnOk P w K mg base (L2.CX P w) (k + 1) f fd ps (spP K n R) := by
  refine F.okX S (fun vs H Q E h => ?_) (fun cdv A outer s H vs Q E hr h => ⟨_, pss_wss, ?_⟩)
  · obtain ⟨B, ds, out, _, d, hl, _⟩ := h
    rw [dpa_len d, hl, hn]
  · obtain ⟨B, ds, out, g, d, hl, hR, post⟩ := h
    refine body cdv A outer s H E hr ds out hl hR ⟨B, H, fun _ => False, E⟩ _ B H (rep_start g d) ⟨takes_of rfl rfl rfl rfl, fun cls xs d B' H' e g' x => ?_⟩ _ ⟨fun ρ' σ' B' H' e r' _ => ?_, fun d ρ' v σ' B' H' e r' _ dv => ?_, fun _ _ _ _ z => z.elim, fun _ _ _ _ z => z.elim⟩
    · subst e; exact post d B' H' g' x
    · subst e; exact post .non B' H' r'.gr .non
    · subst e; exact post v B' H' r'.gr dv
/-- what every law promises: at every script, true -/
def RLaw (ds : List PyData) (out : Out) : Prop := ∃ ns : List Int, ns.length ≤ 1000000 ∧ ds = [scrD ns] ∧ out = .ret (.bool true)
theorem law_walk {l : PySem.W.OpenLaw} {n k : Nat} {q : Program} {loose : List Str} {XP : (Str → Option Value) → Heap → Prop} {YP : World → Heap → Prop} {d : DefRec} {K : Params → PySem.W.Frag} {x : Str} (hn : l.most = some n) (hn2 : n ≤ 1000000) (hdf : d.params.defaults = []) (hr : Room k callerA)
    (hY : ∀ (w : World) (h : Heap), YP w h → (K w.params).In h)
    (F : ∀ (w : World) (mg : Str → Option Value) (fa : Addr) (h : Heap), (K w.params).In h → h.Ns mainGlobals mg → mg d.name = some (.ref fa) →
      ∃ fd : FuncData, (∀ (s : Shared) (u : Value), BindsTo s fd ⟨[u], []⟩ [(x, u)]) ∧
        ∀ base : Heap, (K w.params).In base → base.Ns mainGlobals mg → FnOk l.prog w (K w.params) mg base (L2.CX l.prog w) k fa fd [x] (spP (K w.params) 1 RLaw)) :
    PySem.W.WalkO q loose XP YP l.row.toRowW d [] (fun f vs => PySem.call f vs) :=
  L2.walk_of (CX := fun w => L2.CX l.prog w) (sp := fun w => spP (K w.params) 1 RLaw) hn (Nat.le_trans hn2 (by decide)) hdf hr hY F
    (fun w H a ns hl _ hS => ⟨H, [scrD ns], .ret (.bool true), Same.refl H, .cons (.scr hS) .nil, rfl, ⟨ns, Nat.le_trans hl hn2, rfl, rfl⟩, fun v B' H' g dv => by cases dv; rfl⟩)
    fun w H s e s' z => by
      obtain ⟨a, B, H', cls, d, _, _, _, _, _, _, _, hE⟩ := z
      exact hE
/-! ### isinstance(x, T), T a built-in type -/
def tyD : PyData → Option String
  | .none => some "NoneType"
  | .bool _ => some "bool"
  | .int _ => some "int"
  | .str _ => some "str"
  | .list _ => some "list"
  | .tuple _ => some "tuple"
  | .dict _ => none
theorem ty_of {K : PySem.W.Frag} {B H : Hp} {v : V} {d : PyData} {s : String} (g : Same B H) (h : Dt K B v d) (e : tyD d = some s) : TyX K H v (.type s) := by
  cases h with
  | non => cases e; exact .base .non
  | bl b => cases e; exact .base (.bl b)
  | int i => cases e; exact .base (.int i)
  | str x => cases e; exact .base (.str x)
  | lst a b => cases e; exact .base (.lst (g _ _ a))
  | tup a b => cases e; exact .base (.tup (g _ _ a))
  | scr a => cases e
  | exc a b => cases e
theorem boot_isinstance : bootBuiltins "isinstance" = some (.builtin "isinstance") := by decide +kernel
section
variable {X : Cx} {W : Wx} {e : Expr} {ρ : Ev} {p p2 pos : Pos} {Q : PyData → Ev → Prop} {y : Str} {T : String}
theorem de_isi (hm : X.mg "isinstance" = none) (hmT : X.mg y = none) (hv : bootBuiltins y = some (.type T)) (h : DE X W e ρ fun d ρ1 => ∃ (s : String) (b : Bool), tyD d = some s ∧ kitB s T = some b ∧ Q (.bool b) ρ1) (hg : Gl X "isinstance" := by rfl) (hg2 : Gl X y := by rfl)
    (hn : y ≠ "__name__" := by decide) (hd : (y == ("__debug__" : Str)) = false := by decide)
    (he : starEach [e, .Name y p2] X.env = (false, eval e X.env) :: starEach [.Name y p2] X.env := by rfl) (hpl : (backTo pos (starEach [.Name y p2] X.env)).any (·.1) = false := by rfl) : DE X W (.Call (.Name "isinstance" p) [e, .Name y p2] [] pos) ρ Q := fun O σ B H rep ws R k =>
  we_of (pe_callB call_isi hg hm boot_isinstance (pa_cons pe_we (pa_cons (pe_bltn (v := .ty T) hg2 hmT hv rfl hn hd) pa_nil rfl) he) (by decide) (by decide) he hpl) (h O σ B H rep ws _ fun d ρ1 v B1 H1 ⟨s, b, ht, hk, q⟩ rep1 g1 dv => ⟨v, .ty T, _, _, b, rfl, .ty T, ty_of rep1.sub dv ht, kit_ty hk, k _ ρ1 _ B1 H1 q rep1 g1 (.bl _)⟩)
end
end Pw
namespace Pw
open PySem PySem.Spec PyProof.Rows L2
/-! ### what the laws have in common -/
theorem cut_tail (x : PyData) (xs : List PyData) : cutD (x :: xs) (some 1) none = xs := by
  unfold cutD
  rw [show HT.sIx (x :: xs).length 0 (some 1) = 1 from by rw [show ((1 : Int)) = ((1 : Nat) : Int) from rfl, HT.sIx_nat, List.length_cons]; omega]
  show List.take ((x :: xs).length - 1) xs = xs
  rw [List.length_cons, Nat.add_sub_cancel, List.take_length]
section
variable {X : Cx}
theorem md_rfind {a b : Str} : MtD X (fun x xs H Q => ∃ a b, x = .str a ∧ xs = [.str b] ∧ Q (.int (Txt.rfind a b)) H) (.str a) [.str b] (.int (Txt.rfind a b)) := fun B H v vs R g dv dvs k => by
  cases dv
  cases dvs with
  | cons d t =>
    cases t; cases d
    exact ⟨a, b, rfl, rfl, k _ B H (Gr.refl g) (.int _)⟩
theorem md_count {a b : Str} : MtD X (fun x xs H Q => ∃ a b, x = .str a ∧ xs = [.str b] ∧ Q (.int (Txt.count a b)) H) (.str a) [.str b] (.int (Txt.count a b)) := fun B H v vs R g dv dvs k => by
  cases dv
  cases dvs with
  | cons d t =>
    cases t; cases d
    exact ⟨a, b, rfl, rfl, k _ B H (Gr.refl g) (.int _)⟩
end
theorem room_un {k : Nat} {A : Around} (r : Room k A) : A.units + 64 < cLine := by have := r.un; omega
theorem len_cps (T : Str) : T.length = T.cps.toList.length := by simp [Str.length]
theorem app_list (a b : Str) : (a ++ b).cps.toList = a.cps.toList ++ b.cps.toList := by
  show (a.cps ++ b.cps).toList = _
  rw [Array.toList_append]
theorem app_len (a b : Str) : (a ++ b).length = a.length + b.length := by rw [len_cps, app_list, List.length_append, ← len_cps, ← len_cps]
theorem str_ext {a b : Str} (h : a.cps.toList = b.cps.toList) : a = b := by
  cases a; cases b
  exact congrArg Str.mk (Array.toList_inj.mp h)
theorem at_in {α : Type} (f : α → PyData) (l : List α) (dflt : α) (i : Int) (h0 : 0 ≤ i) (h : i < (l.length : Int)) : atI (l.map f) i = some (f (l.getD i.toNat dflt)) := by
  have e : i = ((i.toNat : Nat) : Int) := by omega
  have h2 : i.toNat < l.length := by omega
  rw [e]
  refine atI_nat ?_
  rw [List.getElem?_map, List.getElem?_eq_getElem h2, Int.toNat_natCast, List.getD_eq_getElem?_getD, List.getElem?_eq_getElem h2]; rfl
theorem at_mod {α : Type} (f : α → PyData) (l : List α) (dflt : α) (m b : Int) (hb : b = (l.length : Int)) (h : 0 < b) : atI (l.map f) (m % b) = some (f (l.getD (m % b).toNat dflt)) :=
  at_in f l dflt _ (Int.emod_nonneg _ (by omega)) (by rw [← hb]; exact Int.emod_lt_of_pos _ h)
theorem dec_iff {p : Prop} [Decidable p] {A B : Prop} (hy : p → A) (hn : ¬ p → B) : if decide p = true then A else B := by
  by_cases h : p
  · rw [decide_eq_true h]; exact hy h
  · rw [decide_eq_false h]; exact hn h
theorem eqi {x y : Int} {A B : Prop} (hy : x = y → A) (hn : x ≠ y → B) : if decide (V.int x = V.int y) = true then A else B := by
  by_cases h : x = y
  · rw [decide_eq_true (congrArg V.int h)]; exact hy h
  · rw [decide_eq_false fun z => h (V.int.inj z)]; exact hn h
theorem eqs {x y : Str} {A B : Prop} (hy : x = y → A) (hn : x ≠ y → B) : if decide (V.str x = V.str y) = true then A else B := by
  by_cases h : x = y
  · rw [decide_eq_true (congrArg V.str h)]; exact hy h
  · rw [decide_eq_false fun z => h (V.str.inj z)]; exact hn h
theorem eqs_yes {x y : Str} {A B : Prop} (h : x = y) (k : A) : if decide (V.str x = V.str y) = true then A else B := eqs (fun _ => k) fun z => absurd h z
theorem eqs_no {x y : Str} {A B : Prop} (h : ¬ x = y) (k : B) : if decide (V.str x = V.str y) = true then A else B := eqs (fun z => absurd z h) fun _ => k
theorem inV_strs (z : Str) : ∀ ks : List Str, inV (V.str z) ((ks.map PyData.str).map vOf) = decide (z ∈ ks)
  | [] => by rw [decide_eq_false (by simp)]; rfl
  | a :: ks => by
    show (eqV (V.str a) (V.str z) || inV (V.str z) ((ks.map PyData.str).map vOf)) = _
    rw [inV_strs z ks]
    have e : eqV (V.str a) (V.str z) = decide (z = a) := by
      show decide (a = z) = decide (z = a)
      exact decide_eq_decide.mpr ⟨Eq.symm, Eq.symm⟩
    rw [e]
    by_cases h1 : z = a
    · subst h1; simp
    · by_cases h2 : z ∈ ks <;> simp [h1, h2]
theorem flat_strs : ∀ ks : List Str, (ks.map PyData.str).all flatD = true
  | [] => rfl
  | a :: ks => by show (flatD (.str a) && (ks.map PyData.str).all flatD) = true; rw [flat_strs ks]; rfl
theorem in_strs {z : Str} (ks : List Str) {ds : List PyData} (e : ds = ks.map PyData.str) {A B : Prop} (hy : z ∈ ks → A) (hn : z ∉ ks → B) : if (if false = true then !inV (vOf (.str z)) (ds.map vOf) else inV (vOf (.str z)) (ds.map vOf)) = true then A else B := by
  subst e
  rw [if_neg Bool.false_ne_true, show vOf (.str z) = V.str z from rfl, inV_strs]
  by_cases h : z ∈ ks
  · rw [decide_eq_true h]; exact hy h
  · rw [decide_eq_false h]; exact hn h
def strsD (l : List Str) : PyData := .list (l.map .str)
theorem range_get {n i : Nat} {d : PyData} (h : (rangeD 0 n)[i]? = some d) : i < n ∧ d = .int (i : Nat) := by
  unfold rangeD at h
  rw [List.getElem?_map] at h
  have hi : i < n := by
    apply Decidable.byContradiction; intro z
    rw [List.getElem?_eq_none (by rw [List.length_range]; omega)] at h; cases h
  rw [List.getElem?_eq_getElem (by rw [List.length_range]; exact hi), List.getElem_range] at h
  cases h
  refine ⟨hi, ?_⟩
  show PyData.int (0 + (i : Int)) = _
  rw [Int.zero_add]
theorem range_len (n : Nat) : (rangeD 0 n).length = n := by unfold rangeD; rw [List.length_map, List.length_range]
def cellI (ns : List Int) (k : Int) : Int := if ns = [] then 0 else ns.getD (k % (ns.length : Int)).toNat 0
def mixI (ns : List Int) (k : Int) : Int :=
  let n1 := (cellI ns k + 104729 * (k + 1)) % 4294967291
  let n2 := n1 * 48271 % 4294967279
  (n2 / 64 * 69621 + n2) % 4294967231
theorem mix_lo (ns : List Int) (k : Int) : 0 ≤ mixI ns k := Int.emod_nonneg _ (by decide)
theorem mix_hi (ns : List Int) (k : Int) : mixI ns k < 4294967231 := Int.emod_lt_of_pos _ (by decide)
def RCell (ds : List PyData) (out : Out) : Prop := ∃ ns k, ds = [scrD ns, .int k] ∧ out = .ret (.int (cellI ns k))
def RMix (ds : List PyData) (out : Out) : Prop := ∃ ns k, ds = [scrD ns, .int k] ∧ out = .ret (.int (mixI ns k))
end Pw
namespace Pw
open PySem PySem.Spec PyProof.Rows L2
theorem nei {x y : Int} {A B : Prop} (hy : x ≠ y → A) (hn : x = y → B) : if (!decide (V.int x = V.int y)) = true then A else B := by
  by_cases h : x = y
  · rw [decide_eq_true (congrArg V.int h)]; exact hn h
  · rw [decide_eq_false fun z => h (V.int.inj z)]; exact hy h
theorem at_back (x : PyData) (xs : List PyData) : atI (xs ++ [x]) (-1) = some x := by
  have e : ixN (xs ++ [x]).length (-1) = some xs.length := by
    unfold ixN
    rw [if_neg (by decide), List.length_append, List.length_singleton, if_pos (by omega)]
    congr 1
    omega
  unfold atI
  rw [e]
  show (xs ++ [x])[xs.length]? = some x
  rw [List.getElem?_append_right (Nat.le_refl _), Nat.sub_self]
  rfl
theorem cut_init (x : PyData) (xs : List PyData) : cutD (xs ++ [x]) none (some (-1)) = xs := by
  unfold cutD
  have e : HT.sIx (xs ++ [x]).length (xs ++ [x]).length (some (-1)) = xs.length := by
    show (if (-1 : Int) < 0 then ((-1 : Int) + ((xs ++ [x]).length : Int)).toNat else min (-1 : Int).toNat (xs ++ [x]).length) = _
    rw [if_pos (by decide), List.length_append, List.length_singleton]
    omega
  rw [e]
  show List.take (xs.length - 0) (List.drop 0 (xs ++ [x])) = xs
  rw [List.drop_zero, Nat.sub_zero, List.take_left]
section
variable {X : Cx}
theorem call_sumR (hc : X.calm = true) : CallR X (.builtin "sum") (rSum X.K) := cr_sum hc
theorem dts_strs {K : PySem.W.Frag} {B : Hp} : ∀ {ss : List Str} {vs : List V}, DtAll K B vs (ss.map .str) → vs = ss.map V.str
  | [], _, h => by cases h; rfl
  | n :: ns, _, h => by
    cases h with
    | cons a t => cases a; rw [dts_strs t]; rfl
theorem md_join {a : Str} {ys : List Str} (h : (ys.map (·.length)).sum + ys.length * a.length ≤ 16777216) : MtD X (fun x xs H Q => ∃ a p, ∃ ys : List Str, x = .str a ∧ xs = [.ref p] ∧ (SqL X.K H p (ys.map V.str) ∨ SqT X.K H p (ys.map V.str)) ∧ (ys.map (·.length)).sum + ys.length * a.length ≤ 16777216 ∧ Q (.str (Txt.join a ys)) H) (.str a) [.list (ys.map .str)] (.str (Txt.join a ys)) := fun B H v vs R g dv dvs k => by
  cases dv
  cases dvs with
  | cons d t =>
    cases t
    cases d with
    | lst e f =>
      obtain rfl := dts_strs f
      exact ⟨a, _, ys, rfl, rfl, .inl (SqL.of (g _ _ e)), h, k _ B H (Gr.refl g) (.str _)⟩
end
end Pw
namespace Pw
open PySem PySem.Spec PyProof.Rows L2
/-! ### a caught exception that is kept -/
theorem kx_ok {P : Program} {w : World} {H : Hp} {h : Heap} {a C : Addr} {d : Option Addr} {oe : Obj} {vs : Array Value} (e : h.get? a = some oe) (z : Zc (.ref C) d oe) (f : oe.data = .fields vs) : ObjOk P w H h a (kxO a C d) :=
  ⟨⟨oe, vs, e, z, f⟩, ⟨oe, e⟩, fun h1 h2 ⟨o, ws, e1, z1, f1⟩ k => ⟨o, ws, k _ e1, z1, f1⟩⟩
theorem kx_at {P : Program} {w : World} {H : Hp} {h : Heap} {a C : Addr} {d : Option Addr} (hok : HOk P w H h) (e : H a = some (kxO a C d)) : ∃ oe vs, h.get? a = some oe ∧ Zc (.ref C) d oe ∧ oe.data = .fields vs := by
  have x : ObjOk P w H h a (kxO a C d) := hok a _ e
  exact x.1
section
variable {X : Cx} {pins : List (Addr × Obj)} {σ : L2.St} {H : Hp} {s0 s : Shared}
/-- from the ground on which it is not: it is tracked -/
theorem inv_hold (G : Inv X pins σ H s0) (I : Inv X pins σ H s) {a C : Addr} {d : Option Addr} {oe : Obj} {vs : Array Value} (n : s0.heap.get? a = none) (e : s.heap.get? a = some oe) (z : Zc (.ref C) d oe) (f : oe.data = .fields vs) (na : H a = none) : Inv X pins σ (upd H a (kxO a C d)) s := by
  have off : ∀ {b : Addr} {o : Obj}, s0.heap.get? b = some o → b ≠ a := fun q y => by rw [y, n] at q; cases q
  have on : ∀ {b : Addr} {o : HO}, H b = some o → b ≠ a := fun q y => by rw [y, na] at q; cases q
  refine ⟨I.ok, I.os, I.bare, ⟨I.base.keep, I.base.slot, fun b o q h0 hx => ?_, I.base.there, fun b xs q => ?_, fun b o u q => ?_, fun b ps q => ?_⟩, I.loc, I.cell, ?_, fun x c q => ?_, fun p hp => ?_, fun b o q => ?_, I.len⟩
  · obtain ⟨o', q'⟩ := G.base.there b o q hx
    rw [upd_ne (off q')]; exact I.base.free b o q h0 hx
  · have q' := I.base.tups b xs q
    rw [upd_ne (on q')]; exact q'
  · have q' := I.base.frzs b o u q
    rw [upd_ne (on q')]; exact q'
  · obtain ⟨more, q'⟩ := I.base.tbls b ps q
    exact ⟨more, by rw [upd_ne (on q')]; exact q'⟩
  · obtain ⟨m, hn, _⟩ := G.loc
    obtain ⟨oL, _, _, q, _⟩ := hn
    rw [upd_ne (off q)]; exact I.free
  · obtain ⟨v, hc⟩ := G.cell x c q
    obtain ⟨_, _, oc, q', _⟩ : ∃ (u : Unit) (t : Unit) (oc : Obj), s0.heap.get? c = some oc ∧ True := by
      cases q2 : s0.heap.get? c with
      | some oc => exact ⟨(), (), oc, rfl, trivial⟩
      | none =>
        exfalso
        have := hc
        unfold Heap.IsCell at this
        simp [q2] at this
    rw [upd_ne (off q')]; exact I.freeC x c q
  · obtain ⟨q1, q2, q3, q4, q5⟩ := I.pin p hp
    have g1 := (G.pin p hp).1
    exact ⟨q1, by rw [upd_ne (off g1)]; exact q2, q3, q4, q5⟩
  · by_cases y : b = a
    · subst y
      rw [upd_same] at q
      cases q
      exact kx_ok e z f
    · rw [upd_ne y] at q
      exact (I.hok b o q).stay (fun _ _ _ r => r) (fun c r => by rw [upd_ne (on r)]; exact r) fun c xs r => by rw [upd_ne (on r)]; exact r
end
/-- the context of an except suite whose exception is tracked -/
abbrev Cx.held (X : Cx) (a : Addr) (pn : List (Addr × Obj)) : Cx := { X with A := X.A.mark (some (.ref a)), calm := false, pn := pn, xe := fun _ _ => False }
section
variable {X : Cx} {pins : List (Addr × Obj)} {σ : L2.St} {H : Hp} {s : Shared}
theorem held_ok {X : Cx} (ok : X.Ok) (a : Addr) (pn : List (Addr × Obj)) : (Pw.Cx.held X a pn).Ok := Cx.Ok.suite ok a pn
theorem inv_held (I : Inv X pins σ H s) (a : Addr) : Inv (Pw.Cx.held X a (X.pn ++ pins)) [] σ H s :=
  ⟨held_ok I.ok a _, I.os, I.bare, I.base, I.loc, I.cell, I.free, I.freeC, fun p hp => I.pin p (by rwa [List.append_nil] at hp), I.hok, I.len⟩
theorem inv_unheld {a : Addr} {qs : List (Addr × Obj)} (I : Inv (Pw.Cx.held X a (X.pn ++ pins)) qs σ H s) (ok : X.Ok) : Inv X pins σ H s :=
  ⟨ok, I.os, I.bare, I.base, I.loc, I.cell, I.free, I.freeC, fun p hp => I.pin p (List.mem_append.mpr (.inl hp)), I.hok, I.len⟩
end
/-- what the clause wishes: an own exception of a class that it names; the suite runs with the exception tracked -/
def wKept (K : PySem.W.Frag) (c : Value) (i : Nat) (ts : TS) (D : Ends) : WX := fun cls d σ H => ∃ C : Addr, cls = .ref C ∧ PySem.W.exmOne K cls c = some true ∧
  ∀ a, H a = none → ts { nx := fun σ' H' => D.nx (σ'.set i none) H', rt := D.rt, bk := fun σ' H' => D.bk (σ'.set i none) H', ct := fun σ' H' => D.ct (σ'.set i none) H' } (σ.set i (some (.ref a))) (upd H a (kxO a C d))
section
variable {X : Cx} {x n : Str} {c : Value} {i : Nat} {body rest : List Stmt} {st₀ : Stmt} {np pos hpos : Pos} {tb : WX → TS} {ts : TS}
theorem ps_try_kept (hstk : X.stack = X.env :: X.outer) (hfm : X.env.frame = some X.env.locals) (hnd : X.N.Nodup) (hix : X.N[i]? = some n) (hloc : X.env.kindOf n = some .local) (hcl : Names X x c)
    (hbody : ∀ (W : WX) (pn : List (Addr × Obj)) (xe : Value → Shared → Prop), Takes (X.tr pn xe) W → PassesOwn (model X.prog X.w) X.A X.env xe → PSs (X.tr pn xe) body (tb W))
    (hsuite : ∀ (a : Addr) (pn : List (Addr × Obj)), PSs (Pw.Cx.held X a pn) (st₀ :: rest) ts) :
    PS X (.Try body [.ExceptHandler (some (.Name x np)) (some n) (st₀ :: rest) hpos] [] [] pos) (fun D σ H => tb (wKept X.K c i ts D) D σ H) := by
  refine ⟨fun pins s σ H D I hw => wpAny_Try_except ?_⟩
  have okX := I.ok
  have frA : X.A.frames = some (X.env :: X.outer) := okX.frames.trans (congrArg some hstk)
  refine wpAny_mono ((hbody (wKept X.K c i ts D) (X.pn ++ pins) (fun e s₁ => wpAny (model X.prog X.w) X.A (noteFrame e X.env) (fun _ s₂ => wpAny (model X.prog X.w) X.A (setFlight e none)
    (fun _ s₃ => wpAny (model X.prog X.w) X.A (handleBy e X.env [.ExceptHandler (some (.Name x np)) (some n) (st₀ :: rest) hpos]) (SP X pins D) X.xe s₃) X.xe s₂) X.xe s₁) (fun u s1 thrown => ?_) PassesOwn.looking).run [] s σ H D (I.toTry _) hw)
    (fun fl s1 hsp => ?_) fun _ _ z => z
  · obtain ⟨a, B, sG, pinsG, σ1, H1, cls, d, rfl, JG, notB, upS, sky, fresh, hos, bare, C, rfl, hmatch, hgo⟩ := thrown
    have J := JG.ofTry okX
    show wpAny (model X.prog X.w) X.A (noteFrame (.ref a) X.env) _ _ _
    refine Sky.land Zc.steady frA hfm (hstk ▸ sky) fun hA flA upA => ?_
    have JA : Inv X pins σ1 H1 { s1 with heap := hA } := J.landed notB flA.1 (upS.trans upA) hos bare
    obtain ⟨oA, vsA, atA, clsA, datA⟩ := flA.there
    have offFrames : a ∉ frs (X.env :: X.outer) := fun hm => by
      obtain ⟨_, o2, at2, nodata⟩ := flA.2.2.1.mem hm
      rw [atA] at at2
      cases at2
      exact nodata _ datA
    have ground : sG.heap.get? a = none := by
      cases q : sG.heap.get? a with
      | none => rfl
      | some o =>
        have inB := notB a o q (by rw [hstk]; exact offFrames)
        rw [flA.2.1] at inB
        cases inB
    have SA := inv_held JA a
    refine wpAny_handleBy_cons (codeAny_handlers_test ?_) fun q => nomatch q
    have looksT : PySem.W.Looks (model X.prog X.w) hA (typeOf (.ref a)) (.ref C) := fun _ _ _ _ k q => wpAny_typeOf_ref (k _ _ atA) (by rw [clsA.1]; exact q)
    have looksM := PySem.W.exm_one (M := model X.prog X.w) JA.kIn looksT hmatch
    have named : ∀ {Q : Value → Shared → Prop} {E : Value → Shared → Prop}, Q c { s1 with heap := hA } → wpAny (model X.prog X.w) (X.A.mark (some (.ref a))) (eval (.Name x np) X.env) Q E { s1 with heap := hA } := fun {Q E} q => by
      obtain ⟨gl, nodbg, hm | ⟨hm, hv, hnn⟩⟩ := hcl
      · exact ld_glob (X := Pw.Cx.held X a (X.pn ++ pins)) SA gl hm q nodbg
      · exact ld_blt (X := Pw.Cx.held X a (X.pn ++ pins)) SA gl hm hv q hnn nodbg
    refine named (looksM.here (codeAny_handlers_suite_as ?_))
    refine HandSPX.lands_againZ flA fun hB flB upB => ?_
    have JB : Inv X pins σ1 H1 { s1 with heap := hB } := J.landed notB flB.1 ((upS.trans upA).trans upB) hos bare
    obtain ⟨oB, vsB, atB, clsB, datB⟩ := flB.there
    have SB := inv_held (inv_hold J JB ground atB clsB datB fresh) a
    refine store_ok (X := Pw.Cx.held X a (X.pn ++ pins)) (v := .ref a) SB hnd hix (.inl hloc) rfl (fun s5 S5 => ?_) (.inr hloc)
    refine wpAny_mono ((hsuite a (X.pn ++ pins)).run [] s5 _ _ _ S5 (hgo a fresh)) (fun fl s6 hsp => ?_) fun _ _ z => z.elim
    have leave : ∀ {σ6 : L2.St} {H6 : Hp} {Q : Shared → Prop}, Inv (Pw.Cx.held X a (X.pn ++ pins)) [] σ6 H6 s6 → (∀ s7, Inv X pins (σ6.set i none) H6 s7 → Q s7) →
        wpAny (model X.prog X.w) X.A (do bindName X.env n .none; unbindBehindTheSuite X.env n hpos) (fun _ s7 => Q s7) X.xe s6 := fun {σ6 H6 Q} S6 hq => gone_ok (inv_unheld S6 okX) hnd hix hloc hq
    cases fl with
    | next => obtain ⟨σ6, H6, S6, q6⟩ := hsp; exact leave S6 fun s7 J7 => ⟨_, _, J7, q6⟩
    | brk => obtain ⟨σ6, H6, S6, q6⟩ := hsp; exact leave S6 fun s7 J7 => ⟨_, _, J7, q6⟩
    | cont => obtain ⟨σ6, H6, S6, q6⟩ := hsp; exact leave S6 fun s7 J7 => ⟨_, _, J7, q6⟩
    | ret u => obtain ⟨v6, σ6, H6, S6, r6, q6⟩ := hsp; exact leave S6 fun s7 J7 => ⟨_, _, _, J7, r6, q6⟩
  · cases fl with
    | next => obtain ⟨σ1, H1, J1, q⟩ := hsp; exact wpAny_execs_nil ⟨σ1, H1, J1.ofTry okX, q⟩
    | brk => obtain ⟨σ1, H1, J1, q⟩ := hsp; exact ⟨σ1, H1, J1.ofTry okX, q⟩
    | cont => obtain ⟨σ1, H1, J1, q⟩ := hsp; exact ⟨σ1, H1, J1.ofTry okX, q⟩
    | ret u => obtain ⟨v, σ1, H1, J1, r, q⟩ := hsp; exact ⟨v, σ1, H1, J1.ofTry okX, r, q⟩
end
end Pw
namespace Pw
open PySem PySem.Spec PyProof.Rows L2
/-- what a class must say, so that a kept exception of it may be asked -/
structure KxC (K : PySem.W.Frag) (D : Addr) : Prop where
  e : ExcC K D
def dictAt (H : Hp) (d : Option Addr) : Prop := d = none ∨ ∃ dx fs, d = some dx ∧ H dx = some (.xd fs)
section
variable {X : Cx}
theorem kx_inst {pins : List (Addr × Obj)} {σ : L2.St} {H : Hp} {s : Shared} (I : Inv X pins σ H s) {a D : Addr} {d : Option Addr} (h : H a = some (kxO a D d)) (hd : dictAt H d) : ∃ oe od, PySem.W.InstAt s.heap a oe D od := by
  obtain ⟨oe, vs, e1, z, f⟩ := kx_at I.hok h
  have nc : PySem.W.notCls oe = true := by unfold PySem.W.notCls; rw [f] <;> rfl
  rcases hd with rfl | ⟨dx, fs, rfl, hx⟩
  · exact ⟨oe, none, e1, z.1, nc, by rw [z.2]; trivial⟩
  · have hx' : ObjOk X.prog X.w H s.heap dx (.xd fs) := I.hok dx _ hx
    obtain ⟨mA, hns, hr⟩ := hx'
    obtain ⟨od, ho, hl⟩ := lookIn_ns hns
    exact ⟨oe, some od, e1, z.1, nc, by rw [z.2]; exact ho⟩
def rIsK (K : PySem.W.Frag) : List V → Hp → VK → Prop := fun xs H Q => ∃ (a D : Addr) (d : Option Addr) (c : V) (cv : Value) (b : Bool), xs = [.ref a, c] ∧ H a = some (kxO a D d) ∧ dictAt H d ∧ ExcC K D ∧ ClsV c cv ∧ PySem.W.kitOne K (.ref D) cv = some b ∧ Q (.bl b) H
theorem call_isK : CallR X (.builtin "isinstance") (rIsK X.K) := by
  intro pins s σ H xs us Q I r h
  obtain ⟨a, D, d, c, cv, b, rfl, ha, hd, C, hc, e, q⟩ := h
  obtain ⟨u1, u2, rfl, r1, r2⟩ := vals2 r
  cases r1
  have ec := hc.eq r2
  subst ec
  obtain ⟨oe, od, J⟩ := kx_inst I ha hd
  have hcl : (PySem.W.clsIn X.K D).isSome = true := by
    obtain ⟨cd, q2, _⟩ := PySem.W.any_some C.hd
    rw [q2]; rfl
  exact PySem.W.kia_one (PySem.W.kitx_exc (ox := oe) (od := od) hcl C.hg C.hk C.hs C.ha C.hn C.ht C.hm) I.kIn J e (fun z => nomatch z) fun tk => ⟨.bl b, H, I.kept (t' := tk) fun _ _ z => z, rfl, q⟩
/-- its field -/
def tKf (C : Addr) (f : Str) (te : TE) : TE := fun σ H Q => te σ H fun x H1 => ∃ (a dd : Addr) (fs : List (Str × V)) (v : V), x = .ref a ∧ H1 a = some (kxO a C (some dd)) ∧ H1 dd = some (.xd fs) ∧ fs.lookup f = some v ∧ Q v H1
theorem pe_kf {C : Addr} {e : Expr} {te : TE} {pos : Pos} {n : Str} (T : XfC X.K C) (hno : PySem.W.findIn X.K (.ref C) n = some none) (he : PE X e te) (hb : attributeBase e n X.env (eval e X.env) = eval e X.env := by rfl) : PE X (.Attribute e n pos) (tKf C n te) := by
  refine ⟨fun pins s σ H Q I h => attr_of hb (thn (he.run pins s σ H _ I h) fun u s1 hh => ?_)⟩
  obtain ⟨x, H1, I1, rx, a, dd, fs, v, rfl, ha, hdd, l, q⟩ := hh
  obtain rfl : u = Value.ref a := rx
  obtain ⟨oe, vs, at1, z, dat⟩ := kx_at I1.hok ha
  have hx : ObjOk X.prog X.w H1 s1.heap dd (.xd fs) := I1.hok dd _ hdd
  obtain ⟨mA, hns, hr⟩ := hx
  obtain ⟨od, ho, hl⟩ := lookIn_ns hns
  obtain ⟨u, hu, ru⟩ := RelO.some_of (v := v) (o := mA n) (by rw [← l]; exact hr n)
  have nc : PySem.W.notCls oe = true := by unfold PySem.W.notCls; rw [dat] <;> rfl
  have J : PySem.W.InstAt s1.heap a oe C (some od) := ⟨at1, z.1, nc, by rw [z.2]; exact ho⟩
  exact HandSPX.exc_get I1.kIn J T.ga T.gg T.exC (PySem.W.findObj_own T.hdC hno rfl (by rw [hl, hu])) (handed_of ru) ⟨v, H1, I1.tok _, ru, q⟩
end
end Pw
namespace Pw
open PySem PySem.Spec PyProof.Rows L2
section
variable {K : PySem.W.Frag} {O : Og} {σ : L2.St} {ρ : Ev} {B H : Hp}
/-- a slot's name goes -/
theorem Rep.gone (r : Rep K O σ ρ B H) (i : Nat) : Rep K O (σ.set i none) (ρ.set i none) B H where
  gr := r.gr
  len := by rw [List.length_set, List.length_set]; exact r.len
  ent := fun j e h => by
    by_cases c : j = i
    · subst c
      by_cases hl : j < ρ.length
      · rw [List.getElem?_set_self hl] at h; cases h
      · rw [List.getElem?_eq_none (by rw [List.length_set]; omega)] at h; cases h
    · rw [List.getElem?_set_ne (Ne.symm c)] at h
      obtain ⟨v, h1, h2⟩ := r.ent j e h
      exact ⟨v, by rw [List.getElem?_set_ne (Ne.symm c)]; exact h1, h2⟩
  sep := fun j k ej ek v hj hk mj mk sj sk => by
    have ne : ∀ {j : Nat} {e : Ent}, (ρ.set i none)[j]? = some (some e) → j ≠ i ∧ ρ[j]? = some (some e) := fun {j e} h => by
      by_cases c : j = i
      · subst c
        by_cases hl : j < ρ.length
        · rw [List.getElem?_set_self hl] at h; cases h
        · rw [List.getElem?_eq_none (by rw [List.length_set]; omega)] at h; cases h
      · rw [List.getElem?_set_ne (Ne.symm c)] at h
        exact ⟨c, h⟩
    obtain ⟨cj, hj⟩ := ne hj
    obtain ⟨ck, hk⟩ := ne hk
    rw [List.getElem?_set_ne (Ne.symm cj)] at sj
    rw [List.getElem?_set_ne (Ne.symm ck)] at sk
    exact r.sep j k ej ek v hj hk mj mk sj sk
/-- a thing that no slot changes is from now on part of what stands -/
theorem gr_keep {M : Addr → Prop} {a : Addr} {o : HO} (g : Same B H) (h : H a = some o) (m : M a) : Gr M B H (upd B a o) H := by
  refine ⟨fun b u e => ?_, fun b u e => ?_, fun _ _ _ e => e, fun _ n => n, fun b nb _ => ?_⟩
  · by_cases c : b = a
    · subst c
      have := g _ _ e
      rw [h] at this; cases this
      exact upd_same
    · rw [upd_ne c]; exact e
  · by_cases c : b = a
    · subst c; rw [upd_same] at e; cases e; exact h
    · rw [upd_ne c] at e; exact g _ _ e
  · have c : b ≠ a := fun z => nb (z ▸ m)
    exact upd_ne c
theorem ints_fs : ∀ {gs : List (Str × V)} {fs : List (Str × Int)}, FsIs K B gs (fs.map fun p => (p.1, .int p.2)) → gs = fs.map fun p => (p.1, V.int p.2)
  | _, [], h => by cases h; rfl
  | _, p :: fs, h => by
    cases h with
    | cons a t =>
      rename_i q gs
      obtain ⟨e1, e2⟩ := a
      obtain ⟨q1, q2⟩ := q
      rw [ints_fs t]
      cases e2
      have e1 : q1 = p.1 := e1
      rw [e1]; rfl
end
/-- what comes of an exception that the clause names -/
def KeptQ (X : Cx) (c : Value) (i j : Nat) (D : DEnds) (ρ : Ev) (cls : Value) (xs : Fs) : Prop := ∃ (C : Addr) (fs : List (Str × Int)), cls = .ref C ∧ xs = fs.map (fun p => (p.1, PyData.int p.2)) ∧ PySem.W.exmOne X.K (.ref C) c = some true ∧ D.nx ((ρ.set j (some (.val (excD C fs)))).set i none)
theorem kept_run {X : Cx} {c : Value} {i j : Nat} {D : DEnds} {ρ : Ev} {O : Og} {σ : L2.St} {B H : Hp} {T : Ends} {cls : Value} {xs : Fs} (hij : i ≠ j) (hi : i < σ.length) (r : Rep X.K O σ ρ B H) (k : EOk X.K O D T B) (q : KeptQ X c i j D ρ cls xs) {d : Option Addr} {B' H' : Hp} (g : Gr (fun _ => False) B H B' H') (x : XdIs X.K H B' H' d xs)
    {ts : TS} (hts : ∀ (E : Ends) (σ' : L2.St) (H1 : Hp) (v : V), σ'[i]? = some (some v) → E.nx (σ'.set j (some v)) H1 → ts E σ' H1) : wKept X.K c i ts T cls d σ H' := by
  obtain ⟨C, fs, rfl, rfl, hm, hq⟩ := q
  refine ⟨C, rfl, hm, fun a na => ?_⟩
  have r1 := r.grow g
  have r2 := r1.grow (gr_new (o := kxO a C d) r1.sub na)
  have fin : ∀ B2 : Hp, Same B B2 → Rep X.K O σ ρ B2 (upd H' a (kxO a C d)) → Dt X.K B2 (.ref a) (excD C fs) → T.nx ((((σ.set i (some (.ref a))).set j (some (.ref a)))).set i none) (upd H' a (kxO a C d)) := fun B2 s2 r3 dv => by
    have es : (((σ.set i (some (V.ref a))).set j (some (V.ref a)))).set i none = ((σ.set j (some (V.ref a))).set i none) := by
      rw [List.set_comm _ _ hij, List.set_set]
    rw [es]
    exact k.nx _ _ _ _ hq ((r3.set dv).gone i) s2
  refine hts _ _ _ (.ref a) (List.getElem?_set_self hi) ?_
  have sa : Same B (upd B' a (kxO a C d)) := g.b.trans (gr_new (o := kxO a C d) r1.sub na).b
  rcases x with ⟨rfl, e⟩ | ⟨dx, gs, rfl, n0, hx, hf⟩
  · have ef : fs = [] := by cases fs with
      | nil => rfl
      | cons p fs => cases e
    subst ef
    exact fin _ sa r2 (.exc upd_same (.inl ⟨rfl, rfl⟩))
  · obtain rfl := ints_fs hf
    have ne : dx ≠ a := fun z => by rw [z, na] at hx; cases hx
    have hx2 : upd H' a (kxO a C (some dx)) dx = some (.xd (fs.map fun p => (p.1, V.int p.2))) := by rw [upd_ne ne]; exact hx
    have g3 := gr_keep (M := fun c => c = dx) r2.sub hx2 rfl
    have r3 := r2.other g3 (fun z => mu_there r z n0) (r.freshO n0)
    refine fin _ (sa.trans g3.b) r3 (.exc ?_ (.inr ⟨dx, rfl, upd_same⟩))
    rw [upd_ne (Ne.symm ne)]; exact upd_same
section
variable {X : Cx} {W : Wx} {ρ : Ev} {D : DEnds} {f x y n cx : Str} {c : Value} {fp xp yp zp np np2 cp ep ap hpos pos tp : Pos} {k : Nat}
/-- try: f(x) / except C as n: y = n -/
theorem ds_try1 (b i j : Nat) {d1 : PyData} {R : List PyData → Out → Prop} (F : Kn X.prog X.w X.K X.mg X.base f k (spP X.K 1 R)) (hr : Room k X.A) (hcl : Names X cx c) (hb : ρ[b]? = some (some (.val d1))) (hir : ρ[i]? = some none)
    (h : ∃ out, R [d1] out ∧ match out with | .ret _ => D.nx ρ | .exc cls xs => KeptQ X c i j D ρ cls xs)
    (hij : i ≠ j) (hnd : X.N.Nodup) (hstk : X.stack = X.env :: X.outer := by rfl) (hfm : X.env.frame = some X.env.locals := by rfl) (hix : X.N[i]? = some n := by rfl) (hloc : X.env.kindOf n = some .local := by rfl) (hbx : X.N[b]? = some x := by rfl) (hjx : X.N[j]? = some y := by rfl)
    (hvx : Vis X.env.scope x := by first | exact Or.inl rfl | exact Or.inr (Or.inl rfl) | exact Or.inr (Or.inr rfl)) (hvn : Vis X.env.scope n := by first | exact Or.inl rfl | exact Or.inr (Or.inl rfl) | exact Or.inr (Or.inr rfl)) (hly : Loc X.env.scope y := by first | exact Or.inl rfl | exact Or.inr rfl)
    (hg : Gl X f := by rfl) (hdx : (x == ("__debug__" : Str)) = false := by decide) (hcx : (x == ("__classdict__" : Str)) = false := by decide) (hdn : (n == ("__debug__" : Str)) = false := by decide) (hcn : (n == ("__classdict__" : Str)) = false := by decide) (hdb : (f == ("__debug__" : Str)) = false := by decide)
    (he : starEach [.Name x xp] X.env = (false, eval (.Name x xp) X.env) :: starEach [] X.env := by rfl) (hpl : (backTo cp (starEach [] X.env)).any (·.1) = false := by rfl) (hs : swapsWith (.Call (.Name f fp) [.Name x xp] [] cp) none ep.line X.env = pure false := by rfl)
    (hs2 : swapsWith (.Name n np2) (some (.Name y yp)) ap.line X.env = pure false := by rfl) (hf2 : X.fn y = true ∨ X.env.scope.names.lookup y = some .local := by first | exact .inl rfl | exact .inr rfl) :
    DS X W (.Try [.Expr (.Call (.Name f fp) [.Name x xp] [] cp) ep] [.ExceptHandler (some (.Name cx np)) (some n) [.Assign [.Name y yp] (.Name n np2) ap] hpos] [] [] pos) D ρ := fun O σ B H r w T kk => by
  obtain ⟨fa, fd, ps, G, hm, hk, hbd⟩ := F.ex
  obtain ⟨out, hR, ho⟩ := h
  obtain ⟨v, hv, dv, _⟩ := r.ent b _ hb
  have hi : i < σ.length := by rw [r.len]; exact (List.getElem?_eq_some_iff.mp hir).1
  refine ws_of (ps_try_kept hstk hfm hnd hix hloc hcl (fun W' pn xe tk hp => pss_one (ps_expr (pe_callS (X := X.tr pn xe) G hr hg hm hk hbd (fun σ => L2.passAt tk σ) (pa_cons (pe_var hbx hvx hdx hcx) pa_nil he) hdb he hpl) hs))
    (fun a pn => pss_one (ps_set (X := Pw.Cx.held X a pn) (i := j) hnd hjx hly (pe_var hix hvn hdn hcn) hs2 hf2))) ?_
  refine ⟨v, hv, B, [d1], out, r.sub, .cons dv .nil, rfl, hR, ?_⟩
  cases out with
  | ret d => exact fun v' B' H' g dv' => kk.nx _ _ _ _ ho (r.grow g) g.b
  | exc cls xs => exact fun d B' H' g x => kept_run hij hi r kk ho g x fun E σ' H1 v e q => ⟨v, e, q⟩
/-- try: t = f(x, z) / except C as n: y = n -/
theorem ds_try2 (b b2 i j q : Nat) {d1 d2 : PyData} {R : List PyData → Out → Prop} {z t : Str} {zp tgp : Pos} (F : Kn X.prog X.w X.K X.mg X.base f k (spP X.K 2 R)) (hr : Room k X.A) (hcl : Names X cx c) (hb : ρ[b]? = some (some (.val d1))) (hb2 : ρ[b2]? = some (some (.val d2))) (hir : ρ[i]? = some none)
    (h : ∃ out, R [d1, d2] out ∧ match out with | .ret d => D.nx (ρ.set q (some (.val d))) | .exc cls xs => KeptQ X c i j D ρ cls xs)
    (hij : i ≠ j) (hnd : X.N.Nodup) (hstk : X.stack = X.env :: X.outer := by rfl) (hfm : X.env.frame = some X.env.locals := by rfl) (hix : X.N[i]? = some n := by rfl) (hloc : X.env.kindOf n = some .local := by rfl) (hbx : X.N[b]? = some x := by rfl) (hbz : X.N[b2]? = some z := by rfl) (hjx : X.N[j]? = some y := by rfl) (hqx : X.N[q]? = some t := by rfl)
    (hvx : Vis X.env.scope x := by first | exact Or.inl rfl | exact Or.inr (Or.inl rfl) | exact Or.inr (Or.inr rfl)) (hvz : Vis X.env.scope z := by first | exact Or.inl rfl | exact Or.inr (Or.inl rfl) | exact Or.inr (Or.inr rfl)) (hvn : Vis X.env.scope n := by first | exact Or.inl rfl | exact Or.inr (Or.inl rfl) | exact Or.inr (Or.inr rfl))
    (hly : Loc X.env.scope y := by first | exact Or.inl rfl | exact Or.inr rfl) (hlt : Loc X.env.scope t := by first | exact Or.inl rfl | exact Or.inr rfl)
    (hg : Gl X f := by rfl) (hdx : (x == ("__debug__" : Str)) = false := by decide) (hcx : (x == ("__classdict__" : Str)) = false := by decide) (hdz : (z == ("__debug__" : Str)) = false := by decide) (hcz : (z == ("__classdict__" : Str)) = false := by decide) (hdn : (n == ("__debug__" : Str)) = false := by decide) (hcn : (n == ("__classdict__" : Str)) = false := by decide) (hdb : (f == ("__debug__" : Str)) = false := by decide)
    (he : starEach [.Name x xp, .Name z zp] X.env = (false, eval (.Name x xp) X.env) :: starEach [.Name z zp] X.env := by rfl) (he2 : starEach [.Name z zp] X.env = (false, eval (.Name z zp) X.env) :: starEach [] X.env := by rfl) (hpl : (backTo cp (starEach [.Name z zp] X.env)).any (·.1) = false := by rfl)
    (hs : swapsWith (.Call (.Name f fp) [.Name x xp, .Name z zp] [] cp) (some (.Name t tgp)) ep.line X.env = pure false := by rfl) (hf1 : X.fn t = true ∨ X.env.scope.names.lookup t = some .local := by first | exact .inl rfl | exact .inr rfl)
    (hs2 : swapsWith (.Name n np2) (some (.Name y yp)) ap.line X.env = pure false := by rfl) (hf2 : X.fn y = true ∨ X.env.scope.names.lookup y = some .local := by first | exact .inl rfl | exact .inr rfl) :
    DS X W (.Try [.Assign [.Name t tgp] (.Call (.Name f fp) [.Name x xp, .Name z zp] [] cp) ep] [.ExceptHandler (some (.Name cx np)) (some n) [.Assign [.Name y yp] (.Name n np2) ap] hpos] [] [] pos) D ρ := fun O σ B H r w T kk => by
  obtain ⟨fa, fd, ps, G, hm, hk, hbd⟩ := F.ex
  obtain ⟨out, hR, ho⟩ := h
  obtain ⟨v, hv, dv, _⟩ := r.ent b _ hb
  obtain ⟨v2, hv2, dv2, _⟩ := r.ent b2 _ hb2
  have hi : i < σ.length := by rw [r.len]; exact (List.getElem?_eq_some_iff.mp hir).1
  refine ws_of (ps_try_kept hstk hfm hnd hix hloc hcl (fun W' pn xe tk hp => pss_one (ps_set (X := X.tr pn xe) (i := q) hnd hqx hlt (pe_callS (X := X.tr pn xe) G hr hg hm hk hbd (fun σ => L2.passAt tk σ) (pa_cons (pe_var hbx hvx hdx hcx) (pa_cons (pe_var hbz hvz hdz hcz) pa_nil he2) he) hdb he hpl) hs hf1))
    (fun a pn => pss_one (ps_set (X := Pw.Cx.held X a pn) (i := j) hnd hjx hly (pe_var hix hvn hdn hcn) hs2 hf2))) ?_
  refine ⟨v, hv, v2, hv2, B, [d1, d2], out, r.sub, .cons dv (.cons dv2 .nil), rfl, hR, ?_⟩
  cases out with
  | ret d => exact fun v' B' H' g dv' => kk.nx _ _ _ _ ho ((r.grow g).set dv') g.b
  | exc cls xs => exact fun d B' H' g x => kept_run hij hi r kk ho g x fun E σ' H1 v e q => ⟨v, e, q⟩
end
/-! what a kept exception is asked -/
theorem excD_inj {C C' : Addr} {fs fs' : List (Str × Int)} (h : excD C fs = excD C' fs') : C = C' ∧ fs = fs' := by
  have e := PyData.dict.inj h
  obtain ⟨e1, e2⟩ := List.cons.inj e
  have h1 : (C : Int) = (C' : Int) := PyData.int.inj (Prod.mk.inj e1).2
  refine ⟨Int.ofNat.inj h1, ?_⟩
  clear h e e1 h1
  induction fs generalizing fs' with
  | nil => cases fs' with
    | nil => rfl
    | cons p fs' => cases e2
  | cons p fs ih => cases fs' with
    | nil => cases e2
    | cons p' fs' =>
      obtain ⟨a, b⟩ := List.cons.inj e2
      obtain ⟨a1, a2⟩ := Prod.mk.inj a
      have a1 := PyData.str.inj a1
      have a2 := PyData.int.inj a2
      rw [ih b, show p = p' from Prod.ext a1 a2]
theorem exc_inv {K : PySem.W.Frag} {B : Hp} {v : V} {C : Addr} {fs : List (Str × Int)} (h : Dt K B v (excD C fs)) : ∃ (a : Addr) (d : Option Addr), v = .ref a ∧ B a = some (kxO a C d) ∧ (d = none ∧ fs = [] ∨ ∃ dx, d = some dx ∧ B dx = some (.xd (fs.map fun p => (p.1, V.int p.2)))) := by
  generalize ey : excD C fs = y at h
  cases h with
  | exc a b =>
    obtain ⟨rfl, rfl⟩ := excD_inj ey
    exact ⟨_, _, rfl, a, b⟩
  | scr a => exact (scr_exc ey.symm).elim
  | _ => cases ey
section
variable {X : Cx} {W : Wx} {e : Expr} {ρ : Ev} {p p2 pos : Pos} {Q : PyData → Ev → Prop} {y f : Str} {D Cc : Addr} {T : String} {fs : List (Str × Int)} {b : Bool}
theorem dict_of {B H : Hp} {d : Option Addr} (g : Same B H) (h : d = none ∧ fs = [] ∨ ∃ dx, d = some dx ∧ B dx = some (.xd (fs.map fun p => (p.1, V.int p.2)))) : dictAt H d := h.imp (fun x => x.1) fun ⟨dx, e1, e2⟩ => ⟨dx, _, e1, g _ _ e2⟩
theorem de_isKo (hm : X.mg "isinstance" = none) (hy : X.mg y = some (.ref Cc)) (C : ExcC X.K D) (hk : PySem.W.kitOne X.K (.ref D) (.ref Cc) = some b) (h : DE X W e ρ fun d ρ1 => d = excD D fs ∧ Q (.bool b) ρ1) (hg : Gl X "isinstance" := by rfl) (hg2 : Gl X y := by rfl) (hd : (y == ("__debug__" : Str)) = false := by decide)
    (he : starEach [e, .Name y p2] X.env = (false, eval e X.env) :: starEach [.Name y p2] X.env := by rfl) (hpl : (backTo pos (starEach [.Name y p2] X.env)).any (·.1) = false := by rfl) : DE X W (.Call (.Name "isinstance" p) [e, .Name y p2] [] pos) ρ Q := fun O σ B H rep ws R k =>
  we_of (pe_callB call_isK hg hm boot_isinstance (pa_cons pe_we (pa_cons (pe_glob (v := .ref Cc) hg2 hy rfl hd) pa_nil rfl) he) (by decide) (by decide) he hpl) (h O σ B H rep ws _ fun d ρ1 v B1 H1 ⟨ed, q⟩ rep1 g1 dv => by
    subst ed
    obtain ⟨a, d, rfl, h1, h2⟩ := exc_inv dv
    exact ⟨a, D, d, _, _, b, rfl, rep1.sub _ _ h1, dict_of rep1.sub h2, C, .own Cc, hk, k _ ρ1 _ B1 H1 q rep1 g1 (.bl _)⟩)
theorem de_isKt (hm : X.mg "isinstance" = none) (hy : X.mg y = none) (hv : bootBuiltins y = some (.type T)) (C : ExcC X.K D) (hk : PySem.W.kitOne X.K (.ref D) (.type T) = some b) (h : DE X W e ρ fun d ρ1 => d = excD D fs ∧ Q (.bool b) ρ1) (hg : Gl X "isinstance" := by rfl) (hg2 : Gl X y := by rfl) (hn : y ≠ "__name__" := by decide) (hd : (y == ("__debug__" : Str)) = false := by decide)
    (he : starEach [e, .Name y p2] X.env = (false, eval e X.env) :: starEach [.Name y p2] X.env := by rfl) (hpl : (backTo pos (starEach [.Name y p2] X.env)).any (·.1) = false := by rfl) : DE X W (.Call (.Name "isinstance" p) [e, .Name y p2] [] pos) ρ Q := fun O σ B H rep ws R k =>
  we_of (pe_callB call_isK hg hm boot_isinstance (pa_cons pe_we (pa_cons (pe_bltn (v := .ty T) hg2 hy hv rfl hn hd) pa_nil rfl) he) (by decide) (by decide) he hpl) (h O σ B H rep ws _ fun d ρ1 v B1 H1 ⟨ed, q⟩ rep1 g1 dv => by
    subst ed
    obtain ⟨a, d, rfl, h1, h2⟩ := exc_inv dv
    exact ⟨a, D, d, _, _, b, rfl, rep1.sub _ _ h1, dict_of rep1.sub h2, C, .ty T, hk, k _ ρ1 _ B1 H1 q rep1 g1 (.bl _)⟩)
theorem look_ints (f : Str) : ∀ fs : List (Str × Int), (fs.map fun p => (p.1, V.int p.2)).lookup f = (fs.lookup f).map V.int
  | [] => rfl
  | (g, i) :: fs => by
    rw [List.map_cons, List.lookup_cons, List.lookup_cons, look_ints f fs]
    cases f == g <;> rfl
theorem de_kf (TX : XfC X.K D) (hno : PySem.W.findIn X.K (.ref D) f = some none) (h : DE X W e ρ fun d ρ1 => d = excD D fs ∧ ∃ i, fs.lookup f = some i ∧ Q (.int i) ρ1) (hb : attributeBase e f X.env (eval e X.env) = eval e X.env := by rfl) : DE X W (.Attribute e f pos) ρ Q := fun O σ B H rep ws R k =>
  we_of (pe_kf TX hno pe_we hb) (h O σ B H rep ws _ fun d ρ1 v B1 H1 ⟨ed, i, hl, q⟩ rep1 g1 dv => by
    subst ed
    obtain ⟨a, d, rfl, h1, h2⟩ := exc_inv dv
    rcases h2 with ⟨_, e2⟩ | ⟨dx, rfl, h2⟩
    · rw [e2] at hl; cases hl
    · exact ⟨a, dx, _, .int i, rfl, rep1.sub _ _ h1, rep1.sub _ _ h2, by rw [look_ints, hl]; rfl, k _ ρ1 _ B1 H1 q rep1 g1 (.int i)⟩)
def rIsNn : R2 := fun x y H Q => y = .non ∧ Q (.bl (decide (x = .non))) H
theorem op_isNn : OpR X (compareOp .Is) rIsNn := op_isN
theorem od_isN : OpD X rIsNn .none .none (.bool true) := fun B H v u R g dv du k => by
  cases dv; cases du
  exact ⟨rfl, k _ B H (Gr.refl g) (.bl _)⟩
end
end Pw
namespace Pw
open PySem PySem.Spec PyProof.Rows L2
section
variable {X : Cx} {W : Wx} {ρ : Ev} {e : Expr} {pos p1 p2 p3 : Pos} {Q : PyData → Ev → Prop} {QL : List PyData → Ev → Prop} {x : Str}
theorem upd_upd {H : Hp} {p : Addr} {a b : HO} : upd (upd H p a) p b = upd H p b := by
  funext c
  by_cases h : c = p
  · subst h; rw [upd_same, upd_same]
  · rw [upd_ne h, upd_ne h, upd_ne h]
/-- {a: b, c: d}[x], x a name that holds a text -/
theorem de_dsub2 (i : Nat) {k1 v1 k2 v2 z v : Str} {j1 j2 j3 j4 : Nat} {q1 q2 q3 q4 : Pos} (hu : X.A.units + 1 < cLine) (h : ρ[i]? = some (some (.val (.str z)))) (hval : valV (mergeK [] [(Sum.inr k1, V.str v1), (Sum.inr k2, V.str v2)]) (Sum.inr z : Key) = some (.str v)) (k : Q (.str v) ρ)
    (hN : X.N[i]? = some x := by rfl) (hv : Vis X.env.scope x := by first | exact Or.inl rfl | exact Or.inr (Or.inl rfl) | exact Or.inr (Or.inr rfl)) (hd : (x == ("__debug__" : Str)) = false := by decide) (hcd : (x == ("__classdict__" : Str)) = false := by decide) (hs : NoSl (.Name x p2) := by exact fun _ _ => rfl) :
    DE X W (.Subscript (.Dict [some (.Constant (.str k1) j1 q1), some (.Constant (.str k2) j2 q2)] [.Constant (.str v1) j3 q3, .Constant (.str v2) j4 q4] p1) (.Name x p2) pos) ρ Q := fun O σ B H r w R q => by
  obtain ⟨u, h1, h2, _⟩ := r.ent i _ h
  cases h2
  refine we_of (pe_dget hu (pe_disp (pps_cons pe_str pe_str (pps_cons pe_str pe_str pps_nil)) rfl rfl (fun z => nomatch z) (by show 2 ≤ 15; decide)) (pe_var hN hv hd hcd) hs) fun p hp => ?_
  refine ⟨upd_same, [(.inr k1, .str v1), (.inr k2, .str v2)], rfl, by show 2 ≤ 15; decide, ?_⟩
  refine ⟨_, h1, p, .str v, rfl, ?_, ?_⟩
  · rw [← hval]; exact DGet.k (k := Sum.inr z) upd_same
  · rw [upd_upd]
    have g := gr_newM (o := .dK (mergeK [] [(Sum.inr k1, V.str v1), (Sum.inr k2, V.str v2)])) r.sub hp
    exact q _ ρ _ B _ k (r.grow g) ((Stp.refl r).gro g) (.str v)
/-- x != [], x a name that owns a list -/
theorem de_neO (i : Nat) {ds : List PyData} (hu : X.A.units + 64 < cLine) (h : ρ[i]? = some (some (.own ds))) (wd : Whole (.list ds)) (k : Q (.bool (!PyData.eqv (.list ds) (.list []))) ρ)
    (hN : X.N[i]? = some x := by rfl) (hv : Vis X.env.scope x := by first | exact Or.inl rfl | exact Or.inr (Or.inl rfl) | exact Or.inr (Or.inr rfl)) (hd : (x == ("__debug__" : Str)) = false := by decide) (hcd : (x == ("__classdict__" : Str)) = false := by decide) (hm : behindInMarks CmpOp.NotEq (.List [] p2) = false := by rfl) :
    DE X W (.Compare (.Name x p1) [.NotEq] [.List [] p2] pos) ρ Q := fun O σ B H r w R q => by
  obtain ⟨v, h1, ⟨l, vs, rfl, _, hl, hd'⟩, _⟩ := r.ent i _ h
  refine we_of (pe_cmpR (op_neD hu) (pe_var hN hv hd hcd) (pe_lst pa_nil) hm) ⟨_, h1, by show 0 ≤ sizeLine; decide, fun p hp => ?_⟩
  have g := gr_newM (o := .lst []) r.sub hp
  have ne : l ≠ p := fun z => by rw [z, hp] at hl; cases hl
  refine ⟨.list ds, .list [], .lst (SqL.of (by rw [upd_ne ne]; exact hl)) (dt_dps g.bh ds vs wd.nd hd'), .lst (SqL.of upd_same) .nil, wd.sh, by decide, ?_⟩
  exact q _ ρ _ B _ k (r.grow g) ((Stp.refl r).gro g) (.bl _)
/-- e[::-1], a list turned round -/
theorem dl_rev {j : Nat} {p4 : Pos} (h : DE X W e ρ fun x ρ1 => ∃ ds, x = .list ds ∧ QL ds.reverse ρ1) : DL X W (.Subscript e (.Slice none none (some (.UnaryOp .USub (.Constant (.int 1) j p1) p2)) p3) p4) ρ QL := fun O σ B H rep ws R k =>
  we_of (pe_revL pe_we) (h O σ B H rep ws _ fun x ρ1 v B1 H1 ⟨ds, ex, q⟩ rep1 g1 dv => by
    subst ex
    cases dv with
    | lst hb hd => exact ⟨_, _, rfl, SqL.of (rep1.sub _ _ hb), fun p hp => dl_new k rep1 g1 (dpa_rev hd) q hp⟩)
end
end Pw
namespace Q
open PySem PySem.Spec PyProof.Rows L2 Pw
def top (i : Nat) : Stmt := PySem.Challenge.pw_printwell_k21_wrong_places.main.body.getD i (.Pass ⟨0, 0, 0, 0⟩)
abbrev s_BadText_init : Stmt := inClass (top 3) 0
abbrev N_BadText_init : List Str := ["self", "place"]
abbrev P_BadText_init : List Str := ["self", "place"]
theorem sc_BadText_init : FnScope N_BadText_init P_BadText_init (defScope s_BadText_init) := ⟨rfl, rfl, rfl, by decide +kernel, rfl, by decide +kernel, by decide +kernel⟩
abbrev s_Tape_init : Stmt := inClass (top 9) 0
abbrev N_Tape_init : List Str := ["self", "text"]
abbrev P_Tape_init : List Str := ["self", "text"]
theorem sc_Tape_init : FnScope N_Tape_init P_Tape_init (defScope s_Tape_init) := ⟨rfl, rfl, rfl, by decide +kernel, rfl, by decide +kernel, by decide +kernel⟩
abbrev s_Tape_refuse : Stmt := inClass (top 9) 1
abbrev N_Tape_refuse : List Str := ["self"]
abbrev P_Tape_refuse : List Str := ["self"]
theorem sc_Tape_refuse : FnScope N_Tape_refuse P_Tape_refuse (defScope s_Tape_refuse) := ⟨rfl, rfl, rfl, by decide +kernel, rfl, by decide +kernel, by decide +kernel⟩
abbrev s_Tape_skip : Stmt := inClass (top 9) 2
abbrev N_Tape_skip : List Str := ["self"]
abbrev P_Tape_skip : List Str := ["self"]
theorem sc_Tape_skip : FnScope N_Tape_skip P_Tape_skip (defScope s_Tape_skip) := ⟨rfl, rfl, rfl, by decide +kernel, rfl, by decide +kernel, by decide +kernel⟩
abbrev s_Tape_sees : Stmt := inClass (top 9) 3
abbrev N_Tape_sees : List Str := ["self"]
abbrev P_Tape_sees : List Str := ["self"]
theorem sc_Tape_sees : FnScope N_Tape_sees P_Tape_sees (defScope s_Tape_sees) := ⟨rfl, rfl, rfl, by decide +kernel, rfl, by decide +kernel, by decide +kernel⟩
abbrev s_Tape_wants : Stmt := inClass (top 9) 4
abbrev N_Tape_wants : List Str := ["self", "sign"]
abbrev P_Tape_wants : List Str := ["self", "sign"]
theorem sc_Tape_wants : FnScope N_Tape_wants P_Tape_wants (defScope s_Tape_wants) := ⟨rfl, rfl, rfl, by decide +kernel, rfl, by decide +kernel, by decide +kernel⟩
abbrev s_Tape_run : Stmt := inClass (top 9) 5
abbrev N_Tape_run : List Str := ["self", "signs", "start"]
abbrev P_Tape_run : List Str := ["self", "signs"]
theorem sc_Tape_run : FnScope N_Tape_run P_Tape_run (defScope s_Tape_run) := ⟨rfl, rfl, rfl, by decide +kernel, rfl, by decide +kernel, by decide +kernel⟩
abbrev s_read_parts : Stmt := top 10
abbrev N_read_parts : List Str := ["tape", "last", "deep", "found"]
abbrev P_read_parts : List Str := ["tape", "last", "deep"]
theorem sc_read_parts : FnScope N_read_parts P_read_parts (defScope s_read_parts) := ⟨rfl, rfl, rfl, by decide +kernel, rfl, by decide +kernel, by decide +kernel⟩
abbrev s_opened : Stmt := top 11
abbrev N_opened : List Str := ["tape", "deep"]
abbrev P_opened : List Str := ["tape", "deep"]
theorem sc_opened : FnScope N_opened P_opened (defScope s_opened) := ⟨rfl, rfl, rfl, by decide +kernel, rfl, by decide +kernel, by decide +kernel⟩
abbrev s_read_plain : Stmt := top 12
abbrev N_read_plain : List Str := ["tape", "deep", "sign", "name", "found"]
abbrev P_read_plain : List Str := ["tape", "deep"]
theorem sc_read_plain : FnScope N_read_plain P_read_plain (defScope s_read_plain) := ⟨rfl, rfl, rfl, by decide +kernel, rfl, by decide +kernel, by decide +kernel⟩
abbrev s_read_product : Stmt := top 13
abbrev N_read_product : List Str := ["tape", "deep", "found"]
abbrev P_read_product : List Str := ["tape", "deep"]
theorem sc_read_product : FnScope N_read_product P_read_product (defScope s_read_product) := ⟨rfl, rfl, rfl, by decide +kernel, rfl, by decide +kernel, by decide +kernel⟩
abbrev s_read_sum : Stmt := top 14
abbrev N_read_sum : List Str := ["tape", "deep", "found", "sign"]
abbrev P_read_sum : List Str := ["tape", "deep"]
theorem sc_read_sum : FnScope N_read_sum P_read_sum (defScope s_read_sum) := ⟨rfl, rfl, rfl, by decide +kernel, rfl, by decide +kernel, by decide +kernel⟩
abbrev s_read : Stmt := top 15
abbrev N_read : List Str := ["text", "tape", "found"]
abbrev P_read : List Str := ["text"]
theorem sc_read : FnScope N_read P_read (defScope s_read) := ⟨rfl, rfl, rfl, by decide +kernel, rfl, by decide +kernel, by decide +kernel⟩
abbrev s_cell : Stmt := top 17
abbrev N_cell : List Str := ["_law_script", "_law_k"]
abbrev P_cell : List Str := ["_law_script", "_law_k"]
theorem sc_cell : FnScope N_cell P_cell (defScope s_cell) := ⟨rfl, rfl, rfl, by decide +kernel, rfl, by decide +kernel, by decide +kernel⟩
abbrev s_mix : Stmt := top 18
abbrev N_mix : List Str := ["_law_script", "_law_k", "_law_number"]
abbrev P_mix : List Str := ["_law_script", "_law_k"]
theorem sc_mix : FnScope N_mix P_mix (defScope s_mix) := ⟨rfl, rfl, rfl, by decide +kernel, rfl, by decide +kernel, by decide +kernel⟩
abbrev s_whole : Stmt := top 19
abbrev N_whole : List Str := ["_law_found"]
abbrev P_whole : List Str := ["_law_found"]
theorem sc_whole : FnScope N_whole P_whole (defScope s_whole) := ⟨rfl, rfl, rfl, by decide +kernel, rfl, by decide +kernel, by decide +kernel⟩
abbrev s_tree : Stmt := top 20
abbrev N_tree : List Str := ["_law_script", "_law_k", "_law_deep", "_law_most", "_law_number", "_law_way", "_law_names", "_law_some", "_law_parts", "_law_j", "_law_one"]
abbrev P_tree : List Str := ["_law_script", "_law_k", "_law_deep", "_law_most"]
theorem sc_tree : FnScope N_tree P_tree (defScope s_tree) := ⟨rfl, rfl, rfl, by decide +kernel, rfl, by decide +kernel, by decide +kernel⟩
abbrev s_words : Stmt := top 21
abbrev N_words : List Str := ["_law_tree_here", "_law_word", "_law_found", "_law_parts", "_law_k", "_law_tight", "_law_first"]
abbrev P_words : List Str := ["_law_tree_here"]
theorem sc_words : FnScope N_words P_words (defScope s_words) := ⟨rfl, rfl, rfl, by decide +kernel, rfl, by decide +kernel, by decide +kernel⟩
abbrev s_inner : Stmt := top 22
abbrev N_inner : List Str := ["_law_tree_here", "_law_kinds"]
abbrev P_inner : List Str := ["_law_tree_here", "_law_kinds"]
theorem sc_inner : FnScope N_inner P_inner (defScope s_inner) := ⟨rfl, rfl, rfl, by decide +kernel, rfl, by decide +kernel, by decide +kernel⟩
abbrev s_run : Stmt := top 23
abbrev N_run : List Str := ["_law_text_here", "_law_at", "_law_signs", "_law_size"]
abbrev P_run : List Str := ["_law_text_here", "_law_at", "_law_signs"]
theorem sc_run : FnScope N_run P_run (defScope s_run) := ⟨rfl, rfl, rfl, by decide +kernel, rfl, by decide +kernel, by decide +kernel⟩
abbrev s_wrong : Stmt := top 24
abbrev N_wrong : List Str := ["_law_text_here", "_law_letters", "_law_stack", "_law_waits", "_law_fresh", "_law_name", "_law_at", "_law_sign", "_law_size", "_law_closes", "_law_parts", "_law_before", "_law_opens"]
abbrev P_wrong : List Str := ["_law_text_here"]
theorem sc_wrong : FnScope N_wrong P_wrong (defScope s_wrong) := ⟨rfl, rfl, rfl, by decide +kernel, rfl, by decide +kernel, by decide +kernel⟩
abbrev s_text : Stmt := top 25
abbrev N_text : List Str := ["_law_script", "_law_way", "_law_menu", "_law_k", "_law_opens", "_law_closes", "_law_one", "_law_words_here", "_law_text_here", "_law_number", "_law_at", "_law_sign", "_law_some"]
abbrev P_text : List Str := ["_law_script"]
theorem sc_text : FnScope N_text P_text (defScope s_text) := ⟨rfl, rfl, rfl, by decide +kernel, rfl, by decide +kernel, by decide +kernel⟩
abbrev s_law : Stmt := top 26
abbrev N_law : List Str := ["_law_script", "_law_text_here", "_law_kept", "e", "_law_due", "_law_good"]
abbrev P_law : List Str := ["_law_script"]
theorem sc_law : FnScope N_law P_law (defScope s_law) := ⟨rfl, rfl, rfl, by decide +kernel, rfl, by decide +kernel, by decide +kernel⟩
end Q
namespace Q
open PySem PySem.Spec PyProof.Rows L2 Pw
/-! ### the tape -/
def inS (z : Str) (c : Nat) : Bool := decide (c ∈ z.cps.toList)
def runN (f : Nat → Bool) (L : List Nat) (p : Nat) : Nat := ((L.drop p).takeWhile f).length
def sk (T : Str) (p : Nat) : Nat := p + runN (inS " \n") T.cps.toList p
def sg (T : Str) (p : Nat) : Option Nat := T.cps.toList[p]?
def sgS (T : Str) (p : Nat) : Str := match sg T p with
  | some c => ⟨#[c]⟩
  | none => ""
def subS (T : Str) (p q : Nat) : Str := ⟨((T.cps.toList.drop p).take (q - p)).toArray⟩
def tapeF (T : Str) (p : Nat) : Fs := [("text", .str T), ("at", .int p)]
theorem len_cps (T : Str) : T.length = T.cps.toList.length := by simp [Str.length]
theorem tw_le (f : Nat → Bool) : ∀ l : List Nat, (l.takeWhile f).length ≤ l.length
  | [] => Nat.le_refl _
  | a :: l => by
    rw [List.takeWhile_cons]
    split
    · exact Nat.succ_le_succ (tw_le f l)
    · exact Nat.zero_le _
theorem runN_le (f : Nat → Bool) (L : List Nat) (p : Nat) : runN f L p ≤ L.length - p := by
  unfold runN
  have := tw_le f (L.drop p)
  rw [List.length_drop] at this
  exact this
theorem runN_yes {f : Nat → Bool} {L : List Nat} {p c : Nat} (h : L[p]? = some c) (hf : f c = true) : runN f L p = runN f L (p + 1) + 1 := by
  obtain ⟨hp, e⟩ := List.getElem?_eq_some_iff.mp h
  unfold runN
  rw [List.drop_eq_getElem_cons hp, e, List.takeWhile_cons, if_pos hf, List.length_cons]
theorem runN_no {f : Nat → Bool} {L : List Nat} {p c : Nat} (h : L[p]? = some c) (hf : f c = false) : runN f L p = 0 := by
  obtain ⟨hp, e⟩ := List.getElem?_eq_some_iff.mp h
  unfold runN
  rw [List.drop_eq_getElem_cons hp, e, List.takeWhile_cons, if_neg (by rw [hf]; exact Bool.false_ne_true)]; rfl
theorem runN_end {f : Nat → Bool} {L : List Nat} {p : Nat} (h : L.length ≤ p) : runN f L p = 0 := by
  unfold runN
  rw [List.drop_eq_nil_of_le h]; rfl
theorem sk_le {T : Str} {p : Nat} (h : p ≤ T.length) : sk T p ≤ T.length := by
  have := runN_le (inS " \n") T.cps.toList p
  rw [← len_cps] at this
  unfold sk; omega
theorem le_sk (T : Str) (p : Nat) : p ≤ sk T p := Nat.le_add_right _ _
theorem sg_lt {T : Str} {p c : Nat} (h : sg T p = some c) : p < T.length := by
  rw [len_cps]; exact (List.getElem?_eq_some_iff.mp h).1
theorem sg_none {T : Str} {p : Nat} (h : sg T p = none) : T.length ≤ p := by
  rw [len_cps]; exact List.getElem?_eq_none_iff.mp h
theorem sk_yes {T : Str} {p c : Nat} (h : sg T p = some c) (hf : inS " \n" c = true) : sk T p = sk T (p + 1) := by
  unfold sk; rw [runN_yes h hf]; omega
theorem sk_no {T : Str} {p c : Nat} (h : sg T p = some c) (hf : inS " \n" c = false) : sk T p = p := by
  unfold sk; rw [runN_no h hf]; rfl
theorem sk_end {T : Str} {p : Nat} (h : T.length ≤ p) : sk T p = p := by
  unfold sk; rw [runN_end (by rw [← len_cps]; exact h)]; rfl
theorem sIx_some {n k : Nat} (d : Nat) (h : k ≤ n) : HT.sIx n d (some (k : Int)) = k := by rw [HT.sIx_nat]; omega
theorem cut_sg {T : Str} {p : Nat} (h : p ≤ T.length) : cutS T (some (p : Int)) (some ((p : Int) + 1)) = sgS T p := by
  have e : ((p : Int) + 1) = ((p + 1 : Nat) : Int) := by omega
  unfold cutS sgS
  rw [e, HT.sIx_nat, HT.sIx_nat]
  cases q : sg T p with
  | none =>
    have := sg_none q
    rw [List.drop_eq_nil_of_le (by rw [← len_cps]; omega), List.take_nil]; rfl
  | some c =>
    have := sg_lt q
    obtain ⟨hp, e1⟩ := List.getElem?_eq_some_iff.mp (show T.cps.toList[p]? = some c from q)
    rw [show min p T.length = p by omega, show min (p + 1) T.length - p = 1 by omega, List.drop_eq_getElem_cons hp, e1]; rfl
theorem cut_sub {T : Str} {p q : Nat} (h : p ≤ q) (h2 : q ≤ T.length) : cutS T (some (p : Int)) (some (q : Int)) = subS T p q := by
  unfold cutS subS
  have e1 := sIx_some (n := T.length) (k := p) 0 (by omega)
  have e2 := sIx_some (n := T.length) (k := q) T.length h2
  rw [e1, e2]

structure TapeT (K : PySem.W.Frag) (mg : Str → Option Value) (CT CB : Addr) : Prop where
  cl : Cls K CT
  nT : NoAttr K CT "text"
  nA : NoAttr K CT "at"
  white : ∃ t, mg "WHITE" = some (.str " \n" t)
  letters : ∃ t, mg "LETTERS" = some (.str "abcdefghijklmnopqrstuvwxyz" t)
  figures : ∃ t, mg "FIGURES" = some (.str "0123456789" t)
  deep : ∃ t, mg "MOST_DEEP" = some (.int 20 t)
  len : mg "len" = none
  int : mg "int" = none
  tup : mg "tuple" = none
def shortT (T : Str) (p : Nat) : Prop := p ≤ T.length ∧ T.length ≤ 100000
def RSkip (fs : Fs) (ds : List PyData) (out : OutO) : Prop := ∃ T p, shortT T p ∧ fs = tapeF T p ∧ ds = [] ∧ out = .ret .none (tapeF T (sk T p))
def RSees (fs : Fs) (ds : List PyData) (out : OutO) : Prop := ∃ T p, shortT T p ∧ fs = tapeF T p ∧ ds = [] ∧ out = .ret (.str (sgS T (sk T p))) (tapeF T (sk T p))
def RRefuse (CB : Addr) (fs : Fs) (ds : List PyData) (out : OutO) : Prop := ∃ T p, fs = tapeF T p ∧ ds = [] ∧ out = .exc (.ref CB) [("place", .int (p : Nat))]
def RWants (CB : Addr) (fs : Fs) (ds : List PyData) (out : OutO) : Prop := ∃ T p c, shortT T p ∧ fs = tapeF T p ∧ ds = [.str ⟨#[c]⟩] ∧ out = if sg T (sk T p) = some c then .ret .none (tapeF T (sk T p + 1)) else .exc (.ref CB) [("place", .int (sk T p : Nat))]
def RRun (fs : Fs) (ds : List PyData) (out : OutO) : Prop := ∃ T p z, shortT T p ∧ fs = tapeF T p ∧ ds = [.str z] ∧ out = .ret (.str (subS T p (p + runN (inS z) T.cps.toList p))) (tapeF T (p + runN (inS z) T.cps.toList p))
def RTInit (fs : Fs) (ds : List PyData) (out : OutO) : Prop := ∃ T, fs = [] ∧ ds = [.str T] ∧ out = .ret .none (tapeF T 0)
theorem small640 {n : Nat} (h : n ≤ 100000) : n ≤ sizeLine := Nat.le_trans h (by decide)
theorem ta_ne : ¬ (("text" : Str) = "at") := by decide +kernel
theorem lk_text {T : Str} {p : Nat} : (tapeF T p).lookup ("text" : Str) = some (.str T) := by
  unfold tapeF
  rw [List.lookup_cons]
  have : (("text" : Str) == ("text" : Str)) = true := beq_self_eq_true _
  rw [this]
theorem lk_at {T : Str} {p : Nat} : (tapeF T p).lookup ("at" : Str) = some (.int p) := by
  unfold tapeF
  rw [List.lookup_cons]
  have : (("at" : Str) == ("text" : Str)) = false := by decide +kernel
  rw [this]
  show List.lookup ("at" : Str) [(("at" : Str), PyData.int (p : Nat))] = _
  rw [List.lookup_cons, beq_self_eq_true]
theorem lk_no {T : Str} {p : Nat} {m : Str} (h1 : (m == ("text" : Str)) = false := by decide +kernel) (h2 : (m == ("at" : Str)) = false := by decide +kernel) : (tapeF T p).lookup m = none := by
  unfold tapeF
  rw [List.lookup_cons, h1]
  show List.lookup m [(("at" : Str), PyData.int (p : Nat))] = _
  rw [List.lookup_cons, h2]; rfl
theorem put_at {T : Str} {p : Nat} {q : Nat} : putD "at" (.int (q : Int)) (tapeF T p) = tapeF T q := by
  unfold tapeF putD
  rw [if_neg ta_ne]
  unfold putD
  rw [if_pos rfl]
section
variable {P : Program} {w : World} {K : PySem.W.Frag} {mg : Str → Option Value} {base : Heap} {CT CB : Addr} {f : Addr} {fd : FuncData}
theorem ok_tinit (F : Fun K "__init__" "Tape.__init__" s_Tape_init f fd) (G : TapeT K mg CT CB) : FnOk P w K mg base (L2.CX P w) 1 f fd P_Tape_init (spO K CT 1 RTInit) := by
  refine okO_def F sc_Tape_init rfl fun cdv A outer s H E hr c fs ds out hc hl hR => ?_
  obtain ⟨T, rfl, rfl, rfl⟩ := hR
  subst hc
  refine dss_cons (ds_fld 0 G.cl G.nT (de_var 1 rfl ⟨_, rfl, by decide, ?_⟩))
  refine dss_one (ds_fld 0 G.cl G.nA (de_int ⟨_, rfl, by show 1 < 1000; decide, _, rfl, ?_⟩))
  show OutO.ret .none (tapeF T 0) = .ret .none (putD "at" (.int 0) [("text", .str T)])
  unfold putD
  rw [if_neg ta_ne]; rfl
theorem ok_skip (F : Fun K "skip" "Tape.skip" s_Tape_skip f fd) (G : TapeT K mg CT CB) : FnOk P w K mg base (L2.CX P w) 1 f fd P_Tape_skip (spO K CT 0 RSkip) := by
  refine okO_def F sc_Tape_skip rfl fun cdv A outer s H E hr c fs ds out hc hl hR => ?_
  obtain ⟨T, p, ⟨hp, hT⟩, rfl, rfl, rfl⟩ := hR
  subst hc
  obtain ⟨tw, hw⟩ := G.white
  refine dss_one (ds_while (fun m ρ => ∃ q, q ≤ T.length ∧ sk T q = sk T p ∧ m = T.length - q ∧ ρ = [some (.obj c (tapeF T q))]) _ ⟨p, hp, rfl, rfl, rfl⟩ fun m ρ hI => ?_)
  obtain ⟨q, hq, es, rfl, rfl⟩ := hI
  refine dt_w (dw_and (dt_cmp op_lt (de_fld 0 rfl lk_at G.cl G.nA (de_cb call_lenR G.len boot_len (da_cons (de_fld 0 rfl lk_text G.cl G.nT (da_nil ⟨_, cd_lenS (small640 hT), _, od_B0, ?_⟩))))) (nomark _)))
  cases e : sg T q with
  | none =>
    have h1 := sg_none e
    rw [decide_eq_false (by omega : ¬ (q : Int) < (T.length : Int))]
    refine iteF (iteF ⟨_, rfl, ?_⟩)
    rw [← es, sk_end h1]
  | some ch =>
    have h1 := sg_lt e
    rw [decide_eq_true (by omega : (q : Int) < (T.length : Int))]
    refine iteT (dw_and1 (dt_cmp op_inS (de_ixS (de_fld 0 rfl lk_text G.cl G.nT (de_fld 0 rfl lk_at G.cl G.nA ⟨T, _, ch, rfl, rfl, small640 hT, atI_nat e, de_globS hw ⟨_, od_inS, ?_⟩⟩))) (by rfl)))
    show (if (if false = true then !inS " \n" ch else inS " \n" ch) = true then _ else _)
    rw [if_neg Bool.false_ne_true]
    cases e2 : inS " \n" ch with
    | true =>
      refine iteT (dss_one (ds_fld 0 G.cl G.nA (de_op op_add (de_fld 0 rfl lk_at G.cl G.nA (de_int ⟨_, od_I0, _, rfl, by show 2 < 1000; decide, ?_⟩)))))
      have ep : ((q : Int) + 1) = ((q + 1 : Nat) : Int) := by omega
      rw [ep]
      refine ⟨T.length - (q + 1), by omega, q + 1, h1, by rw [← es, sk_yes e e2], rfl, ?_⟩
      show [some (Ent.obj c (putD "at" (.int ((q + 1 : Nat) : Int)) (tapeF T q)))] = _
      rw [put_at]
    | false =>
      refine iteF ⟨_, rfl, ?_⟩
      rw [← es, sk_no e e2]
end
end Q
namespace Q
open PySem PySem.Spec PyProof.Rows L2 Pw
theorem emp_ne {c : Nat} (h : ("" : Str) = ⟨#[c]⟩) : False := by
  have h2 : ("" : Str).cps.size = 1 := by rw [h]; rfl
  exact absurd h2 (by decide +kernel)
theorem sgS_eq {T : Str} {p c : Nat} : sgS T p = ⟨#[c]⟩ ↔ sg T p = some c := by
  unfold sgS
  cases q : sg T p with
  | none => exact ⟨fun h => (emp_ne h).elim, fun h => nomatch h⟩
  | some d => exact ⟨fun h => by
    have e : d = c := by simpa using h
    rw [e], fun h => by cases h; rfl⟩
/-- what raising BadText wants -/
structure BadT (P : Program) (w : World) (K : PySem.W.Frag) (mg : Str → Option Value) (base : Heap) (CB : Addr) : Prop where
  ex : ∃ (fI : Addr) (fd : FuncData) (ps : List Str), PySem.W.findIn K (.ref CB) "__init__" = some (some (.ref fI)) ∧ PySem.W.typeIn K (.ref fI) = some (.type "function") ∧ FnOk P w K mg base (L2.CX P w) 1 fI fd ps (spXI CB "place") ∧ L2.Binds K fd ps []
  T : OexC K CB
  mgB : mg "BadText" = some (.ref CB)
section
variable {P : Program} {w : World} {K : PySem.W.Frag} {mg : Str → Option Value} {base : Heap} {CT CB : Addr} {f : Addr} {fd : FuncData}
theorem ok_refuse (F : Fun K "refuse" "Tape.refuse" s_Tape_refuse f fd) (G : TapeT K mg CT CB) (BT : BadT P w K mg base CB) : FnOk P w K mg base (L2.CX P w) 3 f fd P_Tape_refuse (spO K CT 0 (RRefuse CB)) := by
  refine okO_def F sc_Tape_refuse rfl fun cdv A outer s H E hr c fs ds out hc hl hR => ?_
  obtain ⟨T, p, rfl, rfl, rfl⟩ := hR
  subst hc
  obtain ⟨fI, fd2, ps, h1, h2, h3, h4⟩ := BT.ex
  exact dss_one (ds_raise1 BT.T h1 h2 h3 hr h4 BT.mgB (de_fld 0 rfl lk_at G.cl G.nA rfl))
theorem ok_sees (F : Fun K "sees" "Tape.sees" s_Tape_sees f fd) (G : TapeT K mg CT CB) (GS : KnM P w K mg base CT "skip" 1 (spO K CT 0 RSkip)) : FnOk P w K mg base (L2.CX P w) 2 f fd P_Tape_sees (spO K CT 0 RSees) := by
  refine okO_def F sc_Tape_sees rfl fun cdv A outer s H E hr c fs ds out hc hl hR => ?_
  obtain ⟨T, p, hp, rfl, rfl, rfl⟩ := hR
  subst hc
  refine dss_cons (ds_expr (de_meth0 0 GS hr rfl lk_no ⟨_, ⟨T, p, hp, rfl, rfl, rfl⟩, ?_⟩))
  have h1 := sk_le hp.1
  refine dss_one (ds_ret (de_slS (de_fld 0 rfl lk_text G.cl G.nT (de_fld 0 rfl lk_at G.cl G.nA ⟨_, rfl, de_op op_add (de_fld 0 rfl lk_at G.cl G.nA (de_int ⟨_, od_I0, _, rfl, T, rfl, small640 hp.2, _, rfl, ?_⟩))⟩))))
  rw [cut_sg h1]
theorem ok_wants (F : Fun K "wants" "Tape.wants" s_Tape_wants f fd) (G : TapeT K mg CT CB) (GS : KnM P w K mg base CT "sees" 2 (spO K CT 0 RSees)) (GR : KnM P w K mg base CT "refuse" 3 (spO K CT 0 (RRefuse CB))) : FnOk P w K mg base (L2.CX P w) 4 f fd P_Tape_wants (spO K CT 1 (RWants CB)) := by
  refine okO_def F sc_Tape_wants rfl fun cdv A outer s H E hr c fs ds out hc hl hR => ?_
  obtain ⟨T, p, ch, hp, rfl, rfl, rfl⟩ := hR
  subst hc
  refine dss_cons (ds_if (dt_cmp op_ne (de_meth0 0 GS (hr.mono (by decide)) rfl lk_no ⟨_, ⟨T, p, hp, rfl, rfl, rfl⟩, de_var 1 rfl ⟨_, od_ne rfl rfl rfl, ?_⟩⟩) (nomark _)))
  show (if (!decide (V.str (sgS T (sk T p)) = V.str ⟨#[ch]⟩)) = true then _ else _)
  by_cases e : sg T (sk T p) = some ch
  · have e2 : sgS T (sk T p) = ⟨#[ch]⟩ := sgS_eq.mpr e
    rw [e2, decide_eq_true rfl]
    refine iteF (dss_nil (dss_one (ds_fld 0 G.cl G.nA (de_op op_add (de_fld 0 rfl lk_at G.cl G.nA (de_int ⟨_, od_I0, _, rfl, by show 2 < 1000; decide, _, rfl, ?_⟩))))))
    rw [if_pos e]
    have ep : ((sk T p : Int) + 1) = ((sk T p + 1 : Nat) : Int) := by omega
    rw [ep, put_at]
  · have e2 : ¬ (V.str (sgS T (sk T p)) = V.str ⟨#[ch]⟩) := by
      exact fun z => e (sgS_eq.mp (V.str.inj z))
    rw [decide_eq_false e2]
    refine iteT (dss_one (ds_expr (de_meth0 0 GR (hr.mono (by decide)) rfl lk_no ⟨_, ⟨T, _, rfl, rfl, rfl⟩, ?_⟩)))
    show _ = _
    rw [if_neg e]
theorem ok_run (F : Fun K "run" "Tape.run" s_Tape_run f fd) (G : TapeT K mg CT CB) : FnOk P w K mg base (L2.CX P w) 1 f fd P_Tape_run (spO K CT 1 RRun) := by
  refine okO_def F sc_Tape_run rfl fun cdv A outer s H E hr c fs ds out hc hl hR => ?_
  obtain ⟨T, p, z, ⟨hp, hT⟩, rfl, rfl, rfl⟩ := hR
  subst hc
  have hrun := runN_le (inS z) T.cps.toList p
  rw [← len_cps] at hrun
  refine dss_cons (ds_set 2 (de_fld 0 rfl lk_at G.cl G.nA ?_) sc_Tape_run.nd)
  refine dss_cons (ds_while (fun m ρ => ∃ q, p ≤ q ∧ q ≤ T.length ∧ q + runN (inS z) T.cps.toList q = p + runN (inS z) T.cps.toList p ∧ m = T.length - q ∧ ρ = [some (.obj c (tapeF T q)), some (.val (.str z)), some (.val (.int p))]) _ ⟨p, Nat.le_refl _, hp, rfl, rfl, rfl⟩ fun m ρ hI => ?_)
  obtain ⟨q, hpq, hq, es, rfl, rfl⟩ := hI
  have fin : q = p + runN (inS z) T.cps.toList p → DSs (cxOf (L2.CX P w) P w K mg base N_Tape_run "Tape.run" (defScope s_Tape_run) f cdv A outer s H E) (fun cl xs => OutO.ret (PyData.str (subS T p (p + runN (inS z) T.cps.toList p))) (tapeF T (p + runN (inS z) T.cps.toList p)) = .exc cl xs)
      [(defBody s_Tape_run).getD 2 (.Pass ⟨0, 0, 0, 0⟩)] { nx := fun ρ => ∃ fs', ρ[0]? = some (some (.obj c fs')) ∧ OutO.ret (PyData.str (subS T p (p + runN (inS z) T.cps.toList p))) (tapeF T (p + runN (inS z) T.cps.toList p)) = .ret .none fs', rt := fun d ρ => ∃ fs', ρ[0]? = some (some (.obj c fs')) ∧ OutO.ret (PyData.str (subS T p (p + runN (inS z) T.cps.toList p))) (tapeF T (p + runN (inS z) T.cps.toList p)) = .ret d fs' }
      [some (.obj c (tapeF T q)), some (.val (.str z)), some (.val (.int p))] := fun eq => by
    refine dss_one (ds_ret (de_slS (de_fld 0 rfl lk_text G.cl G.nT (de_var 2 rfl ⟨_, rfl, de_fld 0 rfl lk_at G.cl G.nA ⟨_, rfl, T, rfl, small640 hT, _, rfl, ?_⟩⟩))))
    rw [cut_sub hpq hq, ← eq]
  refine dt_w (dw_and (dt_cmp op_lt (de_fld 0 rfl lk_at G.cl G.nA (de_cb call_lenR G.len boot_len (da_cons (de_fld 0 rfl lk_text G.cl G.nT (da_nil ⟨_, cd_lenS (small640 hT), _, od_B0, ?_⟩))))) (nomark _)))
  cases e : sg T q with
  | none =>
    have h1 := sg_none e
    rw [decide_eq_false (by omega : ¬ (q : Int) < (T.length : Int))]
    refine iteF (iteF (fin ?_))
    rw [← es, runN_end (by rw [← len_cps]; exact h1)]; rfl
  | some ch =>
    have h1 := sg_lt e
    rw [decide_eq_true (by omega : (q : Int) < (T.length : Int))]
    refine iteT (dw_and1 (dt_cmp op_inS (de_ixS (de_fld 0 rfl lk_text G.cl G.nT (de_fld 0 rfl lk_at G.cl G.nA ⟨T, _, ch, rfl, rfl, small640 hT, atI_nat e, de_var 1 rfl ⟨_, od_inS, ?_⟩⟩))) (by rfl)))
    show (if (if false = true then !inS z ch else inS z ch) = true then _ else _)
    rw [if_neg Bool.false_ne_true]
    cases e2 : inS z ch with
    | true =>
      refine iteT (dss_one (ds_fld 0 G.cl G.nA (de_op op_add (de_fld 0 rfl lk_at G.cl G.nA (de_int ⟨_, od_I0, _, rfl, by show 2 < 1000; decide, ?_⟩)))))
      have ep : ((q : Int) + 1) = ((q + 1 : Nat) : Int) := by omega
      rw [ep]
      refine ⟨T.length - (q + 1), by omega, q + 1, by omega, h1, ?_, rfl, ?_⟩
      · rw [← es, runN_yes e e2]; omega
      · show [some (Ent.obj c (putD "at" (.int ((q + 1 : Nat) : Int)) (tapeF T q))), some (.val (.str z)), some (.val (.int p))] = _
        rw [put_at]
    | false =>
      refine iteF (fin ?_)
      rw [← es, runN_no e e2]; rfl
end
end Q
namespace Q
open PySem PySem.Spec PyProof.Rows L2 Pw
/-! ### trees -/
inductive Tr where
  | name (s : Str)
  | num (n : Int)
  | call (f : Str) (ps : List Tr)
  | row (ps : List Tr)
  | bin (o : Str) (a b : Tr)
mutual
def encT : Tr → PyData
  | .name s => .tuple [.str "name", .str s]
  | .num n => .tuple [.str "number", .int n]
  | .call f ps => .tuple [.str "call", .str f, .tuple (encTs ps)]
  | .row ps => .tuple [.str "row", .tuple (encTs ps)]
  | .bin o a b => .tuple [.str o, encT a, encT b]
def encTs : List Tr → List PyData
  | [] => []
  | t :: ts => encT t :: encTs ts
end
/-! ### reading, as a relation: d brackets lie around, from place p; a tree and the place behind it, or the wrong place -/
abbrev Res (α : Type) := Except Nat (α × Nat)
mutual
inductive Plain (T : Str) : Nat → Nat → Res Tr → Prop
  | letters {d p c : Nat} (h : sg T (sk T p) = some c) (hc : inS "abcdefghijklmnopqrstuvwxyz" c = true)
      (hn : sg T (sk T (sk T p + runN (inS "abcdefghijklmnopqrstuvwxyz") T.cps.toList (sk T p))) ≠ some 40) :
      Plain T d p (.ok (.name (subS T (sk T p) (sk T p + runN (inS "abcdefghijklmnopqrstuvwxyz") T.cps.toList (sk T p))), sk T (sk T p + runN (inS "abcdefghijklmnopqrstuvwxyz") T.cps.toList (sk T p))))
  | callDeep {p c : Nat} (h : sg T (sk T p) = some c) (hc : inS "abcdefghijklmnopqrstuvwxyz" c = true)
      (hn : sg T (sk T (sk T p + runN (inS "abcdefghijklmnopqrstuvwxyz") T.cps.toList (sk T p))) = some 40) :
      Plain T 20 p (.error (sk T (sk T p + runN (inS "abcdefghijklmnopqrstuvwxyz") T.cps.toList (sk T p))))
  | call {d p c : Nat} {r : Res (List Tr)} (h : sg T (sk T p) = some c) (hc : inS "abcdefghijklmnopqrstuvwxyz" c = true)
      (hn : sg T (sk T (sk T p + runN (inS "abcdefghijklmnopqrstuvwxyz") T.cps.toList (sk T p))) = some 40) (hd : d < 20)
      (hp : Parts T 41 (d + 1) (sk T (sk T p + runN (inS "abcdefghijklmnopqrstuvwxyz") T.cps.toList (sk T p)) + 1) r) :
      Plain T d p (r.map fun x => (.call (subS T (sk T p) (sk T p + runN (inS "abcdefghijklmnopqrstuvwxyz") T.cps.toList (sk T p))) x.1, x.2))
  | zero {d p : Nat} (h : sg T (sk T p) = some 48) : Plain T d p (.ok (.num 0, sk T p + 1))
  | figures {d p c : Nat} {n : Int} (h : sg T (sk T p) = some c) (hc : inS "0123456789" c = true) (h0 : c ≠ 48) (hn : PySem.intText? (subS T (sk T p) (sk T p + runN (inS "0123456789") T.cps.toList (sk T p))) = some n) (hl : (subS T (sk T p) (sk T p + runN (inS "0123456789") T.cps.toList (sk T p))).length ≤ 640) :
      Plain T d p (.ok (.num n, sk T p + runN (inS "0123456789") T.cps.toList (sk T p)))
  | rowDeep {p : Nat} (h : sg T (sk T p) = some 91) : Plain T 20 p (.error (sk T p))
  | row {d p : Nat} {r : Res (List Tr)} (h : sg T (sk T p) = some 91) (hd : d < 20) (hp : Parts T 93 (d + 1) (sk T p + 1) r) : Plain T d p (r.map fun x => (.row x.1, x.2))
  | brDeep {p : Nat} (h : sg T (sk T p) = some 40) : Plain T 20 p (.error (sk T p))
  | brBad {d p q : Nat} (h : sg T (sk T p) = some 40) (hd : d < 20) (hp : Sum T (d + 1) (sk T p + 1) (.error q)) : Plain T d p (.error q)
  | brOpen {d p q : Nat} {t : Tr} (h : sg T (sk T p) = some 40) (hd : d < 20) (hp : Sum T (d + 1) (sk T p + 1) (.ok (t, q))) (hq : sg T (sk T q) ≠ some 41) : Plain T d p (.error (sk T q))
  | br {d p q : Nat} {t : Tr} (h : sg T (sk T p) = some 40) (hd : d < 20) (hp : Sum T (d + 1) (sk T p + 1) (.ok (t, q))) (hq : sg T (sk T q) = some 41) : Plain T d p (.ok (t, sk T q + 1))
  | none {d p : Nat} (h : ∀ c, sg T (sk T p) = some c → inS "abcdefghijklmnopqrstuvwxyz" c = false ∧ inS "0123456789" c = false ∧ c ≠ 91 ∧ c ≠ 40) : Plain T d p (.error (sk T p))
inductive ProdL (T : Str) : Nat → Tr → Nat → Res Tr → Prop
  | stop {d p : Nat} {t : Tr} (h : sg T (sk T p) ≠ some 42) : ProdL T d t p (.ok (t, sk T p))
  | bad {d p q : Nat} {t : Tr} (h : sg T (sk T p) = some 42) (hp : Plain T d (sk T p + 1) (.error q)) : ProdL T d t p (.error q)
  | more {d p q : Nat} {t u : Tr} {r : Res Tr} (h : sg T (sk T p) = some 42) (hp : Plain T d (sk T p + 1) (.ok (u, q))) (hr : ProdL T d (.bin "*" t u) q r) : ProdL T d t p r
inductive Prod (T : Str) : Nat → Nat → Res Tr → Prop
  | bad {d p q : Nat} (hp : Plain T d p (.error q)) : Prod T d p (.error q)
  | more {d p q : Nat} {t : Tr} {r : Res Tr} (hp : Plain T d p (.ok (t, q))) (hr : ProdL T d t q r) : Prod T d p r
inductive SumL (T : Str) : Nat → Tr → Nat → Res Tr → Prop
  | stop {d p : Nat} {t : Tr} (h1 : sg T (sk T p) ≠ some 43) (h2 : sg T (sk T p) ≠ some 45) : SumL T d t p (.ok (t, sk T p))
  | bad {d p q c : Nat} {t : Tr} (h : sg T (sk T p) = some c) (hc : c = 43 ∨ c = 45) (hp : Prod T d (sk T p + 1) (.error q)) : SumL T d t p (.error q)
  | more {d p q c : Nat} {t u : Tr} {r : Res Tr} (h : sg T (sk T p) = some c) (hc : c = 43 ∨ c = 45) (hp : Prod T d (sk T p + 1) (.ok (u, q))) (hr : SumL T d (.bin ⟨#[c]⟩ t u) q r) : SumL T d t p r
inductive Sum (T : Str) : Nat → Nat → Res Tr → Prop
  | bad {d p q : Nat} (hp : Prod T d p (.error q)) : Sum T d p (.error q)
  | more {d p q : Nat} {t : Tr} {r : Res Tr} (hp : Prod T d p (.ok (t, q))) (hr : SumL T d t q r) : Sum T d p r
inductive PartsL (T : Str) : Nat → Nat → List Tr → Nat → Res (List Tr) → Prop
  | stop {l d p : Nat} {ts : List Tr} (h : sg T (sk T p) = some l) (hl : l ≠ 44) : PartsL T l d ts p (.ok (ts, sk T p + 1))
  | bad {l d p : Nat} {ts : List Tr} (h : sg T (sk T p) ≠ some l) (hl : sg T (sk T p) ≠ some 44) : PartsL T l d ts p (.error (sk T p))
  | badS {l d p q : Nat} {ts : List Tr} (h : sg T (sk T p) = some 44) (hp : Sum T d (sk T p + 1) (.error q)) : PartsL T l d ts p (.error q)
  | more {l d p q : Nat} {ts : List Tr} {t : Tr} {r : Res (List Tr)} (h : sg T (sk T p) = some 44) (hp : Sum T d (sk T p + 1) (.ok (t, q))) (hr : PartsL T l d (ts ++ [t]) q r) : PartsL T l d ts p r
inductive Parts (T : Str) : Nat → Nat → Nat → Res (List Tr) → Prop
  | nil {l d p : Nat} (h : sg T (sk T p) = some l) : Parts T l d p (.ok ([], sk T p + 1))
  | bad {l d p q : Nat} (h : sg T (sk T p) ≠ some l) (hp : Sum T d p (.error q)) : Parts T l d p (.error q)
  | more {l d p q : Nat} {t : Tr} {r : Res (List Tr)} (h : sg T (sk T p) ≠ some l) (hp : Sum T d p (.ok (t, q))) (hr : PartsL T l d [t] q r) : Parts T l d p r
end
/-! ### how they end in the program -/
def outR (CB : Addr) (T : Str) (f : α → PyData) : Res α → OutO
  | .ok (t, q) => .ret (f t) (tapeF T q)
  | .error q => .exc (.ref CB) [("place", .int (q : Nat))]
def okR (T : Str) : Res α → Prop
  | .ok (_, q) => q ≤ T.length
  | .error _ => True
def RPlain (CB : Addr) (n : Nat) (fs : Fs) (ds : List PyData) (out : OutO) : Prop := ∃ T p d r, shortT T p ∧ fs = tapeF T p ∧ ds = [.int (d : Nat)] ∧ d + n = 20 ∧ Plain T d p r ∧ out = outR CB T encT r
def RProd (CB : Addr) (n : Nat) (fs : Fs) (ds : List PyData) (out : OutO) : Prop := ∃ T p d r, shortT T p ∧ fs = tapeF T p ∧ ds = [.int (d : Nat)] ∧ d + n = 20 ∧ Prod T d p r ∧ out = outR CB T encT r
def RSum (CB : Addr) (n : Nat) (fs : Fs) (ds : List PyData) (out : OutO) : Prop := ∃ T p d r, shortT T p ∧ fs = tapeF T p ∧ ds = [.int (d : Nat)] ∧ d + n = 20 ∧ Sum T d p r ∧ out = outR CB T encT r
def RParts (CB : Addr) (n : Nat) (fs : Fs) (ds : List PyData) (out : OutO) : Prop := ∃ T p d l r, shortT T p ∧ fs = tapeF T p ∧ ds = [.str ⟨#[l]⟩, .int (d : Nat)] ∧ d + n = 20 ∧ l ≠ 44 ∧ Parts T l d p r ∧ out = outR CB T (fun ts => .tuple (encTs ts)) r
theorem sg_succ {T : Str} {p c : Nat} (h : sg T p = some c) : p + 1 ≤ T.length := sg_lt h
theorem run_le {T : Str} {p c : Nat} (f : Nat → Bool) (h : sg T p = some c) : p + runN f T.cps.toList p ≤ T.length := by
  have h1 := runN_le f T.cps.toList p
  rw [← len_cps] at h1
  have := sg_lt h
  omega
mutual
theorem plain_le {T : Str} {d p : Nat} {r : Res Tr} : Plain T d p r → okR T r
  | .letters h _ _ => sk_le (run_le _ h)
  | .callDeep _ _ _ => trivial
  | .call (r := r) _ _ _ _ hp => by
    have := parts_le hp
    cases r with
    | ok x => exact this
    | error q => trivial
  | .zero h => sg_succ h
  | .figures h _ _ _ _ => run_le _ h
  | .rowDeep _ => trivial
  | .row (r := r) _ _ hp => by
    have := parts_le hp
    cases r with
    | ok x => exact this
    | error q => trivial
  | .brDeep _ => trivial
  | .brBad _ _ _ => trivial
  | .brOpen _ _ _ _ => trivial
  | .br _ _ _ hq => sg_succ hq
  | .none _ => trivial
theorem prodL_le {T : Str} {d p : Nat} {t : Tr} {r : Res Tr} : ProdL T d t p r → p ≤ T.length → okR T r
  | .stop _, hp => sk_le hp
  | .bad _ _, _ => trivial
  | .more _ h hr, _ => prodL_le hr (plain_le h)
theorem prod_le {T : Str} {d p : Nat} {r : Res Tr} : Prod T d p r → okR T r
  | .bad _ => trivial
  | .more h hr => prodL_le hr (plain_le h)
theorem sumL_le {T : Str} {d p : Nat} {t : Tr} {r : Res Tr} : SumL T d t p r → p ≤ T.length → okR T r
  | .stop _ _, hp => sk_le hp
  | .bad _ _ _, _ => trivial
  | .more _ _ h hr, _ => sumL_le hr (prod_le h)
theorem sum_le {T : Str} {d p : Nat} {r : Res Tr} : Sum T d p r → okR T r
  | .bad _ => trivial
  | .more h hr => sumL_le hr (prod_le h)
theorem partsL_le {T : Str} {l d p : Nat} {ts : List Tr} {r : Res (List Tr)} : PartsL T l d ts p r → okR T r
  | .stop h _ => sg_succ h
  | .bad _ _ => trivial
  | .badS _ _ => trivial
  | .more _ _ hr => partsL_le hr
theorem parts_le {T : Str} {l d p : Nat} {r : Res (List Tr)} : Parts T l d p r → okR T r
  | .nil h => sg_succ h
  | .bad _ _ => trivial
  | .more _ _ hr => partsL_le hr
end
theorem sk_stop (T : Str) (p : Nat) : ∀ c, sg T (sk T p) = some c → inS " \n" c = false := by
  have h : ∀ (f : Nat → Bool) (l : List Nat) (c : Nat), l[(l.takeWhile f).length]? = some c → f c = false := by
    intro f l
    induction l with
    | nil => intro c h; cases h
    | cons a l ih =>
      intro c h
      cases e : f a with
      | true =>
        rw [List.takeWhile_cons, if_pos e, List.length_cons, List.getElem?_cons_succ] at h
        exact ih c h
      | false =>
        rw [List.takeWhile_cons, if_neg (by rw [e]; exact Bool.false_ne_true)] at h
        cases h; exact e
  intro c hc
  refine h (inS " \n") (T.cps.toList.drop p) c ?_
  rw [List.getElem?_drop]
  exact hc
theorem sk_idem (T : Str) (p : Nat) : sk T (sk T p) = sk T p := by
  cases e : sg T (sk T p) with
  | none => exact sk_end (sg_none e)
  | some c => exact sk_no e (sk_stop T p c e)
theorem run_pos {T : Str} {p c : Nat} {f : Nat → Bool} (h : sg T p = some c) (hf : f c = true) : 0 < runN f T.cps.toList p := by
  rw [runN_yes h hf]; omega
def ltR (p : Nat) : Res α → Prop
  | .ok (_, q) => p < q
  | .error _ => True
def leR (p : Nat) : Res α → Prop
  | .ok (_, q) => p ≤ q
  | .error _ => True
theorem ltR.of {p p' : Nat} {r : Res α} (h : leR p r) (h' : p' < p) : ltR p' r := by
  cases r with
  | ok x => exact Nat.lt_of_lt_of_le h' h
  | error q => trivial
theorem leR.of {p p' : Nat} {r : Res α} (h : leR p r) (h' : p' ≤ p) : leR p' r := by
  cases r with
  | ok x => exact Nat.le_trans h' h
  | error q => trivial
theorem leR.map {β : Type} {p : Nat} {r : Res α} {f : α → β} (h : leR p r) : leR p (r.map fun x => (f x.1, x.2)) := by
  cases r with
  | ok x => exact h
  | error q => trivial
mutual
theorem plain_lt {T : Str} {d p : Nat} {r : Res Tr} : Plain T d p r → ltR p r
  | .letters h hc _ => Nat.lt_of_lt_of_le (Nat.lt_of_le_of_lt (le_sk T p) (Nat.lt_add_of_pos_right (run_pos h hc))) (le_sk T _)
  | .callDeep _ _ _ => trivial
  | .call h hc _ _ hp => ltR.of (parts_ge hp).map (Nat.lt_succ_of_le (Nat.le_trans (Nat.le_trans (le_sk T p) (Nat.le_add_right _ _)) (le_sk T _)))
  | .zero h => Nat.lt_succ_of_le (le_sk T p)
  | .figures h hc _ _ _ => Nat.lt_of_le_of_lt (le_sk T p) (Nat.lt_add_of_pos_right (run_pos h hc))
  | .rowDeep _ => trivial
  | .row _ _ hp => ltR.of (parts_ge hp).map (Nat.lt_succ_of_le (le_sk T p))
  | .brDeep _ => trivial
  | .brBad _ _ _ => trivial
  | .brOpen _ _ _ _ => trivial
  | .br _ _ hp _ => Nat.lt_succ_of_le (Nat.le_trans (Nat.le_trans (le_sk T p) (Nat.le_of_lt (Nat.lt_of_succ_lt (sum_lt hp)))) (le_sk T _))
  | .none _ => trivial
theorem prodL_ge {T : Str} {d p : Nat} {t : Tr} {r : Res Tr} : ProdL T d t p r → leR p r
  | .stop _ => le_sk T p
  | .bad _ _ => trivial
  | .more _ h hr => (prodL_ge hr).of (Nat.le_trans (le_sk T p) (Nat.le_of_lt (Nat.lt_of_succ_lt (plain_lt h))))
theorem prod_lt {T : Str} {d p : Nat} {r : Res Tr} : Prod T d p r → ltR p r
  | .bad _ => trivial
  | .more h hr => ltR.of (prodL_ge hr) (plain_lt h)
theorem sumL_ge {T : Str} {d p : Nat} {t : Tr} {r : Res Tr} : SumL T d t p r → leR p r
  | .stop _ _ => le_sk T p
  | .bad _ _ _ => trivial
  | .more _ _ h hr => (sumL_ge hr).of (Nat.le_trans (le_sk T p) (Nat.le_of_lt (Nat.lt_of_succ_lt (prod_lt h))))
theorem sum_lt {T : Str} {d p : Nat} {r : Res Tr} : Sum T d p r → ltR p r
  | .bad _ => trivial
  | .more h hr => ltR.of (sumL_ge hr) (prod_lt h)
theorem partsL_ge {T : Str} {l d p : Nat} {ts : List Tr} {r : Res (List Tr)} : PartsL T l d ts p r → leR p r
  | .stop _ _ => Nat.le_succ_of_le (le_sk T p)
  | .bad _ _ => trivial
  | .badS _ _ => trivial
  | .more _ h hr => (partsL_ge hr).of (Nat.le_trans (le_sk T p) (Nat.le_of_lt (Nat.lt_of_succ_lt (sum_lt h))))
theorem parts_ge {T : Str} {l d p : Nat} {r : Res (List Tr)} : Parts T l d p r → leR p r
  | .nil _ => Nat.le_succ_of_le (le_sk T p)
  | .bad _ _ => trivial
  | .more _ h hr => (partsL_ge hr).of (Nat.le_of_lt (sum_lt h))
end
/-! the blanks ahead may be passed first -/
theorem plain_cg {T : Str} {d p p' : Nat} {r : Res Tr} (e : sk T p = sk T p') (h : Plain T d p r) : Plain T d p' r := by
  cases h with
  | letters h hc hn => rw [e] at h hn ⊢; exact .letters h hc hn
  | callDeep h hc hn => rw [e] at h hn ⊢; exact .callDeep h hc hn
  | call h hc hn hd hp => rw [e] at h hn hp; rw [e]; exact .call h hc hn hd hp
  | zero h => rw [e] at h ⊢; exact .zero h
  | figures h hc h0 hn hl => rw [e] at h hn hl ⊢; exact .figures h hc h0 hn hl
  | rowDeep h => rw [e] at h ⊢; exact .rowDeep h
  | row h hd hp => rw [e] at h hp; exact .row h hd hp
  | brDeep h => rw [e] at h ⊢; exact .brDeep h
  | brBad h hd hp => rw [e] at h hp; exact .brBad h hd hp
  | brOpen h hd hp hq => rw [e] at h hp; exact .brOpen h hd hp hq
  | br h hd hp hq => rw [e] at h hp; exact .br h hd hp hq
  | none h => rw [e] at h ⊢; exact .none h
theorem sum_cg {T : Str} {d p p' : Nat} {r : Res Tr} (e : sk T p = sk T p') (h : Sum T d p r) : Sum T d p' r := by
  cases h with
  | bad h =>
    cases h with
    | bad h => exact .bad (.bad (plain_cg e h))
    | more h hr => exact .bad (.more (plain_cg e h) hr)
  | more h hr' =>
    cases h with
    | more h hr => exact .more (.more (plain_cg e h) hr) hr'
theorem sum_sk {T : Str} {d p : Nat} {r : Res Tr} (h : Sum T d p r) : Sum T d (sk T p) r := sum_cg (sk_idem T p).symm h
end Q
namespace Q
open PySem PySem.Spec PyProof.Rows L2 Pw
def ROpened (CB : Addr) (fs : Fs) (ds : List PyData) (out : OutO) : Prop := ∃ T p d, fs = tapeF T p ∧ ds = [.int (d : Nat)] ∧ d ≤ 20 ∧ out = if d = 20 then .exc (.ref CB) [("place", .int (p : Nat))] else .ret (.int (d + 1 : Nat)) (tapeF T (p + 1))
/-- what the reading defs lean on -/
structure RdT (P : Program) (w : World) (K : PySem.W.Frag) (mg : Str → Option Value) (base : Heap) (CT CB : Addr) : Prop where
  G : TapeT K mg CT CB
  sees : KnM P w K mg base CT "sees" 2 (spO K CT 0 RSees)
  refuse : KnM P w K mg base CT "refuse" 3 (spO K CT 0 (RRefuse CB))
  wants : KnM P w K mg base CT "wants" 4 (spO K CT 1 (RWants CB))
  run : KnM P w K mg base CT "run" 1 (spO K CT 1 RRun)
  opened : Kn P w K mg base "opened" 4 (spO K CT 1 (ROpened CB))
section
variable {P : Program} {w : World} {K : PySem.W.Frag} {mg : Str → Option Value} {base : Heap} {CT CB : Addr} {f : Addr} {fd : FuncData}
theorem kn_opened (F : Fun K "opened" "opened" s_opened f fd) (hm : mg "opened" = some (.ref f)) (hb : L2.Binds K fd P_opened []) (G : TapeT K mg CT CB) (GR : KnM P w K mg base CT "refuse" 3 (spO K CT 0 (RRefuse CB))) : Kn P w K mg base "opened" 4 (spO K CT 1 (ROpened CB)) := by
  refine knO_def F sc_opened hm hb rfl fun cdv A outer s H E hr c fs ds out hc hl hR => ?_
  obtain ⟨T, p, d, rfl, rfl, hd, rfl⟩ := hR
  subst hc
  obtain ⟨t, ht⟩ := G.deep
  refine dss_cons (ds_if (dt_cmp op_eq (de_var 1 rfl (de_globI ht ⟨_, od_eq rfl rfl rfl, ?_⟩)) (nomark _)))
  by_cases e : d = 20
  · subst e
    refine iteT (dss_one (ds_expr (de_meth0 0 GR hr rfl lk_no ⟨_, ⟨T, p, rfl, rfl, rfl⟩, ?_⟩)))
    show _ = _
    rw [if_pos rfl]
  · have e2 : decide (vOf (.int (d : Nat)) = vOf (.int 20)) = false := decide_eq_false fun z => e (by have := V.int.inj z; omega)
    rw [e2]
    refine iteF (dss_nil (dss_cons (ds_fld 0 G.cl G.nA (de_op op_add (de_fld 0 rfl lk_at G.cl G.nA (de_int ⟨_, od_I0, _, rfl, by show 2 < 1000; decide, ?_⟩))))))
    refine dss_one (ds_ret (de_op op_add (de_var 1 rfl (de_int ⟨_, od_I0, _, rfl, ?_⟩))))
    rw [if_neg e]
    have ep : ((p : Int) + 1) = ((p + 1 : Nat) : Int) := by omega
    rw [ep, put_at]
    have ed : ((d : Int) + 1) = ((d + 1 : Nat) : Int) := by omega
    rw [ed]
/-- products, by what plains keep -/
theorem kn_product {n k : Nat} (F : Fun K "read_product" "read_product" s_read_product f fd) (hm : mg "read_product" = some (.ref f)) (hb : L2.Binds K fd P_read_product []) (R : RdT P w K mg base CT CB) (GP : Kn P w K mg base "read_plain" k (spO K CT 1 (RPlain CB n))) (hk : 4 ≤ k) :
    Kn P w K mg base "read_product" (k + 1) (spO K CT 1 (RProd CB n)) := by
  refine knO_def F sc_read_product hm hb rfl fun cdv A outer s H E hr c fs ds out hc hl hR => ?_
  obtain ⟨T, p, d, r, hp, rfl, rfl, hd, hP, rfl⟩ := hR
  subst hc
  have key : ∀ r', Plain T d p r' → (∀ t q, r' = .ok (t, q) → ∃ rr, ProdL T d t q rr ∧ r = rr) → (∀ q, r' = .error q → r = .error q) → DSs (cxOf (L2.CX P w) P w K mg base N_read_product "read_product" (defScope s_read_product) f cdv A outer s H E) (fun cl xs => outR CB T encT r = .exc cl xs) (defBody s_read_product)
      { nx := fun ρ => ∃ fs', ρ[0]? = some (some (.obj c fs')) ∧ outR CB T encT r = .ret .none fs', rt := fun d ρ => ∃ fs', ρ[0]? = some (some (.obj c fs')) ∧ outR CB T encT r = .ret d fs' } (startO N_read_product c (tapeF T p) [.int (d : Nat)]) := by
    intro r' hr' hok herr
    refine dss_cons (ds_set 2 (de_callO 0 GP hr (da_cons (de_var 1 rfl (da_nil ⟨rfl, _, rfl, _, ⟨T, p, d, r', hp, rfl, rfl, hd, hr', rfl⟩, ?_⟩))) ⟨_, rfl⟩) sc_read_product.nd)
    cases r' with
    | error q =>
      show _ = _
      rw [herr q rfl]; rfl
    | ok x =>
      obtain ⟨t, q⟩ := x
      obtain ⟨rr, hL, rfl⟩ := hok t q rfl
      have hq : q ≤ T.length := plain_le hr'
      refine dss_cons (ds_while (fun m ρ => ∃ q t, q ≤ T.length ∧ ProdL T d t q r ∧ m = T.length - q ∧ ρ = [some (.obj c (tapeF T q)), some (.val (.int (d : Nat))), some (.val (encT t))]) _ ⟨q, t, hq, hL, rfl, rfl⟩ fun m ρ hI => ?_)
      obtain ⟨q, t, hq, hL, rfl, rfl⟩ := hI
      refine dt_cmp op_eq (de_meth0 0 R.sees (hr.mono (by omega)) rfl lk_no ⟨_, ⟨T, q, ⟨hq, hp.2⟩, rfl, rfl, rfl⟩, de_str ⟨_, od_eq rfl rfl rfl, ?_⟩⟩) (nomark _)
      have star : (V.str (sgS T (sk T q)) = V.str "*") ↔ sg T (sk T q) = some 42 := ⟨fun z => sgS_eq.mp ((V.str.inj z).trans (by decide +kernel)), fun z => congrArg V.str ((sgS_eq.mpr z).trans (by decide +kernel))⟩
      show (if decide (V.str (sgS T (sk T q)) = V.str "*") = true then _ else _)
      cases hL with
      | stop h =>
        rw [decide_eq_false fun z => h (star.mp z)]
        refine iteF (dss_one (ds_ret (de_var 2 rfl ?_)))
        exact ⟨_, rfl, rfl⟩
      | bad h hp2 =>
        rw [decide_eq_true (star.mpr h)]
        refine iteT (dss_cons (ds_expr (de_meth 0 R.wants (hr.mono (by omega)) rfl lk_no (da_cons (de_str (da_nil ⟨rfl, _, rfl, _, ⟨T, _, 42, ⟨sk_le hq, hp.2⟩, rfl, by rfl, rfl⟩, ?_⟩))))))
        rw [show sk T (sk T q) = sk T q from sk_idem T q, if_pos h]
        refine dss_one (ds_set 2 (de_tup (da_cons (de_str (da_cons (de_var 2 rfl (da_cons (de_callO 0 GP hr (da_cons (de_var 1 rfl (da_nil ⟨rfl, _, rfl, _, ⟨T, _, d, _, ⟨sg_succ h, hp.2⟩, rfl, rfl, hd, hp2, rfl⟩, ?_⟩))) ⟨_, rfl⟩) )))))) sc_read_product.nd)
        rfl
      | more h hp2 hr2 =>
        rename_i q2 u
        have hq2 : q2 ≤ T.length := plain_le hp2
        rw [decide_eq_true (star.mpr h)]
        refine iteT (dss_cons (ds_expr (de_meth 0 R.wants (hr.mono (by omega)) rfl lk_no (da_cons (de_str (da_nil ⟨rfl, _, rfl, _, ⟨T, _, 42, ⟨sk_le hq, hp.2⟩, rfl, by rfl, rfl⟩, ?_⟩))))))
        rw [show sk T (sk T q) = sk T q from sk_idem T q, if_pos h]
        refine dss_one (ds_set 2 (de_tup (da_cons (de_str (da_cons (de_var 2 rfl (da_cons (de_callO 0 GP hr (da_cons (de_var 1 rfl (da_nil ⟨rfl, _, rfl, _, ⟨T, _, d, _, ⟨sg_succ h, hp.2⟩, rfl, rfl, hd, hp2, rfl⟩, (da_nil ⟨by show 3 ≤ sizeLine; decide, ?_⟩)⟩))) ⟨_, rfl⟩) )))))) sc_read_product.nd)
        have lt : q < q2 := Nat.lt_of_le_of_lt (Nat.le_succ_of_le (le_sk T q)) (plain_lt hp2)
        exact ⟨T.length - q2, by omega, q2, _, hq2, hr2, rfl, rfl⟩
  cases hP with
  | bad h => exact key _ h (fun t q e => nomatch e) (fun q e => e)
  | more h hr2 => exact key _ h (fun t q e => by cases e; exact ⟨_, hr2, rfl⟩) (fun q e => nomatch e)
end
end Q
namespace Q
open PySem PySem.Spec PyProof.Rows L2 Pw
theorem inV_str2 {z a b : Str} : inV (V.str z) [V.str a, V.str b] = (decide (z = a) || decide (z = b)) := by
  show (eqV (V.str a) (V.str z) || (eqV (V.str b) (V.str z) || false)) = _
  have e : ∀ a : Str, eqV (V.str a) (V.str z) = decide (z = a) := fun a => by
    show decide (a = z) = decide (z = a)
    exact decide_eq_decide.mpr ⟨Eq.symm, Eq.symm⟩
  rw [e, e, Bool.or_false]
section
variable {P : Program} {w : World} {K : PySem.W.Frag} {mg : Str → Option Value} {base : Heap} {CT CB : Addr} {f : Addr} {fd : FuncData}
theorem kn_sum {n k : Nat} (F : Fun K "read_sum" "read_sum" s_read_sum f fd) (hm : mg "read_sum" = some (.ref f)) (hb : L2.Binds K fd P_read_sum []) (R : RdT P w K mg base CT CB) (GP : Kn P w K mg base "read_product" k (spO K CT 1 (RProd CB n))) (hk : 4 ≤ k) :
    Kn P w K mg base "read_sum" (k + 1) (spO K CT 1 (RSum CB n)) := by
  refine knO_def F sc_read_sum hm hb rfl fun cdv A outer s H E hr c fs ds out hc hl hR => ?_
  obtain ⟨T, p, d, r, hp, rfl, rfl, hd, hP, rfl⟩ := hR
  subst hc
  have key : ∀ r', Prod T d p r' → (∀ t q, r' = .ok (t, q) → ∃ rr, SumL T d t q rr ∧ r = rr) → (∀ q, r' = .error q → r = .error q) → DSs (cxOf (L2.CX P w) P w K mg base N_read_sum "read_sum" (defScope s_read_sum) f cdv A outer s H E) (fun cl xs => outR CB T encT r = .exc cl xs) (defBody s_read_sum)
      { nx := fun ρ => ∃ fs', ρ[0]? = some (some (.obj c fs')) ∧ outR CB T encT r = .ret .none fs', rt := fun d ρ => ∃ fs', ρ[0]? = some (some (.obj c fs')) ∧ outR CB T encT r = .ret d fs' } (startO N_read_sum c (tapeF T p) [.int (d : Nat)]) := by
    intro r' hr' hok herr
    refine dss_cons (ds_set 2 (de_callO 0 GP hr (da_cons (de_var 1 rfl (da_nil ⟨rfl, _, rfl, _, ⟨T, p, d, r', hp, rfl, rfl, hd, hr', rfl⟩, ?_⟩))) ⟨_, rfl⟩) sc_read_sum.nd)
    cases r' with
    | error q =>
      show _ = _
      rw [herr q rfl]; rfl
    | ok x =>
      obtain ⟨t, q⟩ := x
      obtain ⟨rr, hL, rfl⟩ := hok t q rfl
      have hq : q ≤ T.length := prod_le hr'
      refine dss_cons (ds_while (fun m ρ => ∃ q t o, q ≤ T.length ∧ SumL T d t q r ∧ m = T.length - q ∧ ρ = [some (.obj c (tapeF T q)), some (.val (.int (d : Nat))), some (.val (encT t)), o]) _ ⟨q, t, none, hq, hL, rfl, rfl⟩ fun m ρ hI => ?_)
      obtain ⟨q, t, o, hq, hL, rfl, rfl⟩ := hI
      refine dt_cmp op_in_seq (de_meth0 0 R.sees (hr.mono (by omega)) rfl lk_no ⟨_, ⟨T, q, ⟨hq, hp.2⟩, rfl, rfl, rfl⟩, de_tup (da_cons (de_str (da_cons (de_str (da_nil ⟨by show 2 ≤ sizeLine; decide, _, od_inT rfl rfl, ?_⟩)))))⟩) (by rfl)
      have plus : (sgS T (sk T q) = "+") ↔ sg T (sk T q) = some 43 := ⟨fun z => sgS_eq.mp (z.trans (by decide +kernel)), fun z => (sgS_eq.mpr z).trans (by decide +kernel)⟩
      have minus : (sgS T (sk T q) = "-") ↔ sg T (sk T q) = some 45 := ⟨fun z => sgS_eq.mp (z.trans (by decide +kernel)), fun z => (sgS_eq.mpr z).trans (by decide +kernel)⟩
      show (if (if false = true then !inV (V.str (sgS T (sk T q))) [V.str "+", V.str "-"] else inV (V.str (sgS T (sk T q))) [V.str "+", V.str "-"]) = true then _ else _)
      rw [if_neg Bool.false_ne_true, inV_str2]
      have yes : ∀ {ch : Nat}, sg T (sk T q) = some ch → ch = 43 ∨ ch = 45 → (decide (sgS T (sk T q) = "+") || decide (sgS T (sk T q) = "-")) = true := fun {ch} h hc => by
        rcases hc with rfl | rfl
        · rw [decide_eq_true (plus.mpr h)]; rfl
        · rw [decide_eq_true (minus.mpr h), Bool.or_true]
      cases hL with
      | stop h1 h2 =>
        rw [decide_eq_false fun z => h1 (plus.mp z), decide_eq_false fun z => h2 (minus.mp z)]
        refine iteF (dss_one (ds_ret (de_var 2 rfl ?_)))
        exact ⟨_, rfl, rfl⟩
      | bad h hc hp2 =>
        rename_i q2 ch
        rw [yes h hc]
        refine iteT (dss_cons (ds_set 3 (de_meth0 0 R.sees (hr.mono (by omega)) rfl lk_no ⟨_, ⟨T, _, ⟨sk_le hq, hp.2⟩, rfl, rfl, rfl⟩, ?_⟩) sc_read_sum.nd))
        rw [show sk T (sk T q) = sk T q from sk_idem T q, show sgS T (sk T q) = ⟨#[ch]⟩ from sgS_eq.mpr h]
        refine dss_cons (ds_expr (de_meth 0 R.wants (hr.mono (by omega)) rfl lk_no (da_cons (de_var 3 rfl (da_nil ⟨rfl, _, rfl, _, ⟨T, _, ch, ⟨sk_le hq, hp.2⟩, rfl, by rfl, rfl⟩, ?_⟩)))))
        rw [show sk T (sk T q) = sk T q from sk_idem T q, if_pos h]
        refine dss_one (ds_set 2 (de_tup (da_cons (de_var 3 rfl (da_cons (de_var 2 rfl (da_cons (de_callO 0 GP hr (da_cons (de_var 1 rfl (da_nil ⟨rfl, _, rfl, _, ⟨T, _, d, _, ⟨sg_succ h, hp.2⟩, rfl, rfl, hd, hp2, rfl⟩, ?_⟩))) ⟨_, rfl⟩) )))))) sc_read_sum.nd)
        rfl
      | more h hc hp2 hr2 =>
        rename_i q2 ch u
        have hq2 : q2 ≤ T.length := prod_le hp2
        rw [yes h hc]
        refine iteT (dss_cons (ds_set 3 (de_meth0 0 R.sees (hr.mono (by omega)) rfl lk_no ⟨_, ⟨T, _, ⟨sk_le hq, hp.2⟩, rfl, rfl, rfl⟩, ?_⟩) sc_read_sum.nd))
        rw [show sk T (sk T q) = sk T q from sk_idem T q, show sgS T (sk T q) = ⟨#[ch]⟩ from sgS_eq.mpr h]
        refine dss_cons (ds_expr (de_meth 0 R.wants (hr.mono (by omega)) rfl lk_no (da_cons (de_var 3 rfl (da_nil ⟨rfl, _, rfl, _, ⟨T, _, ch, ⟨sk_le hq, hp.2⟩, rfl, by rfl, rfl⟩, ?_⟩)))))
        rw [show sk T (sk T q) = sk T q from sk_idem T q, if_pos h]
        refine dss_one (ds_set 2 (de_tup (da_cons (de_var 3 rfl (da_cons (de_var 2 rfl (da_cons (de_callO 0 GP hr (da_cons (de_var 1 rfl (da_nil ⟨rfl, _, rfl, _, ⟨T, _, d, _, ⟨sg_succ h, hp.2⟩, rfl, rfl, hd, hp2, rfl⟩, (da_nil ⟨by show 3 ≤ sizeLine; decide, ?_⟩)⟩))) ⟨_, rfl⟩) )))))) sc_read_sum.nd)
        have lt : q < q2 := Nat.lt_of_le_of_lt (Nat.le_succ_of_le (le_sk T q)) (prod_lt hp2)
        exact ⟨T.length - q2, by omega, q2, _, _, hq2, hr2, rfl, rfl⟩
  cases hP with
  | bad h => exact key _ h (fun t q e => nomatch e) (fun q e => e)
  | more h hr2 => exact key _ h (fun t q e => by cases e; exact ⟨_, hr2, rfl⟩) (fun q e => nomatch e)
/-- the parts of a call or row -/
theorem encTs_app : ∀ (ts us : List Tr), encTs (ts ++ us) = encTs ts ++ encTs us
  | [], _ => rfl
  | t :: ts, us => by show encT t :: encTs (ts ++ us) = encT t :: (encTs ts ++ encTs us); rw [encTs_app ts us]
theorem encTs_len : ∀ ts : List Tr, (encTs ts).length = ts.length
  | [] => rfl
  | t :: ts => congrArg (· + 1) (encTs_len ts)
theorem kn_parts {n k : Nat} (F : Fun K "read_parts" "read_parts" s_read_parts f fd) (hm : mg "read_parts" = some (.ref f)) (hb : L2.Binds K fd P_read_parts []) (R : RdT P w K mg base CT CB) (GP : Kn P w K mg base "read_sum" k (spO K CT 1 (RSum CB n))) (hk : 4 ≤ k) :
    Kn P w K mg base "read_parts" (k + 1) (spO K CT 2 (RParts CB n)) := by
  refine knO_def F sc_read_parts hm hb rfl fun cdv A outer s H E hr c fs ds out hc hl hR => ?_
  obtain ⟨T, p, d, l, r, hp, rfl, rfl, hd, hl44, hP, rfl⟩ := hR
  subst hc
  have tupm : mg "tuple" = none := R.G.tup
  have cmp : ∀ q, (V.str (sgS T q) = V.str ⟨#[l]⟩) ↔ sg T q = some l := fun q => ⟨fun z => sgS_eq.mp (V.str.inj z), fun z => congrArg V.str (sgS_eq.mpr z)⟩
  have comma : ∀ q, (V.str (sgS T q) = V.str ",") ↔ sg T q = some 44 := fun q => ⟨fun z => sgS_eq.mp ((V.str.inj z).trans (by decide +kernel)), fun z => congrArg V.str ((sgS_eq.mpr z).trans (by decide +kernel))⟩
  refine dss_cons (ds_own 3 (dl_lst (da_nil ⟨by show 0 ≤ sizeLine; decide, ?_⟩)) sc_read_parts.nd)
  refine dss_cons (ds_if (dt_cmp op_ne (de_meth0 0 R.sees (hr.mono (by omega)) rfl lk_no ⟨_, ⟨T, p, hp, rfl, rfl, rfl⟩, de_var 1 rfl ⟨_, od_ne rfl rfl rfl, ?_⟩⟩) (nomark _)))
  show (if (!decide (V.str (sgS T (sk T p)) = V.str ⟨#[l]⟩)) = true then _ else _)
  -- the end: the closing sign, the tuple
  cases hP with
  | nil h =>
    rw [decide_eq_true ((cmp _).mpr h)]
    refine iteF (dss_nil (dss_cons (ds_expr (de_meth 0 R.wants (hr.mono (by omega)) rfl lk_no (da_cons (de_var 1 rfl (da_nil ⟨rfl, _, rfl, _, ⟨T, _, l, ⟨sk_le hp.1, hp.2⟩, rfl, rfl, rfl⟩, ?_⟩)))))))
    rw [show sk T (sk T p) = sk T p from sk_idem T p, if_pos h]
    exact dss_one (ds_ret (de_tupleOf tupm (de_rel 3 rfl ⟨[], rfl, _, rfl, rfl⟩)))
  | bad h hp2 =>
    rw [decide_eq_false fun z => h ((cmp _).mp z)]
    refine iteT (dss_cons (ds_append 3 rfl (de_callO 0 GP (hr.mono (by omega)) (da_cons (de_var 2 rfl (da_nil ⟨rfl, _, rfl, _, ⟨T, _, d, _, ⟨sk_le hp.1, hp.2⟩, rfl, rfl, hd, sum_sk hp2, rfl⟩, ?_⟩))) ⟨_, rfl⟩)))
    rfl
  | more h hp2 hr2 =>
    rename_i q t
    rw [decide_eq_false fun z => h ((cmp _).mp z)]
    refine iteT (dss_cons (ds_append 3 rfl (de_callO 0 GP (hr.mono (by omega)) (da_cons (de_var 2 rfl (da_nil ⟨rfl, _, rfl, _, ⟨T, _, d, _, ⟨sk_le hp.1, hp.2⟩, rfl, rfl, hd, sum_sk hp2, rfl⟩, ?_⟩))) ⟨_, rfl⟩)))
    refine ⟨[], rfl, by show 0 < sizeLine; decide, ?_⟩
    have hq : q ≤ T.length := sum_le hp2
    refine dss_one (ds_while (fun m ρ => ∃ q ts, q ≤ T.length ∧ ts.length ≤ q ∧ PartsL T l d ts q r ∧ m = T.length - q ∧ ρ = [some (.obj c (tapeF T q)), some (.val (.str ⟨#[l]⟩)), some (.val (.int (d : Nat))), some (.own (encTs ts))]) _ ⟨q, [t], hq, Nat.lt_of_le_of_lt (Nat.zero_le _) (sum_lt hp2), hr2, rfl, rfl⟩ fun m ρ hI => ?_)
    obtain ⟨q, ts, hq, hts, hL, rfl, rfl⟩ := hI
    refine dt_cmp op_eq (de_meth0 0 R.sees (hr.mono (by omega)) rfl lk_no ⟨_, ⟨T, q, ⟨hq, hp.2⟩, rfl, rfl, rfl⟩, de_str ⟨_, od_eq rfl rfl rfl, ?_⟩⟩) (nomark _)
    show (if decide (V.str (sgS T (sk T q)) = V.str ",") = true then _ else _)
    cases hL with
    | stop h hl =>
      rw [decide_eq_false fun z => hl (by have := (comma _).mp z; rw [h] at this; exact Option.some.inj this)]
      refine iteF (dss_cons (ds_expr (de_meth 0 R.wants (hr.mono (by omega)) rfl lk_no (da_cons (de_var 1 rfl (da_nil ⟨rfl, _, rfl, _, ⟨T, _, l, ⟨sk_le hq, hp.2⟩, rfl, rfl, rfl⟩, ?_⟩))))))
      rw [show sk T (sk T q) = sk T q from sk_idem T q, if_pos h]
      exact dss_one (ds_ret (de_tupleOf tupm (de_rel 3 rfl ⟨_, rfl, _, rfl, rfl⟩)))
    | bad h h44 =>
      rw [decide_eq_false fun z => h44 ((comma _).mp z)]
      refine iteF (dss_cons (ds_expr (de_meth 0 R.wants (hr.mono (by omega)) rfl lk_no (da_cons (de_var 1 rfl (da_nil ⟨rfl, _, rfl, _, ⟨T, _, l, ⟨sk_le hq, hp.2⟩, rfl, rfl, rfl⟩, ?_⟩))))))
      rw [show sk T (sk T q) = sk T q from sk_idem T q, if_neg h]
      rfl
    | badS h hp2 =>
      rw [decide_eq_true ((comma _).mpr h)]
      refine iteT (dss_cons (ds_expr (de_meth 0 R.wants (hr.mono (by omega)) rfl lk_no (da_cons (de_str (da_nil ⟨rfl, _, rfl, _, ⟨T, _, 44, ⟨sk_le hq, hp.2⟩, rfl, by rfl, rfl⟩, ?_⟩))))))
      rw [show sk T (sk T q) = sk T q from sk_idem T q, if_pos h]
      refine dss_one (ds_append 3 rfl (de_callO 0 GP (hr.mono (by omega)) (da_cons (de_var 2 rfl (da_nil ⟨rfl, _, rfl, _, ⟨T, _, d, _, ⟨sg_succ h, hp.2⟩, rfl, rfl, hd, hp2, rfl⟩, ?_⟩))) ⟨_, rfl⟩))
      rfl
    | more h hp2 hr2 =>
      rename_i q2 t2
      have hq2 : q2 ≤ T.length := sum_le hp2
      have lt : q < q2 := Nat.lt_of_le_of_lt (Nat.le_succ_of_le (le_sk T q)) (sum_lt hp2)
      rw [decide_eq_true ((comma _).mpr h)]
      refine iteT (dss_cons (ds_expr (de_meth 0 R.wants (hr.mono (by omega)) rfl lk_no (da_cons (de_str (da_nil ⟨rfl, _, rfl, _, ⟨T, _, 44, ⟨sk_le hq, hp.2⟩, rfl, by rfl, rfl⟩, ?_⟩))))))
      rw [show sk T (sk T q) = sk T q from sk_idem T q, if_pos h]
      refine dss_one (ds_append 3 rfl (de_callO 0 GP (hr.mono (by omega)) (da_cons (de_var 2 rfl (da_nil ⟨rfl, _, rfl, _, ⟨T, _, d, _, ⟨sg_succ h, hp.2⟩, rfl, rfl, hd, hp2, rfl⟩, ?_⟩))) ⟨_, rfl⟩))
      refine ⟨encTs ts, rfl, by rw [encTs_len]; exact Nat.lt_of_le_of_lt (Nat.le_trans hts (Nat.le_trans hq hp.2)) (by decide), ?_⟩
      refine ⟨T.length - q2, by omega, q2, ts ++ [t2], hq2, by rw [List.length_append, List.length_singleton]; omega, hr2, rfl, ?_⟩
      rw [encTs_app]; rfl
end
end Q
namespace Q
open PySem PySem.Spec PyProof.Rows L2 Pw
theorem ne_one {c : Nat} {A B : Prop} (h : A) : if (!decide (V.str ⟨#[c]⟩ = V.str "")) = true then A else B := by
  rw [decide_eq_false fun z => emp_ne (V.str.inj z).symm]; exact h
theorem ne_emp {A B : Prop} (h : B) : if (!decide (V.str "" = V.str "")) = true then A else B := by
  rw [decide_eq_true rfl]; exact h
theorem in_yes {z : Str} {c : Nat} {A B : Prop} (h : inS z c = true) (k : A) : if (if false = true then !decide (c ∈ z.cps.toList) else decide (c ∈ z.cps.toList)) = true then A else B := by
  have h' : decide (c ∈ z.cps.toList) = true := h
  rw [if_neg Bool.false_ne_true, if_pos h']; exact k
theorem in_no {z : Str} {c : Nat} {A B : Prop} (h : inS z c = false) (k : B) : if (if false = true then !decide (c ∈ z.cps.toList) else decide (c ∈ z.cps.toList)) = true then A else B := by
  rw [if_neg Bool.false_ne_true, if_neg (by rw [show decide (c ∈ z.cps.toList) = false from h]; exact Bool.false_ne_true)]; exact k
theorem eqs_yes {x y : Str} {A B : Prop} (h : x = y) (k : A) : if decide (V.str x = V.str y) = true then A else B := by
  rw [decide_eq_true (congrArg V.str h)]; exact k
theorem eqs_no {x y : Str} {A B : Prop} (h : ¬ x = y) (k : B) : if decide (V.str x = V.str y) = true then A else B := by
  rw [decide_eq_false fun z => h (V.str.inj z)]; exact k
theorem nes_yes {x y : Str} {A B : Prop} (h : ¬ x = y) (k : A) : if (!decide (V.str x = V.str y)) = true then A else B := by
  rw [decide_eq_false fun z => h (V.str.inj z)]; exact k
theorem nes_no {x y : Str} {A B : Prop} (h : x = y) (k : B) : if (!decide (V.str x = V.str y)) = true then A else B := by
  rw [decide_eq_true (congrArg V.str h)]; exact k
theorem let_fig {c : Nat} (h : inS "0123456789" c = true) : inS "abcdefghijklmnopqrstuvwxyz" c = false := by
  have h1 : c ∈ ("0123456789" : Str).cps.toList := of_decide_eq_true h
  have e : ("0123456789" : Str).cps.toList = [48, 49, 50, 51, 52, 53, 54, 55, 56, 57] := by decide +kernel
  rw [e] at h1
  have h2 : ∀ c ∈ [48, 49, 50, 51, 52, 53, 54, 55, 56, 57], inS "abcdefghijklmnopqrstuvwxyz" c = false := by decide +kernel
  exact h2 c h1
theorem one_eq {c d : Nat} : ((⟨#[c]⟩ : Str) = ⟨#[d]⟩) ↔ c = d := ⟨fun h => by simpa using h, fun h => by rw [h]⟩
section
variable {P : Program} {w : World} {K : PySem.W.Frag} {mg : Str → Option Value} {base : Heap} {CT CB : Addr} {f : Addr} {fd : FuncData}
theorem kn_plain {n k : Nat} (F : Fun K "read_plain" "read_plain" s_read_plain f fd) (hm : mg "read_plain" = some (.ref f)) (hb : L2.Binds K fd P_read_plain []) (R : RdT P w K mg base CT CB)
    (GS : ∀ m, n = m + 1 → Kn P w K mg base "read_sum" k (spO K CT 1 (RSum CB m))) (GP : ∀ m, n = m + 1 → Kn P w K mg base "read_parts" k (spO K CT 2 (RParts CB m))) (hk : 4 ≤ k) :
    Kn P w K mg base "read_plain" (k + 1) (spO K CT 1 (RPlain CB n)) := by
  refine knO_def F sc_read_plain hm hb rfl fun cdv A outer s H E hr c fs ds out hc hl hR => ?_
  obtain ⟨T, p, d, r, hp, rfl, rfl, hd, hP, rfl⟩ := hR
  subst hc
  have sub : d < 20 → ∃ m, n = m + 1 ∧ d + 1 + m = 20 := fun h => ⟨n - 1, by omega, by omega⟩
  obtain ⟨_, hLt⟩ := R.G.letters
  obtain ⟨_, hFg⟩ := R.G.figures
  refine dss_cons (ds_set 2 (de_meth0 0 R.sees (hr.mono (by omega)) rfl lk_no ⟨_, ⟨T, p, hp, rfl, rfl, rfl⟩, ?_⟩) sc_read_plain.nd)
  cases hP with
  | letters h hc hn =>
    rename_i c1
    rw [sgS_eq.mpr h]
    refine dss_cons (ds_if (dt_w (dw_and (dt_cmp op_ne (de_var 2 rfl (de_str ⟨_, od_ne rfl rfl rfl, ?_⟩)) (nomark _)))))
    refine ne_one ?_
    refine dw_and1 (dt_cmp op_inS (de_var 2 rfl (de_globS hLt ⟨_, od_inS, ?_⟩)) (by rfl))
    refine in_yes hc ?_
    refine dss_cons (ds_set 3 (de_meth 0 R.run (hr.mono (by omega)) rfl lk_no (da_cons (de_globS hLt (da_nil ⟨rfl, _, rfl, _, ⟨T, _, "abcdefghijklmnopqrstuvwxyz", ⟨sk_le hp.1, hp.2⟩, rfl, rfl, rfl⟩, ?_⟩)))) sc_read_plain.nd)
    refine dss_cons (ds_if (dt_cmp op_ne (de_meth0 0 R.sees (hr.mono (by omega)) rfl lk_no ⟨_, ⟨T, _, ⟨run_le _ h, hp.2⟩, rfl, rfl, rfl⟩, de_str ⟨_, od_ne rfl rfl rfl, ?_⟩⟩) (nomark _)))
    refine nes_yes (fun z => hn (sgS_eq.mp (z.trans (by decide +kernel)))) ?_
    refine dss_one (ds_ret (de_tup (da_cons (de_str (da_cons (de_var 3 rfl (da_nil ⟨by show 2 ≤ sizeLine; decide, ?_⟩)))))))
    exact ⟨_, rfl, rfl⟩
  | callDeep h hc hn =>
    rw [sgS_eq.mpr h]
    refine dss_cons (ds_if (dt_w (dw_and (dt_cmp op_ne (de_var 2 rfl (de_str ⟨_, od_ne rfl rfl rfl, ?_⟩)) (nomark _)))))
    refine ne_one ?_
    refine dw_and1 (dt_cmp op_inS (de_var 2 rfl (de_globS hLt ⟨_, od_inS, ?_⟩)) (by rfl))
    refine in_yes hc ?_
    refine dss_cons (ds_set 3 (de_meth 0 R.run (hr.mono (by omega)) rfl lk_no (da_cons (de_globS hLt (da_nil ⟨rfl, _, rfl, _, ⟨T, _, "abcdefghijklmnopqrstuvwxyz", ⟨sk_le hp.1, hp.2⟩, rfl, rfl, rfl⟩, ?_⟩)))) sc_read_plain.nd)
    refine dss_cons (ds_if (dt_cmp op_ne (de_meth0 0 R.sees (hr.mono (by omega)) rfl lk_no ⟨_, ⟨T, _, ⟨run_le _ h, hp.2⟩, rfl, rfl, rfl⟩, de_str ⟨_, od_ne rfl rfl rfl, ?_⟩⟩) (nomark _)))
    refine nes_no ((sgS_eq.mpr hn).trans (by decide +kernel)) ?_
    refine dss_nil (dss_cons (ds_set 1 (de_callO 0 R.opened (hr.mono hk) (da_cons (de_var 1 rfl (da_nil ⟨rfl, _, rfl, _, ⟨T, _, _, rfl, rfl, Nat.le_refl _, rfl⟩, ?_⟩))) ⟨_, rfl⟩) sc_read_plain.nd))
    rw [if_pos rfl]
    rfl
  | call h hc hn hd' hp2 =>
    rename_i r'
    rw [sgS_eq.mpr h]
    refine dss_cons (ds_if (dt_w (dw_and (dt_cmp op_ne (de_var 2 rfl (de_str ⟨_, od_ne rfl rfl rfl, ?_⟩)) (nomark _)))))
    refine ne_one ?_
    refine dw_and1 (dt_cmp op_inS (de_var 2 rfl (de_globS hLt ⟨_, od_inS, ?_⟩)) (by rfl))
    refine in_yes hc ?_
    refine dss_cons (ds_set 3 (de_meth 0 R.run (hr.mono (by omega)) rfl lk_no (da_cons (de_globS hLt (da_nil ⟨rfl, _, rfl, _, ⟨T, _, "abcdefghijklmnopqrstuvwxyz", ⟨sk_le hp.1, hp.2⟩, rfl, rfl, rfl⟩, ?_⟩)))) sc_read_plain.nd)
    refine dss_cons (ds_if (dt_cmp op_ne (de_meth0 0 R.sees (hr.mono (by omega)) rfl lk_no ⟨_, ⟨T, _, ⟨run_le _ h, hp.2⟩, rfl, rfl, rfl⟩, de_str ⟨_, od_ne rfl rfl rfl, ?_⟩⟩) (nomark _)))
    refine nes_no ((sgS_eq.mpr hn).trans (by decide +kernel)) ?_
    refine dss_nil (dss_cons (ds_set 1 (de_callO 0 R.opened (hr.mono hk) (da_cons (de_var 1 rfl (da_nil ⟨rfl, _, rfl, _, ⟨T, _, _, rfl, rfl, by omega, rfl⟩, ?_⟩))) ⟨_, rfl⟩) sc_read_plain.nd))
    rw [if_neg (by omega)]
    obtain ⟨m, rfl, hm'⟩ := sub hd'
    refine dss_one (ds_ret (de_tup (da_cons (de_str (da_cons (de_var 3 rfl (da_cons (de_callO 0 (GP m rfl) hr (da_cons (de_str (da_cons (de_var 1 rfl (da_nil ⟨rfl, _, rfl, _, ⟨T, _, d + 1, 41, r', ⟨sg_succ hn, hp.2⟩, rfl, by rfl, hm', by decide, hp2, rfl⟩, ?_⟩))))) ⟨_, rfl⟩))))))))
    cases r' with
    | error q => rfl
    | ok x => exact da_nil ⟨by show 3 ≤ sizeLine; decide, _, rfl, rfl⟩
  | zero h =>
    rw [sgS_eq.mpr h]
    refine dss_cons (ds_if (dt_w (dw_and (dt_cmp op_ne (de_var 2 rfl (de_str ⟨_, od_ne rfl rfl rfl, ?_⟩)) (nomark _)))))
    refine ne_one ?_
    refine dw_and1 (dt_cmp op_inS (de_var 2 rfl (de_globS hLt ⟨_, od_inS, ?_⟩)) (by rfl))
    refine in_no (let_fig (by decide +kernel)) ?_
    refine dss_nil ?_
    refine dss_cons (ds_if (dt_w (dw_and (dt_cmp op_ne (de_var 2 rfl (de_str ⟨_, od_ne rfl rfl rfl, ?_⟩)) (nomark _)))))
    refine ne_one ?_
    refine dw_and1 (dt_cmp op_inS (de_var 2 rfl (de_globS hFg ⟨_, od_inS, ?_⟩)) (by rfl))
    refine in_yes (by decide +kernel : inS "0123456789" 48 = true) ?_
    refine dss_cons (ds_if (dt_cmp op_eq (de_var 2 rfl (de_str ⟨_, od_eq rfl rfl rfl, ?_⟩)) (nomark _)))
    refine eqs_yes (by decide +kernel) ?_
    refine dss_cons (ds_fld 0 R.G.cl R.G.nA (de_op op_add (de_fld 0 rfl lk_at R.G.cl R.G.nA (de_int ⟨_, od_I0, _, rfl, by show 2 < 1000; decide, ?_⟩))))
    have ep : ((sk T p : Int) + 1) = ((sk T p + 1 : Nat) : Int) := by omega
    rw [ep, put_at]
    exact dss_one (ds_ret (de_tup (da_cons (de_str (da_cons (de_int (da_nil ⟨by show 2 ≤ sizeLine; decide, _, rfl, rfl⟩)))))))
  | figures h hc h0 hn hl' =>
    rw [sgS_eq.mpr h]
    refine dss_cons (ds_if (dt_w (dw_and (dt_cmp op_ne (de_var 2 rfl (de_str ⟨_, od_ne rfl rfl rfl, ?_⟩)) (nomark _)))))
    refine ne_one ?_
    refine dw_and1 (dt_cmp op_inS (de_var 2 rfl (de_globS hLt ⟨_, od_inS, ?_⟩)) (by rfl))
    refine in_no (let_fig hc) ?_
    refine dss_nil ?_
    refine dss_cons (ds_if (dt_w (dw_and (dt_cmp op_ne (de_var 2 rfl (de_str ⟨_, od_ne rfl rfl rfl, ?_⟩)) (nomark _)))))
    refine ne_one ?_
    refine dw_and1 (dt_cmp op_inS (de_var 2 rfl (de_globS hFg ⟨_, od_inS, ?_⟩)) (by rfl))
    refine in_yes hc ?_
    refine dss_cons (ds_if (dt_cmp op_eq (de_var 2 rfl (de_str ⟨_, od_eq rfl rfl rfl, ?_⟩)) (nomark _)))
    refine eqs_no (fun z => h0 (one_eq.mp (z.trans (by decide +kernel)))) ?_
    refine dss_nil (dss_one (ds_ret (de_tup (da_cons (de_str (da_cons (de_ct call_intSR R.G.int boot_int (da_cons (de_meth 0 R.run (hr.mono (by omega)) rfl lk_no (da_cons (de_globS hFg (da_nil ⟨rfl, _, rfl, _, ⟨T, _, "0123456789", ⟨sk_le hp.1, hp.2⟩, rfl, rfl, rfl⟩, ?_⟩))))))))))))
    exact da_nil ⟨_, cd_intS hn hl', da_nil ⟨by show 2 ≤ sizeLine; decide, _, rfl, rfl⟩⟩
  | rowDeep h =>
    rw [sgS_eq.mpr h]
    refine dss_cons (ds_if (dt_w (dw_and (dt_cmp op_ne (de_var 2 rfl (de_str ⟨_, od_ne rfl rfl rfl, ?_⟩)) (nomark _)))))
    refine ne_one ?_
    refine dw_and1 (dt_cmp op_inS (de_var 2 rfl (de_globS hLt ⟨_, od_inS, ?_⟩)) (by rfl))
    refine in_no (by decide +kernel) ?_
    refine dss_nil ?_
    refine dss_cons (ds_if (dt_w (dw_and (dt_cmp op_ne (de_var 2 rfl (de_str ⟨_, od_ne rfl rfl rfl, ?_⟩)) (nomark _)))))
    refine ne_one ?_
    refine dw_and1 (dt_cmp op_inS (de_var 2 rfl (de_globS hFg ⟨_, od_inS, ?_⟩)) (by rfl))
    refine in_no (by decide +kernel) ?_
    refine dss_nil ?_
    refine dss_cons (ds_if (dt_cmp op_eq (de_var 2 rfl (de_str ⟨_, od_eq rfl rfl rfl, ?_⟩)) (nomark _)))
    refine eqs_yes (by decide +kernel) ?_
    refine dss_cons (ds_set 1 (de_callO 0 R.opened (hr.mono hk) (da_cons (de_var 1 rfl (da_nil ⟨rfl, _, rfl, _, ⟨T, _, _, rfl, rfl, Nat.le_refl _, rfl⟩, ?_⟩))) ⟨_, rfl⟩) sc_read_plain.nd)
    rw [if_pos rfl]
    rfl
  | row h hd' hp2 =>
    rename_i r'
    rw [sgS_eq.mpr h]
    refine dss_cons (ds_if (dt_w (dw_and (dt_cmp op_ne (de_var 2 rfl (de_str ⟨_, od_ne rfl rfl rfl, ?_⟩)) (nomark _)))))
    refine ne_one ?_
    refine dw_and1 (dt_cmp op_inS (de_var 2 rfl (de_globS hLt ⟨_, od_inS, ?_⟩)) (by rfl))
    refine in_no (by decide +kernel) ?_
    refine dss_nil ?_
    refine dss_cons (ds_if (dt_w (dw_and (dt_cmp op_ne (de_var 2 rfl (de_str ⟨_, od_ne rfl rfl rfl, ?_⟩)) (nomark _)))))
    refine ne_one ?_
    refine dw_and1 (dt_cmp op_inS (de_var 2 rfl (de_globS hFg ⟨_, od_inS, ?_⟩)) (by rfl))
    refine in_no (by decide +kernel) ?_
    refine dss_nil ?_
    refine dss_cons (ds_if (dt_cmp op_eq (de_var 2 rfl (de_str ⟨_, od_eq rfl rfl rfl, ?_⟩)) (nomark _)))
    refine eqs_yes (by decide +kernel) ?_
    refine dss_cons (ds_set 1 (de_callO 0 R.opened (hr.mono hk) (da_cons (de_var 1 rfl (da_nil ⟨rfl, _, rfl, _, ⟨T, _, _, rfl, rfl, by omega, rfl⟩, ?_⟩))) ⟨_, rfl⟩) sc_read_plain.nd)
    rw [if_neg (by omega)]
    obtain ⟨m, rfl, hm'⟩ := sub hd'
    refine dss_one (ds_ret (de_tup (da_cons (de_str (da_cons (de_callO 0 (GP m rfl) hr (da_cons (de_str (da_cons (de_var 1 rfl (da_nil ⟨rfl, _, rfl, _, ⟨T, _, d + 1, 93, r', ⟨sg_succ h, hp.2⟩, rfl, by rfl, hm', by decide, hp2, rfl⟩, ?_⟩))))) ⟨_, rfl⟩))))))
    cases r' with
    | error q => rfl
    | ok x => exact da_nil ⟨by show 2 ≤ sizeLine; decide, _, rfl, rfl⟩
  | brDeep h =>
    rw [sgS_eq.mpr h]
    refine dss_cons (ds_if (dt_w (dw_and (dt_cmp op_ne (de_var 2 rfl (de_str ⟨_, od_ne rfl rfl rfl, ?_⟩)) (nomark _)))))
    refine ne_one ?_
    refine dw_and1 (dt_cmp op_inS (de_var 2 rfl (de_globS hLt ⟨_, od_inS, ?_⟩)) (by rfl))
    refine in_no (by decide +kernel) ?_
    refine dss_nil ?_
    refine dss_cons (ds_if (dt_w (dw_and (dt_cmp op_ne (de_var 2 rfl (de_str ⟨_, od_ne rfl rfl rfl, ?_⟩)) (nomark _)))))
    refine ne_one ?_
    refine dw_and1 (dt_cmp op_inS (de_var 2 rfl (de_globS hFg ⟨_, od_inS, ?_⟩)) (by rfl))
    refine in_no (by decide +kernel) ?_
    refine dss_nil ?_
    refine dss_cons (ds_if (dt_cmp op_eq (de_var 2 rfl (de_str ⟨_, od_eq rfl rfl rfl, ?_⟩)) (nomark _)))
    refine eqs_no (by decide +kernel) (dss_nil ?_)
    refine dss_cons (ds_if (dt_cmp op_ne (de_var 2 rfl (de_str ⟨_, od_ne rfl rfl rfl, ?_⟩)) (nomark _)))
    refine nes_no (by decide +kernel) (dss_nil ?_)
    refine dss_cons (ds_set 1 (de_callO 0 R.opened (hr.mono hk) (da_cons (de_var 1 rfl (da_nil ⟨rfl, _, rfl, _, ⟨T, _, _, rfl, rfl, Nat.le_refl _, rfl⟩, ?_⟩))) ⟨_, rfl⟩) sc_read_plain.nd)
    rw [if_pos rfl]
    rfl
  | brBad h hd' hp2 =>
    rw [sgS_eq.mpr h]
    refine dss_cons (ds_if (dt_w (dw_and (dt_cmp op_ne (de_var 2 rfl (de_str ⟨_, od_ne rfl rfl rfl, ?_⟩)) (nomark _)))))
    refine ne_one ?_
    refine dw_and1 (dt_cmp op_inS (de_var 2 rfl (de_globS hLt ⟨_, od_inS, ?_⟩)) (by rfl))
    refine in_no (by decide +kernel) ?_
    refine dss_nil ?_
    refine dss_cons (ds_if (dt_w (dw_and (dt_cmp op_ne (de_var 2 rfl (de_str ⟨_, od_ne rfl rfl rfl, ?_⟩)) (nomark _)))))
    refine ne_one ?_
    refine dw_and1 (dt_cmp op_inS (de_var 2 rfl (de_globS hFg ⟨_, od_inS, ?_⟩)) (by rfl))
    refine in_no (by decide +kernel) ?_
    refine dss_nil ?_
    refine dss_cons (ds_if (dt_cmp op_eq (de_var 2 rfl (de_str ⟨_, od_eq rfl rfl rfl, ?_⟩)) (nomark _)))
    refine eqs_no (by decide +kernel) (dss_nil ?_)
    refine dss_cons (ds_if (dt_cmp op_ne (de_var 2 rfl (de_str ⟨_, od_ne rfl rfl rfl, ?_⟩)) (nomark _)))
    refine nes_no (by decide +kernel) (dss_nil ?_)
    refine dss_cons (ds_set 1 (de_callO 0 R.opened (hr.mono hk) (da_cons (de_var 1 rfl (da_nil ⟨rfl, _, rfl, _, ⟨T, _, _, rfl, rfl, by omega, rfl⟩, ?_⟩))) ⟨_, rfl⟩) sc_read_plain.nd)
    rw [if_neg (by omega)]
    obtain ⟨m, rfl, hm'⟩ := sub hd'
    refine dss_cons (ds_set 4 (de_callO 0 (GS m rfl) hr (da_cons (de_var 1 rfl (da_nil ⟨rfl, _, rfl, _, ⟨T, _, d + 1, _, ⟨sg_succ h, hp.2⟩, rfl, by rfl, hm', hp2, rfl⟩, ?_⟩))) ⟨_, rfl⟩) sc_read_plain.nd)
    rfl
  | brOpen h hd' hp2 hq2 =>
    rw [sgS_eq.mpr h]
    refine dss_cons (ds_if (dt_w (dw_and (dt_cmp op_ne (de_var 2 rfl (de_str ⟨_, od_ne rfl rfl rfl, ?_⟩)) (nomark _)))))
    refine ne_one ?_
    refine dw_and1 (dt_cmp op_inS (de_var 2 rfl (de_globS hLt ⟨_, od_inS, ?_⟩)) (by rfl))
    refine in_no (by decide +kernel) ?_
    refine dss_nil ?_
    refine dss_cons (ds_if (dt_w (dw_and (dt_cmp op_ne (de_var 2 rfl (de_str ⟨_, od_ne rfl rfl rfl, ?_⟩)) (nomark _)))))
    refine ne_one ?_
    refine dw_and1 (dt_cmp op_inS (de_var 2 rfl (de_globS hFg ⟨_, od_inS, ?_⟩)) (by rfl))
    refine in_no (by decide +kernel) ?_
    refine dss_nil ?_
    refine dss_cons (ds_if (dt_cmp op_eq (de_var 2 rfl (de_str ⟨_, od_eq rfl rfl rfl, ?_⟩)) (nomark _)))
    refine eqs_no (by decide +kernel) (dss_nil ?_)
    refine dss_cons (ds_if (dt_cmp op_ne (de_var 2 rfl (de_str ⟨_, od_ne rfl rfl rfl, ?_⟩)) (nomark _)))
    refine nes_no (by decide +kernel) (dss_nil ?_)
    refine dss_cons (ds_set 1 (de_callO 0 R.opened (hr.mono hk) (da_cons (de_var 1 rfl (da_nil ⟨rfl, _, rfl, _, ⟨T, _, _, rfl, rfl, by omega, rfl⟩, ?_⟩))) ⟨_, rfl⟩) sc_read_plain.nd)
    rw [if_neg (by omega)]
    obtain ⟨m, rfl, hm'⟩ := sub hd'
    refine dss_cons (ds_set 4 (de_callO 0 (GS m rfl) hr (da_cons (de_var 1 rfl (da_nil ⟨rfl, _, rfl, _, ⟨T, _, d + 1, _, ⟨sg_succ h, hp.2⟩, rfl, by rfl, hm', hp2, rfl⟩, ?_⟩))) ⟨_, rfl⟩) sc_read_plain.nd)
    have hq : _ ≤ T.length := sum_le hp2
    refine dss_cons (ds_expr (de_meth 0 R.wants (hr.mono (by omega)) rfl lk_no (da_cons (de_str (da_nil ⟨rfl, _, rfl, _, ⟨T, _, 41, ⟨hq, hp.2⟩, rfl, by rfl, rfl⟩, ?_⟩)))))
    rw [if_neg hq2]
    rfl
  | br h hd' hp2 hq2 =>
    rw [sgS_eq.mpr h]
    refine dss_cons (ds_if (dt_w (dw_and (dt_cmp op_ne (de_var 2 rfl (de_str ⟨_, od_ne rfl rfl rfl, ?_⟩)) (nomark _)))))
    refine ne_one ?_
    refine dw_and1 (dt_cmp op_inS (de_var 2 rfl (de_globS hLt ⟨_, od_inS, ?_⟩)) (by rfl))
    refine in_no (by decide +kernel) ?_
    refine dss_nil ?_
    refine dss_cons (ds_if (dt_w (dw_and (dt_cmp op_ne (de_var 2 rfl (de_str ⟨_, od_ne rfl rfl rfl, ?_⟩)) (nomark _)))))
    refine ne_one ?_
    refine dw_and1 (dt_cmp op_inS (de_var 2 rfl (de_globS hFg ⟨_, od_inS, ?_⟩)) (by rfl))
    refine in_no (by decide +kernel) ?_
    refine dss_nil ?_
    refine dss_cons (ds_if (dt_cmp op_eq (de_var 2 rfl (de_str ⟨_, od_eq rfl rfl rfl, ?_⟩)) (nomark _)))
    refine eqs_no (by decide +kernel) (dss_nil ?_)
    refine dss_cons (ds_if (dt_cmp op_ne (de_var 2 rfl (de_str ⟨_, od_ne rfl rfl rfl, ?_⟩)) (nomark _)))
    refine nes_no (by decide +kernel) (dss_nil ?_)
    refine dss_cons (ds_set 1 (de_callO 0 R.opened (hr.mono hk) (da_cons (de_var 1 rfl (da_nil ⟨rfl, _, rfl, _, ⟨T, _, _, rfl, rfl, by omega, rfl⟩, ?_⟩))) ⟨_, rfl⟩) sc_read_plain.nd)
    rw [if_neg (by omega)]
    obtain ⟨m, rfl, hm'⟩ := sub hd'
    refine dss_cons (ds_set 4 (de_callO 0 (GS m rfl) hr (da_cons (de_var 1 rfl (da_nil ⟨rfl, _, rfl, _, ⟨T, _, d + 1, _, ⟨sg_succ h, hp.2⟩, rfl, by rfl, hm', hp2, rfl⟩, ?_⟩))) ⟨_, rfl⟩) sc_read_plain.nd)
    have hq : _ ≤ T.length := sum_le hp2
    refine dss_cons (ds_expr (de_meth 0 R.wants (hr.mono (by omega)) rfl lk_no (da_cons (de_str (da_nil ⟨rfl, _, rfl, _, ⟨T, _, 41, ⟨hq, hp.2⟩, rfl, by rfl, rfl⟩, ?_⟩)))))
    rw [if_pos hq2]
    exact dss_one (ds_ret (de_var 4 rfl ⟨_, rfl, rfl⟩))
  | none h =>
    cases e : sg T (sk T p) with
    | none =>
      have es : sgS T (sk T p) = "" := by unfold sgS; rw [e]
      rw [es]
      refine dss_cons (ds_if (dt_w (dw_and (dt_cmp op_ne (de_var 2 rfl (de_str ⟨_, od_ne rfl rfl rfl, ?_⟩)) (nomark _)))))
      refine ne_emp (dss_nil ?_)
      refine dss_cons (ds_if (dt_w (dw_and (dt_cmp op_ne (de_var 2 rfl (de_str ⟨_, od_ne rfl rfl rfl, ?_⟩)) (nomark _)))))
      refine ne_emp (dss_nil ?_)
      refine dss_cons (ds_if (dt_cmp op_eq (de_var 2 rfl (de_str ⟨_, od_eq rfl rfl rfl, ?_⟩)) (nomark _)))
      refine eqs_no (by decide +kernel) (dss_nil ?_)
      refine dss_cons (ds_if (dt_cmp op_ne (de_var 2 rfl (de_str ⟨_, od_ne rfl rfl rfl, ?_⟩)) (nomark _)))
      refine nes_yes (by decide +kernel) ?_
      refine dss_one (ds_expr (de_meth0 0 R.refuse (hr.mono (by omega)) rfl lk_no ⟨_, ⟨T, _, rfl, rfl, rfl⟩, ?_⟩))
      rfl
    | some c1 =>
      rw [sgS_eq.mpr e]
      refine dss_cons (ds_if (dt_w (dw_and (dt_cmp op_ne (de_var 2 rfl (de_str ⟨_, od_ne rfl rfl rfl, ?_⟩)) (nomark _)))))
      refine ne_one ?_
      refine dw_and1 (dt_cmp op_inS (de_var 2 rfl (de_globS hLt ⟨_, od_inS, ?_⟩)) (by rfl))
      refine in_no (h _ e).1 ?_
      refine dss_nil ?_
      refine dss_cons (ds_if (dt_w (dw_and (dt_cmp op_ne (de_var 2 rfl (de_str ⟨_, od_ne rfl rfl rfl, ?_⟩)) (nomark _)))))
      refine ne_one ?_
      refine dw_and1 (dt_cmp op_inS (de_var 2 rfl (de_globS hFg ⟨_, od_inS, ?_⟩)) (by rfl))
      refine in_no (h _ e).2.1 ?_
      refine dss_nil ?_
      refine dss_cons (ds_if (dt_cmp op_eq (de_var 2 rfl (de_str ⟨_, od_eq rfl rfl rfl, ?_⟩)) (nomark _)))
      refine eqs_no (fun z => (h _ e).2.2.1 (one_eq.mp (z.trans (by decide +kernel)))) (dss_nil ?_)
      refine dss_cons (ds_if (dt_cmp op_ne (de_var 2 rfl (de_str ⟨_, od_ne rfl rfl rfl, ?_⟩)) (nomark _)))
      refine nes_yes (fun z => (h _ e).2.2.2 (one_eq.mp (z.trans (by decide +kernel)))) ?_
      refine dss_one (ds_expr (de_meth0 0 R.refuse (hr.mono (by omega)) rfl lk_no ⟨_, ⟨T, _, rfl, rfl, rfl⟩, ?_⟩))
      rfl
end
end Q
namespace Q
open PySem PySem.Spec PyProof.Rows L2 Pw
def endR (CB : Addr) (T : Str) : Res Tr → Out
  | .ok (t, q) => if sg T (sk T q) = none then .ret (encT t) else .exc (.ref CB) [("place", .int (sk T q : Nat))]
  | .error q => .exc (.ref CB) [("place", .int (q : Nat))]
def RRead (CB : Addr) (ds : List PyData) (out : Out) : Prop := ∃ T r, T.length ≤ 100000 ∧ ds = [.str T] ∧ Sum T 0 0 r ∧ out = endR CB T r
section
variable {P : Program} {w : World} {K : PySem.W.Frag} {mg : Str → Option Value} {base : Heap} {CT CB : Addr} {f : Addr} {fd : FuncData}
theorem kn_read (F : Fun K "read" "read" s_read f fd) (hm : mg "read" = some (.ref f)) (hb : L2.Binds K fd P_read []) (R : RdT P w K mg base CT CB) (GT : KnC P w K mg base "Tape" CT 1 (spO K CT 1 RTInit)) {k : Nat} (GS : Kn P w K mg base "read_sum" k (spO K CT 1 (RSum CB 20))) (hk : 4 ≤ k) :
    Kn P w K mg base "read" (k + 1) (spP K 1 (RRead CB)) := by
  refine kn_def F sc_read hm hb rfl fun cdv A outer s H E hr ds out hl hR => ?_
  obtain ⟨T, r, hT, rfl, hS, rfl⟩ := hR
  refine dss_cons (ds_make 1 GT (hr.mono (by omega)) (da_cons (de_var 0 rfl (da_nil ⟨rfl, _, ⟨T, rfl, rfl, rfl⟩, ?_⟩))) sc_read.nd)
  refine ⟨rfl, fun aa dx => ?_⟩
  refine dss_cons (ds_set 2 (de_callO (c := ⟨aa, dx, CT⟩) 1 GS hr (da_cons (de_int (da_nil ⟨rfl, _, rfl, _, ⟨T, 0, 0, r, ⟨Nat.zero_le _, hT⟩, rfl, rfl, rfl, hS, rfl⟩, ?_⟩))) ⟨_, rfl⟩) sc_read.nd)
  cases r with
  | error q => rfl
  | ok x =>
    obtain ⟨t, q⟩ := x
    have hq : q ≤ T.length := sum_le hS
    refine dss_cons (ds_if (dt_cmp op_ne (de_meth0 (c := ⟨aa, dx, CT⟩) 1 R.sees (hr.mono (by omega)) rfl lk_no ⟨_, ⟨T, q, ⟨hq, hT⟩, rfl, rfl, rfl⟩, de_str ⟨_, od_ne rfl rfl rfl, ?_⟩⟩) (nomark _)))
    cases e : sg T (sk T q) with
    | none =>
      refine nes_no (by unfold sgS; rw [e]) (dss_nil (dss_one (ds_ret (de_var 2 rfl ?_))))
      exact if_pos e
    | some c =>
      refine nes_yes (by unfold sgS; rw [e]; exact fun z => emp_ne z.symm) (dss_one (ds_expr (de_meth0 (c := ⟨aa, dx, CT⟩) 1 R.refuse (hr.mono (by omega)) rfl lk_no ⟨_, ⟨T, _, rfl, rfl, rfl⟩, ?_⟩)))
      exact if_neg (by rw [e]; exact fun z => nomatch z)
/-- the reading of everything, by how many more brackets may be opened -/
theorem kn_all {f1 f2 f3 f4 : Addr} {d1 d2 d3 d4 : FuncData} (F1 : Fun K "read_plain" "read_plain" s_read_plain f1 d1) (m1 : mg "read_plain" = some (.ref f1)) (b1 : L2.Binds K d1 P_read_plain [])
    (F2 : Fun K "read_product" "read_product" s_read_product f2 d2) (m2 : mg "read_product" = some (.ref f2)) (b2 : L2.Binds K d2 P_read_product [])
    (F3 : Fun K "read_sum" "read_sum" s_read_sum f3 d3) (m3 : mg "read_sum" = some (.ref f3)) (b3 : L2.Binds K d3 P_read_sum [])
    (F4 : Fun K "read_parts" "read_parts" s_read_parts f4 d4) (m4 : mg "read_parts" = some (.ref f4)) (b4 : L2.Binds K d4 P_read_parts []) (R : RdT P w K mg base CT CB) :
    ∀ n, Kn P w K mg base "read_sum" (4 * n + 7) (spO K CT 1 (RSum CB n)) ∧ Kn P w K mg base "read_parts" (4 * n + 8) (spO K CT 2 (RParts CB n)) := by
  have step : ∀ n, Kn P w K mg base "read_plain" (4 * n + 5) (spO K CT 1 (RPlain CB n)) → Kn P w K mg base "read_sum" (4 * n + 7) (spO K CT 1 (RSum CB n)) ∧ Kn P w K mg base "read_parts" (4 * n + 8) (spO K CT 2 (RParts CB n)) := fun n h => by
    have h2 := kn_product F2 m2 b2 R h (by omega)
    have h3 := kn_sum F3 m3 b3 R h2 (by omega)
    exact ⟨h3, kn_parts F4 m4 b4 R h3 (by omega)⟩
  intro n
  induction n with
  | zero => exact step 0 (kn_plain F1 m1 b1 R (fun m e => by omega) (fun m e => by omega) (k := 4) (by omega))
  | succ n ih =>
    refine step (n + 1) (kn_plain (k := 4 * n + 8) F1 m1 b1 R (fun m e => ?_) (fun m e => ?_) (by omega))
    · obtain rfl : n = m := by omega
      exact ih.1.mono (by omega)
    · obtain rfl : n = m := by omega
      exact ih.2
end
end Q
namespace Q
open PySem PySem.Spec PyProof.Rows L2 Pw
section
variable {P : Program} {w : World} {K : PySem.W.Frag} {mg : Str → Option Value} {base : Heap} {f : Addr} {fd : FuncData}
theorem kn_cell (F : Fun K "_law_cell" "_law_cell" s_cell f fd) (hm : mg "_law_cell" = some (.ref f)) (hb : L2.Binds K fd P_cell []) (ml : mg "len" = none) : Kn P w K mg base "_law_cell" 1 (spP K 2 RCell) := by
  refine kn_def F sc_cell hm hb rfl fun cdv A outer s H E hr ds out hl hR => ?_
  obtain ⟨ns, k, rfl, rfl⟩ := hR
  refine dss_cons (ds_if (dt_tru (de_var 0 rfl ⟨short_scr, ?_⟩)))
  by_cases c : ns = []
  · subst c
    exact iteF (dss_nil (dss_one (ds_ret (de_int rfl))))
  · have ht : truD (scrD ns) = true := by cases ns <;> first | rfl | exact absurd rfl c
    rw [ht]
    have hp : 0 < ns.length := List.length_pos_iff.mpr c
    refine iteT (dss_one (ds_ret (de_ix (dp_scr (de_var 0 rfl ⟨ns, rfl, ?_⟩)))))
    refine de_op op_mod (de_var 1 rfl (de_cb call_lenR ml boot_len (da_cons (de_var 0 rfl (da_nil ⟨.int (ns.length : Int), cd_len lenD_scr, ⟨_, od_I (by show (0 : Int) < _; omega), _, _, rfl, at_mod .int ns 0 k _ rfl (by omega), ?_⟩⟩)))))
    unfold cellI
    rw [if_neg c]
theorem kn_mix (F : Fun K "_law_mix" "_law_mix" s_mix f fd) (hm : mg "_law_mix" = some (.ref f)) (hb : L2.Binds K fd P_mix []) (GC : Kn P w K mg base "_law_cell" 1 (spP K 2 RCell)) : Kn P w K mg base "_law_mix" 2 (spP K 2 RMix) := by
  refine kn_def F sc_mix hm hb rfl fun cdv A outer s H E hr ds out hl hR => ?_
  obtain ⟨ns, k, rfl, rfl⟩ := hR
  refine dss_cons (ds_set 2 (de_op op_mod (de_op op_add (de_call GC hr (da_cons (de_var 0 rfl (da_cons (de_var 1 rfl (da_nil ⟨rfl, _, ⟨ns, k, rfl, rfl⟩, ?_⟩)))))))) sc_mix.nd)
  refine de_op op_mul (de_int (de_op op_add (de_var 1 rfl (de_int ⟨_, od_I0, ⟨_, od_I (.inl (by decide)), ⟨_, od_I0, (de_int ⟨_, od_I (by decide), ?_⟩)⟩⟩⟩))))
  refine dss_cons (ds_set 2 (de_op op_mod (de_op op_mul (de_var 2 rfl (de_int ⟨_, od_I (.inr (by decide)), de_int ⟨_, od_I (by decide), ?_⟩⟩)))) sc_mix.nd)
  refine dss_one (ds_ret (de_op op_mod (de_op op_add (de_op op_mul (de_op op_fdiv (de_var 2 rfl (de_int ⟨_, od_I ⟨by decide, by decide⟩, (de_int ⟨_, od_I (.inr (by decide)), de_var 2 rfl ⟨_, od_I0, de_int ⟨_, od_I (by decide), ?_⟩⟩⟩)⟩)))))))
  rfl
end
end Q
namespace Q
open PySem PySem.Spec PyProof.Rows L2 Pw
theorem encTs_map : ∀ ts : List Tr, encTs ts = ts.map encT
  | [] => rfl
  | t :: ts => congrArg (encT t :: ·) (encTs_map ts)
def leafT (n : Int) : Tr := if n / 8 % 2 = 0 then .name ((["a", "b", "xyz", "f", "abcdefghijklm"] : List Str).getD (n / 16 % 5).toNat "") else .num ([0, 7, n / 40 % 100000000000].getD (n / 16 % 3).toNat 0)
def treeT (ns : List Int) : Nat → Int → Tr
  | 0, k => leafT (mixI ns k)
  | d + 1, k =>
    if mixI ns k % 8 = 0 then leafT (mixI ns k)
    else if mixI ns k % 8 < 4 then
      let ps := (List.range (mixI ns k / 8 % 4).toNat).map fun j => treeT ns d (4 * k + 1 + (j : Nat))
      if mixI ns k % 8 < 3 then .call ((["f", "gg", "print"] : List Str).getD (mixI ns k / 64 % 3).toNat "") ps else .row ps
    else .bin ((["+", "-", "*", "*"] : List Str).getD (mixI ns k % 8 - 4).toNat "") (treeT ns d (4 * k + 1)) (treeT ns d (4 * k + 2))
def RTree (d : Nat) (ds : List PyData) (out : Out) : Prop := ∃ ns k, ds = [scrD ns, .int k, .int (d : Nat), .int 3] ∧ out = .ret (encT (treeT ns d k))
theorem treeT_leaf {ns : List Int} {d : Nat} {k : Int} (h : d = 0 ∨ mixI ns k % 8 = 0) : treeT ns d k = leafT (mixI ns k) := by
  cases d with
  | zero => unfold treeT; rfl
  | succ d => rcases h with h | h
              · omega
              · unfold treeT; rw [if_pos h]
theorem dec_iff {p : Prop} [Decidable p] {A B : Prop} (hy : p → A) (hn : ¬ p → B) : if decide p = true then A else B := by
  by_cases h : p
  · rw [decide_eq_true h]; exact hy h
  · rw [decide_eq_false h]; exact hn h
theorem eqi {x y : Int} {A B : Prop} (hy : x = y → A) (hn : x ≠ y → B) : if decide (V.int x = V.int y) = true then A else B := by
  by_cases h : x = y
  · rw [decide_eq_true (congrArg V.int h)]; exact hy h
  · rw [decide_eq_false fun z => h (V.int.inj z)]; exact hn h
section
variable {P : Program} {w : World} {K : PySem.W.Frag} {mg : Str → Option Value} {base : Heap} {f : Addr} {fd : FuncData}
theorem kn_tree1 (F : Fun K "_law_tree" "_law_tree" s_tree f fd) (hm : mg "_law_tree" = some (.ref f)) (hb : L2.Binds K fd P_tree []) (mR : mg "range" = none) (mT : mg "tuple" = none) (GM : Kn P w K mg base "_law_mix" 2 (spP K 2 RMix)) {d k : Nat} (h2 : 2 ≤ k)
    (ih : ∀ m, d = m + 1 → Kn P w K mg base "_law_tree" k (spP K 4 (RTree m))) : Kn P w K mg base "_law_tree" (k + 1) (spP K 4 (RTree d)) := by
  refine kn_def F sc_tree hm hb rfl fun cdv A outer s H E hr ds out hl hR => ?_
  obtain ⟨ns, k, rfl, rfl⟩ := hR
  refine dss_cons (ds_set 4 (de_call GM (hr.mono h2) <| da_cons <| de_var 0 rfl <| da_cons <| de_var 1 rfl <| da_nil ⟨rfl, _, ⟨ns, k, rfl, rfl⟩, ?_⟩) sc_tree.nd)
  refine dss_cons (ds_set 5 (de_op op_mod <| de_var 4 rfl <| de_int ⟨_, od_I (by decide), ?_⟩) sc_tree.nd)
  have leaf : treeT ns d k = leafT (mixI ns k) → ∀ D : DEnds, (∀ d' ρ, Out.ret (encT (treeT ns d k)) = .ret d' → D.rt d' ρ) → DSs (cxOf (L2.CX P w) P w K mg base N_tree "_law_tree" (defScope s_tree) f cdv A outer s H E) (fun c xs => Out.ret (encT (treeT ns d k)) = .exc c xs) (match (defBody s_tree).getD 2 (.Pass ⟨0, 0, 0, 0⟩) with | .If _ b _ _ => b | _ => [])
      D [some (.val (scrD ns)), some (.val (.int k)), some (.val (.int (d : Nat))), some (.val (.int 3)), some (.val (.int (mixI ns k))), some (.val (.int (mixI ns k % 8))), none, none, none, none, none] := fun e D hD => by
    rw [e] at hD ⊢
    generalize mixI ns k = n at hD ⊢
    refine dss_cons (ds_own 6 (dl_lst <| da_cons <| de_str <| da_cons <| de_str <| da_cons <| de_str <| da_cons <| de_str <| da_cons <| de_str <| da_nil ⟨by show 5 ≤ sizeLine; decide, ?_⟩) sc_tree.nd)
    refine dss_cons (ds_own 7 (dl_lst <| da_cons <| de_tup <| da_cons <| de_str <| da_cons <| de_int <| da_nil ⟨by show 2 ≤ sizeLine; decide, ?_⟩) sc_tree.nd)
    refine da_cons <| de_tup <| da_cons <| de_str <| da_cons <| de_int <| da_nil ⟨by show 2 ≤ sizeLine; decide, ?_⟩
    refine da_cons <| de_tup <| da_cons <| de_str <| da_cons <| de_op op_mod <| de_op op_fdiv <| de_var 4 rfl <| de_int ⟨_, od_I ⟨by decide, by decide⟩, de_int ⟨_, od_I (by decide), da_nil ⟨by show 2 ≤ sizeLine; decide, ?_⟩⟩⟩
    refine da_nil ⟨by show 3 ≤ sizeLine; decide, ?_⟩
    refine dss_one (ds_ret <| de_if <| dt_cmp op_eq (de_op op_mod <| de_op op_fdiv <| de_var 4 rfl <| de_int ⟨_, od_I ⟨by decide, by decide⟩, de_int ⟨_, od_I (by decide), de_int ⟨_, od_eq rfl rfl rfl, ?_⟩⟩⟩) (nomark _))
    refine eqi (fun c => ?_) fun c => ?_
    · refine de_tup <| da_cons <| de_str <| da_cons <| de_ixO 6 rfl (de_op op_mod <| de_op op_fdiv <| de_var 4 rfl <| de_int ⟨_, od_I ⟨by decide, by decide⟩, de_int ⟨_, od_I (by decide), rfl, _, _, rfl, at_mod PyData.str ["a", "b", "xyz", "f", "abcdefghijklm"] "" _ 5 rfl (by decide), da_nil ⟨by show 2 ≤ sizeLine; decide, ?_⟩⟩⟩)
      refine hD _ _ ?_
      unfold leafT
      rw [if_pos c]; rfl
    · refine de_ixO 7 rfl (de_op op_mod <| de_op op_fdiv <| de_var 4 rfl <| de_int ⟨_, od_I ⟨by decide, by decide⟩, de_int ⟨_, od_I (by decide), rfl, _, _, rfl, at_mod (fun i => encT (.num i)) [0, 7, n / 40 % 100000000000] 0 _ 3 rfl (by decide), ?_⟩⟩)
      refine hD _ _ ?_
      unfold leafT
      rw [if_neg c]
  refine dss_cons (ds_if <| dt_w <| dw_or <| dt_cmp op_eq (de_var 2 rfl <| de_int ⟨_, od_eq rfl rfl rfl, ?_⟩) (nomark _))
  refine eqi (fun c => ?_) fun c => ?_
  · exact leaf (treeT_leaf (.inl (by omega))) _ fun _ _ z => z
  refine dw_or1 <| dt_cmp op_eq (de_var 5 rfl <| de_int ⟨_, od_eq rfl rfl rfl, ?_⟩) (nomark _)
  refine eqi (fun c2 => ?_) fun c2 => ?_
  · exact leaf (treeT_leaf (.inr c2)) _ fun _ _ z => z
  obtain ⟨m, rfl⟩ : ∃ m, d = m + 1 := ⟨d - 1, by omega⟩
  have ih := ih m rfl
  have e1 : (((m + 1 : Nat) : Int) - 1) = ((m : Nat) : Int) := by omega
  refine dss_nil <| dss_cons (ds_if <| dt_cmp op_lt (de_var 5 rfl <| de_int ⟨_, od_B0, ?_⟩) (nomark _))
  refine dec_iff (fun c3 => ?_) fun c3 => ?_
  · refine dss_cons (ds_lc 9 8 (di_range mR <| de_op op_mod <| de_op op_fdiv <| de_var 4 rfl <| de_int ⟨_, od_I ⟨by decide, by decide⟩, de_op op_add <| de_var 3 rfl <| de_int ⟨_, od_I0, _, od_I (by decide), _, rfl, ?_⟩⟩) sc_tree.nd (ok := blkOk_by (show blkC N_tree (defScope s_tree) _ _ = true by decide +kernel)) (hg := fun _ _ _ _ _ => pg_name sc_tree.nd rfl (Or.inl rfl)))
    generalize hN : mixI ns k / 8 % (3 + 1) = N
    have hN0 : 0 ≤ N := by rw [← hN]; exact Int.emod_nonneg _ (by decide)
    have hN4 : N < 4 := by rw [← hN]; exact Int.emod_lt_of_pos _ (by decide)
    refine ⟨by omega, by omega, rfl, (List.range N.toNat).map fun j => encT (treeT ns m (4 * k + 1 + (j : Nat))), ?_, ?_, ?_, ?_⟩
    · unfold rangeD; rw [List.length_map, List.length_map]
    · rw [List.length_map, List.length_range]; exact Nat.le_trans (show N.toNat ≤ 4 by omega) (by decide)
    · intro s H0 C cl fp j dd r hd hr'
      unfold rangeD at hd
      rw [List.getElem?_map] at hd hr'
      have hj : (List.range N.toNat)[j]? = some j := by
        cases e : (List.range N.toNat)[j]? with
        | none => rw [e] at hd; cases hd
        | some x => obtain ⟨h1, h2⟩ := List.getElem?_eq_some_iff.mp e; rw [List.getElem_range] at h2; rw [h2]
      rw [hj] at hd hr'
      cases hd; cases hr'
      refine de_call ih hr <| da_cons <| de_var 0 rfl <| da_cons <| de_op op_add <| de_op op_add <| de_op op_mul <| de_int <| de_var 1 rfl ⟨_, od_I (.inl (by decide)), de_int ⟨_, od_I0, de_var 9 rfl ⟨_, od_I0, da_cons <| de_op op_sub <| de_var 2 rfl <| de_int ⟨_, od_I0, da_cons <| de_var 3 rfl <| da_nil ⟨rfl, _, ⟨ns, _, by rw [e1], rfl⟩, ?_⟩⟩⟩⟩⟩
      refine ⟨?_, rfl⟩
      rw [Int.zero_add]
    · refine dss_one (ds_ret <| de_if <| dt_cmp op_lt (de_var 5 rfl <| de_int ⟨_, od_B0, ?_⟩) (nomark _))
      have e2 : encTs ((List.range N.toNat).map fun j => treeT ns m (4 * k + 1 + (j : Nat))) = (List.range N.toNat).map fun j => encT (treeT ns m (4 * k + 1 + (j : Nat))) := by
        rw [encTs_map, List.map_map]; rfl
      have e3 : treeT ns (m + 1) k = if mixI ns k % 8 < 3 then .call ((["f", "gg", "print"] : List Str).getD (mixI ns k / 64 % 3).toNat "") ((List.range N.toNat).map fun j => treeT ns m (4 * k + 1 + (j : Nat))) else .row ((List.range N.toNat).map fun j => treeT ns m (4 * k + 1 + (j : Nat))) := by
        rw [← hN]
        conv => lhs; unfold treeT
        rw [if_neg c2, if_pos c3]; rfl
      rw [e3]
      refine dec_iff (fun c4 => ?_) fun c4 => ?_
      · refine de_tup <| da_cons <| de_str <| da_cons <| de_ix <| dp_list <| de_new <| dl_lst <| da_cons <| de_str <| da_cons <| de_str <| da_cons <| de_str <| da_nil ⟨by show 3 ≤ sizeLine; decide, _, rfl, ?_⟩
        refine de_op op_mod <| de_op op_fdiv <| de_var 4 rfl <| de_int ⟨_, od_I ⟨by decide, by decide⟩, de_int ⟨_, od_I (by decide), _, _, rfl, at_mod PyData.str ["f", "gg", "print"] "" _ 3 rfl (by decide), ?_⟩⟩
        refine da_cons <| de_tupleOf mT <| de_var 8 rfl ⟨_, rfl, da_nil ⟨by show 3 ≤ sizeLine; decide, ?_⟩⟩
        rw [if_pos c4]
        show Out.ret (PyData.tuple [_, _, .tuple (encTs _)]) = _
        rw [e2]
      · refine de_tup <| da_cons <| de_str <| da_cons <| de_tupleOf mT <| de_var 8 rfl ⟨_, rfl, da_nil ⟨by show 2 ≤ sizeLine; decide, ?_⟩⟩
        rw [if_neg c4]
        show Out.ret (PyData.tuple [_, .tuple (encTs _)]) = _
        rw [e2]
  · have c5 : 0 ≤ mixI ns k % 8 - 4 := by omega
    have c6 : mixI ns k % 8 - 4 < 4 := by have := Int.emod_lt_of_pos (mixI ns k) (b := 8) (by decide); omega
    refine dss_nil <| dss_cons (ds_set 10 (de_call ih hr <| da_cons <| de_var 0 rfl <| da_cons <| de_op op_add <| de_op op_mul <| de_int <| de_var 1 rfl ⟨_, od_I (.inl (by decide)), de_int ⟨_, od_I0, da_cons <| de_op op_sub <| de_var 2 rfl <| de_int ⟨_, od_I0, da_cons <| de_var 3 rfl <| da_nil ⟨rfl, _, ⟨ns, _, by rw [e1], rfl⟩, ?_⟩⟩⟩⟩) sc_tree.nd)
    refine dss_one (ds_ret <| de_tup <| da_cons <| de_ix <| dp_list <| de_new <| dl_lst <| da_cons <| de_str <| da_cons <| de_str <| da_cons <| de_str <| da_cons <| de_str <| da_nil ⟨by show 4 ≤ sizeLine; decide, _, rfl, ?_⟩)
    refine de_op op_sub <| de_var 5 rfl <| de_int ⟨_, od_I0, _, _, rfl, at_in PyData.str ["+", "-", "*", "*"] "" _ c5 c6, ?_⟩
    refine da_cons <| de_var 10 rfl ?_
    refine da_cons <| de_call ih hr <| da_cons <| de_var 0 rfl <| da_cons <| de_op op_add <| de_op op_mul <| de_int <| de_var 1 rfl ⟨_, od_I (.inl (by decide)), de_int ⟨_, od_I0, da_cons <| de_op op_sub <| de_var 2 rfl <| de_int ⟨_, od_I0, da_cons <| de_var 3 rfl <| da_nil ⟨rfl, _, ⟨ns, _, by rw [e1], rfl⟩, da_nil ⟨by show 3 ≤ sizeLine; decide, ?_⟩⟩⟩⟩⟩
    have e3 : treeT ns (m + 1) k = .bin ((["+", "-", "*", "*"] : List Str).getD (mixI ns k % 8 - 4).toNat "") (treeT ns m (4 * k + 1)) (treeT ns m (4 * k + 2)) := by
      conv => lhs; unfold treeT
      rw [if_neg c2, if_neg c3]
    rw [e3]; rfl
theorem kn_tree (F : Fun K "_law_tree" "_law_tree" s_tree f fd) (hm : mg "_law_tree" = some (.ref f)) (hb : L2.Binds K fd P_tree []) (mR : mg "range" = none) (mT : mg "tuple" = none) (GM : Kn P w K mg base "_law_mix" 2 (spP K 2 RMix)) :
    ∀ d, Kn P w K mg base "_law_tree" (d + 3) (spP K 4 (RTree d)) := by
  intro d
  induction d with
  | zero => exact kn_tree1 F hm hb mR mT GM (Nat.le_refl 2) fun m e => by omega
  | succ d ih => exact kn_tree1 F hm hb mR mT GM (k := d + 3) (by omega) fun m e => Nat.succ.inj e ▸ ih
end
end Q
namespace Q
open PySem PySem.Spec PyProof.Rows L2 Pw
/-! ### the words of a tree -/
def wrapT (b : Bool) (l : List Str) : List Str := if b then (["("] : List Str) ++ l ++ ([")"] : List Str) else l
def kindT : Tr → Str
  | .name _ => "name"
  | .num _ => "number"
  | .call _ _ => "call"
  | .row _ => "row"
  | .bin o _ _ => o
def isIn (ks : List Str) (t : Tr) : Bool := decide (kindT t ∈ ks)
def numS (i : Int) : Str := toString i
mutual
def wordsT : Tr → List Str
  | .name s => [s]
  | .num i => [numS i]
  | .call f ps => ([f, "("] : List Str) ++ wordsL ps ++ ([")"] : List Str)
  | .row ps => (["["] : List Str) ++ wordsL ps ++ (["]"] : List Str)
  | .bin o a b => wrapT (isIn (if o = "*" then ["+", "-"] else []) a) (wordsT a) ++ [o] ++ wrapT (isIn (if o = "*" then ["+", "-", "*"] else ["+", "-"]) b) (wordsT b)
def wordsL : List Tr → List Str
  | [] => []
  | t :: ts => wordsT t ++ wordsM ts
def wordsM : List Tr → List Str
  | [] => []
  | t :: ts => ([","] : List Str) ++ wordsT t ++ wordsM ts
end
def lettersS (s : Str) : Prop := s.cps.toList ≠ [] ∧ (∀ c ∈ s.cps.toList, inS "abcdefghijklmnopqrstuvwxyz" c = true) ∧ s.length ≤ 13
inductive OkT : Nat → Tr → Prop
  | name {n : Nat} {s : Str} (h : lettersS s) : OkT n (.name s)
  | num {n : Nat} {i : Int} (h0 : 0 ≤ i) (h1 : i < 100000000000) : OkT n (.num i)
  | call {n : Nat} {f : Str} {ps : List Tr} (h : lettersS f) (hl : ps.length ≤ 3) (hp : ∀ t ∈ ps, OkT n t) : OkT (n + 1) (.call f ps)
  | row {n : Nat} {ps : List Tr} (hl : ps.length ≤ 3) (hp : ∀ t ∈ ps, OkT n t) : OkT (n + 1) (.row ps)
  | bin {n : Nat} {o : Str} {a b : Tr} (ho : o ∈ (["+", "-", "*"] : List Str)) (ha : OkT n a) (hb : OkT n b) : OkT (n + 1) (.bin o a b)
/-- how many words at most -/
def capW : Nat → Nat
  | 0 => 1
  | n + 1 => 3 * capW n + 6
theorem wrap_len (b : Bool) (l : List Str) : (wrapT b l).length ≤ l.length + 2 := by
  cases b
  · exact Nat.le_add_right _ _
  · show ((["("] : List Str) ++ l ++ ([")"] : List Str)).length ≤ _
    simp
theorem cap_pos : ∀ n, 1 ≤ capW n
  | 0 => Nat.le_refl _
  | n + 1 => by unfold capW; omega
theorem wordsM_app : ∀ (l : List Tr) (t : Tr), wordsM (l ++ [t]) = wordsM l ++ (([","] : List Str) ++ wordsT t)
  | [], t => by show wordsM [t] = _; unfold wordsM; simp [wordsM]
  | a :: l, t => by
    show wordsM (a :: (l ++ [t])) = _
    rw [wordsM, wordsM_app l t, wordsM]
    simp only [List.append_assoc]
theorem wordsL_app (l : List Tr) (t : Tr) : wordsL (l ++ [t]) = wordsL l ++ ((if l = [] then [] else ([","] : List Str)) ++ wordsT t) := by
  cases l with
  | nil => simp [wordsL, wordsM]
  | cons a l =>
    show wordsL (a :: (l ++ [t])) = _
    rw [wordsL, wordsL, wordsM_app, if_neg (fun z => nomatch z)]
    simp only [List.append_assoc]
theorem wordsM_len {n : Nat} : ∀ {ps : List Tr}, (∀ t ∈ ps, (wordsT t).length ≤ capW n) → (wordsM ps).length ≤ ps.length * (capW n + 1)
  | [], _ => by unfold wordsM; exact Nat.zero_le _
  | t :: ts, h => by
    have h1 := h t List.mem_cons_self
    have h2 := wordsM_len (ps := ts) fun u hu => h u (List.mem_cons_of_mem _ hu)
    unfold wordsM
    rw [List.length_append, List.length_append, List.length_singleton, List.length_cons, Nat.add_mul, Nat.one_mul]
    omega
theorem wordsL_len {n : Nat} {ps : List Tr} (hl : ps.length ≤ 3) (h : ∀ t ∈ ps, (wordsT t).length ≤ capW n) : (wordsL ps).length ≤ 3 * capW n + 2 := by
  cases ps with
  | nil => unfold wordsL; exact Nat.zero_le _
  | cons t ts =>
    have h1 := h t List.mem_cons_self
    have h2 := wordsM_len (n := n) (ps := ts) fun u hu => h u (List.mem_cons_of_mem _ hu)
    have h3 : ts.length ≤ 2 := by rw [List.length_cons] at hl; omega
    have h4 : ts.length * (capW n + 1) ≤ 2 * (capW n + 1) := Nat.mul_le_mul_right _ h3
    unfold wordsL
    rw [List.length_append]
    omega
theorem words_len : ∀ {n : Nat} {t : Tr}, OkT n t → (wordsT t).length ≤ capW n
  | n, _, .name _ => by unfold wordsT; exact cap_pos n
  | n, _, .num _ _ => by unfold wordsT; exact cap_pos n
  | _, _, .call (n := n) (ps := ps) _ hl hp => by
    have := wordsL_len hl fun t ht => words_len (hp t ht)
    unfold wordsT capW
    simp
    omega
  | _, _, .row (n := n) (ps := ps) hl hp => by
    have := wordsL_len hl fun t ht => words_len (hp t ht)
    unfold wordsT capW
    simp
    omega
  | _, _, .bin (n := n) (o := o) (a := a) (b := b) _ ha hb => by
    have h1 := words_len ha
    have h2 := words_len hb
    have h3 := wrap_len (isIn (if o = "*" then ["+", "-"] else []) a) (wordsT a)
    have h4 := wrap_len (isIn (if o = "*" then ["+", "-", "*"] else ["+", "-"]) b) (wordsT b)
    unfold wordsT capW
    rw [List.length_append, List.length_append, List.length_singleton]
    omega
/-! the law's trees are such -/
theorem leaf_ok (n : Nat) (x : Int) (h0 : 0 ≤ x) : OkT n (leafT x) := by
  unfold leafT
  have hlt : ∀ i, i < 5 → lettersS ((["a", "b", "xyz", "f", "abcdefghijklm"] : List Str).getD i "") := by unfold lettersS; decide +kernel
  split
  · have h1 : 0 ≤ x / 16 % 5 := Int.emod_nonneg _ (by decide)
    have h2 : x / 16 % 5 < 5 := Int.emod_lt_of_pos _ (by decide)
    exact .name (hlt _ (by omega))
  · have h1 : 0 ≤ x / 16 % 3 := Int.emod_nonneg _ (by decide)
    have h2 : x / 16 % 3 < 3 := Int.emod_lt_of_pos _ (by decide)
    have h3 : 0 ≤ x / 40 % 100000000000 := Int.emod_nonneg _ (by decide)
    have h4 : x / 40 % 100000000000 < 100000000000 := Int.emod_lt_of_pos _ (by decide)
    generalize e : (x / 16 % 3).toNat = j
    have hj : j < 3 := by omega
    rcases j with _ | _ | _ | j
    · exact .num (show (0 : Int) ≤ 0 by decide) (show (0 : Int) < 100000000000 by decide)
    · exact .num (show (0 : Int) ≤ 7 by decide) (show (7 : Int) < 100000000000 by decide)
    · exact .num h3 h4
    · omega
theorem tree_ok (ns : List Int) : ∀ (d : Nat) (k : Int), OkT d (treeT ns d k)
  | 0, k => leaf_ok 0 _ (mix_lo ns k)
  | d + 1, k => by
    unfold treeT
    split
    · exact leaf_ok _ _ (mix_lo ns k)
    · split
      · have h1 : 0 ≤ mixI ns k / 8 % 4 := Int.emod_nonneg _ (by decide)
        have h2 : mixI ns k / 8 % 4 < 4 := Int.emod_lt_of_pos _ (by decide)
        have hl : ((List.range (mixI ns k / 8 % 4).toNat).map fun j => treeT ns d (4 * k + 1 + (j : Nat))).length ≤ 3 := by rw [List.length_map, List.length_range]; omega
        have hp : ∀ t ∈ (List.range (mixI ns k / 8 % 4).toNat).map fun j => treeT ns d (4 * k + 1 + (j : Nat)), OkT d t := fun t ht => by
          obtain ⟨j, _, rfl⟩ := List.mem_map.mp ht
          exact tree_ok ns d _
        dsimp only
        split
        · have hlt : ∀ i, i < 3 → lettersS ((["f", "gg", "print"] : List Str).getD i "") := by unfold lettersS; decide +kernel
          have h3 : 0 ≤ mixI ns k / 64 % 3 := Int.emod_nonneg _ (by decide)
          have h4 : mixI ns k / 64 % 3 < 3 := Int.emod_lt_of_pos _ (by decide)
          exact .call (hlt _ (by omega)) hl hp
        · exact .row hl hp
      · have h3 : 0 ≤ mixI ns k % 8 := Int.emod_nonneg _ (by decide)
        have h4 : mixI ns k % 8 < 8 := Int.emod_lt_of_pos _ (by decide)
        have hop : ∀ i, i < 4 → ((["+", "-", "*", "*"] : List Str).getD i "") ∈ (["+", "-", "*"] : List Str) := by decide +kernel
        exact .bin (hop _ (by omega)) (tree_ok ns d _) (tree_ok ns d _)
end Q
namespace Q
open PySem PySem.Spec PyProof.Rows L2 Pw
theorem inV_strs (z : Str) : ∀ ks : List Str, inV (V.str z) ((ks.map PyData.str).map vOf) = decide (z ∈ ks)
  | [] => by rw [decide_eq_false (by simp)]; rfl
  | a :: ks => by
    show (eqV (V.str a) (V.str z) || inV (V.str z) ((ks.map PyData.str).map vOf)) = _
    rw [inV_strs z ks]
    have e : eqV (V.str a) (V.str z) = decide (z = a) := by
      show decide (a = z) = decide (z = a)
      exact decide_eq_decide.mpr ⟨Eq.symm, Eq.symm⟩
    rw [e]
    by_cases h1 : z = a
    · subst h1; simp
    · by_cases h2 : z ∈ ks <;> simp [h1, h2]
theorem flat_strs : ∀ ks : List Str, (ks.map PyData.str).all flatD = true
  | [] => rfl
  | a :: ks => by show (flatD (.str a) && (ks.map PyData.str).all flatD) = true; rw [flat_strs ks]; rfl
theorem in_strs {z : Str} (ks : List Str) {ds : List PyData} (e : ds = ks.map PyData.str) {A B : Prop} (hy : z ∈ ks → A) (hn : z ∉ ks → B) : if (if false = true then !inV (vOf (.str z)) (ds.map vOf) else inV (vOf (.str z)) (ds.map vOf)) = true then A else B := by
  subst e
  rw [if_neg Bool.false_ne_true, show vOf (.str z) = V.str z from rfl, inV_strs]
  by_cases h : z ∈ ks
  · rw [decide_eq_true h]; exact hy h
  · rw [decide_eq_false h]; exact hn h
def strsD (l : List Str) : PyData := .list (l.map .str)
def RWords (n : Nat) (ds : List PyData) (out : Out) : Prop := ∃ t, OkT n t ∧ ds = [encT t] ∧ out = .ret (strsD (wordsT t))
def RInner (n : Nat) (ds : List PyData) (out : Out) : Prop := ∃ t ks, OkT n t ∧ ds = [encT t, .tuple (ks.map .str)] ∧ out = .ret (strsD (wrapT (isIn ks t) (wordsT t)))
theorem enc_kind (t : Tr) : ∃ ds, encT t = .tuple (.str (kindT t) :: ds) := by
  cases t <;> exact ⟨_, rfl⟩
theorem cap_size {n : Nat} (h : n ≤ 8) : capW n ≤ 40000 := by
  have : ∀ n, n ≤ 8 → capW n ≤ 40000 := by decide +kernel
  exact this n h
section
variable {P : Program} {w : World} {K : PySem.W.Frag} {mg : Str → Option Value} {base : Heap} {f : Addr} {fd : FuncData}
theorem kn_inner (F : Fun K "_law_inner" "_law_inner" s_inner f fd) (hm : mg "_law_inner" = some (.ref f)) (hb : L2.Binds K fd P_inner []) {n k : Nat} (hn : n ≤ 8) (GW : Kn P w K mg base "_law_words" k (spP K 1 (RWords n))) : Kn P w K mg base "_law_inner" (k + 1) (spP K 2 (RInner n)) := by
  refine kn_def F sc_inner hm hb rfl fun cdv A outer s H E hr ds out hl hR => ?_
  obtain ⟨t, ks, ht, rfl, rfl⟩ := hR
  obtain ⟨td, etd⟩ := enc_kind t
  have hsz := Nat.le_trans (words_len ht) (cap_size hn)
  refine dss_cons (ds_if <| dt_cmp op_in_seq (de_ix <| dp_tup <| de_var 0 rfl ⟨_, etd, de_int ⟨_, _, rfl, atI_nat (j := 0) rfl, de_var 1 rfl ⟨_, od_inT (x := .str (kindT t)) rfl (flat_strs ks), ?_⟩⟩⟩) (by rfl))
  refine in_strs ks rfl (fun c => ?_) fun c => ?_
  · refine dss_one (ds_ret <| de_new <| dl_cat <| de_new <| dl_cat <| de_new <| dl_lst <| da_cons <| de_str <| da_nil ⟨by show 1 ≤ sizeLine; decide, de_call GW hr <| da_cons <| de_var 0 rfl <| da_nil ⟨rfl, _, ⟨t, ht, rfl, rfl⟩, _, _, rfl, rfl, ?_, de_new <| dl_lst <| da_cons <| de_str <| da_nil ⟨by show 1 ≤ sizeLine; decide, _, _, rfl, rfl, ?_, ?_⟩⟩⟩)
    · rw [List.length_map]; exact Nat.le_trans (show 1 + _ ≤ 40001 by omega) (by decide)
    · rw [List.length_append, List.length_map]; exact Nat.le_trans (show 1 + _ + 1 ≤ 40002 by omega) (by decide)
    · unfold isIn strsD wrapT
      rw [decide_eq_true c, if_pos rfl, List.map_append, List.map_append]; rfl
  · refine dss_nil <| dss_one (ds_ret <| de_call GW hr <| da_cons <| de_var 0 rfl <| da_nil ⟨rfl, _, ⟨t, ht, rfl, rfl⟩, ?_⟩)
    unfold isIn strsD wrapT
    rw [decide_eq_false c, if_neg Bool.false_ne_true]; rfl
theorem take_app {ps : List Tr} {i : Nat} (h : i < ps.length) : wordsL (ps.take (i + 1)) = wordsL (ps.take i) ++ ((if i = 0 then [] else ([","] : List Str)) ++ wordsT ps[i]) := by
  rw [List.take_add_one, List.getElem?_eq_getElem h, Option.toList_some, wordsL_app]
  by_cases c : i = 0
  · subst c; rfl
  · rw [if_neg c, if_neg (fun z => c (by have := congrArg List.length z; rw [List.length_take, List.length_nil] at this; omega))]
theorem words_bin {o : Str} {a b : Tr} : wordsT (.bin o a b) = wrapT (isIn (if o = "*" then ["+", "-"] else []) a) (wordsT a) ++ [o] ++ wrapT (isIn (if o = "*" then ["+", "-", "*"] else ["+", "-"]) b) (wordsT b) := by rw [wordsT]
theorem com_len (i : Nat) : -2 ^ 63 ≤ (if decide (0 < (i : Int)) = true then 1 else 0 : Int) ∧ (if decide (0 < (i : Int)) = true then 1 else 0 : Int) < 2 ^ 63 ∧ (if decide (0 < (i : Int)) = true then 1 else 0 : Int).toNat ≤ 1 := by
  split <;> decide
theorem com_list (i : Nat) : (List.replicate (if decide (0 < (i : Int)) = true then 1 else 0 : Int).toNat [PyData.str ","]).flatten = (if i = 0 then [] else ([","] : List Str)).map .str := by
  by_cases c : i = 0
  · subst c; rfl
  · rw [decide_eq_true (by omega), if_neg c]; rfl
theorem com_one (i : Nat) : (if i = 0 then [] else ([","] : List Str)).length ≤ 1 := by
  split <;> decide
theorem kn_words (F : Fun K "_law_words" "_law_words" s_words f fd) (hm : mg "_law_words" = some (.ref f)) (hb : L2.Binds K fd P_words []) (mS : mg "str" = none) (mI : mg "int" = none) (mL : mg "len" = none) (mR : mg "range" = none) {n k : Nat} (hn : n ≤ 8)
    (GW : ∀ m, n = m + 1 → Kn P w K mg base "_law_words" k (spP K 1 (RWords m))) (GI : ∀ m, n = m + 1 → Kn P w K mg base "_law_inner" k (spP K 2 (RInner m))) : Kn P w K mg base "_law_words" (k + 1) (spP K 1 (RWords n)) := by
  refine kn_def F sc_words hm hb rfl fun cdv A outer s H E hr ds out hl hR => ?_
  obtain ⟨t, ht, rfl, rfl⟩ := hR
  have hsz := Nat.le_trans (words_len ht) (cap_size hn)
  -- the parts of a call or row, and the closing sign
  have fin : ∀ (pre : List Str) (z cl : Str) (m : Nat) (ps : List Tr) (td : List PyData), n = m + 1 → (z = "call" ∧ cl = ")" ∨ z = "row" ∧ cl = "]") → atI td (-1) = some (.tuple (encTs ps)) → ps.length ≤ 3 → (∀ u ∈ ps, OkT m u) → pre.length ≤ 2 →
      ∀ D : DEnds, (∀ d' ρ, Out.ret (strsD (pre ++ wordsL ps ++ [cl])) = .ret d' → D.rt d' ρ) → DSs (cxOf (L2.CX P w) P w K mg base N_words "_law_words" (defScope s_words) f cdv A outer s H E) (fun c xs => Out.ret (strsD (wordsT t)) = .exc c xs) (match (defBody s_words).getD 2 (.Pass ⟨0, 0, 0, 0⟩) with | .If _ b _ _ => b.drop 1 | _ => [])
        D [some (.val (.tuple td)), some (.val (.str z)), some (.val (strsD pre)), none, none, none, none] := fun pre z cl m ps td en hz hat hl3 hp hpre D hD => by
    have GWm := GW m en
    have cap : ∀ i, (wordsL (ps.take i)).length ≤ 3 * capW m + 2 := fun i => wordsL_len (Nat.le_trans (by rw [List.length_take]; omega) hl3) fun u hu => words_len (hp u (List.mem_of_mem_take hu))
    have cz := cap_size (n := m) (by omega)
    refine dss_cons (ds_set 3 (de_ix <| dp_tup <| de_var 0 rfl ⟨_, rfl, de_neg <| de_int ⟨_, rfl, _, _, rfl, hat, ?_⟩⟩) sc_words.nd)
    refine dss_cons (ds_for 4 (di_range mR <| de_cb call_lenR mL boot_len <| da_cons <| de_var 3 rfl <| da_nil ⟨_, cd_len rfl, _, rfl, ?_, ?_, fun i ρ => ∃ o, ρ = [some (.val (.tuple td)), some (.val (.str z)), some (.val (strsD (pre ++ wordsL (ps.take i)))), some (.val (.tuple (encTs ps))), o, none, none], ?_, ?_, ?_⟩) sc_words.nd)
    · omega
    · rw [encTs_map, List.length_map]; omega
    · refine ⟨none, ?_⟩
      rw [show pre ++ wordsL (ps.take 0) = pre by rw [List.take_zero]; show pre ++ wordsL [] = pre; unfold wordsL; rw [List.append_nil]]; rfl
    · rintro i d ρ hd ⟨o, rfl⟩
      unfold rangeD at hd
      rw [List.getElem?_map] at hd
      have hil : i < ps.length := by
        have h1 : (List.range (Int.toNat ((encTs ps).length : Int)))[i]? ≠ none := fun z => by rw [z] at hd; cases hd
        have h2 : i < (List.range (Int.toNat ((encTs ps).length : Int))).length := by
          apply Decidable.byContradiction; intro z; exact h1 (List.getElem?_eq_none (by omega))
        rw [List.length_range, Int.toNat_natCast, encTs_map, List.length_map] at h2
        exact h2
      have ed : d = .int (i : Nat) := by
        have h2 : i < (List.range (Int.toNat ((encTs ps).length : Int))).length := by rw [List.length_range, Int.toNat_natCast, encTs_map, List.length_map]; exact hil
        rw [List.getElem?_eq_getElem h2, List.getElem_range] at hd
        cases hd
        show PyData.int (0 + (i : Int)) = _
        rw [Int.zero_add]
      subst ed
      have hi : atI (encTs ps) (i : Nat) = some (encT ps[i]) := atI_nat (by rw [encTs_map, List.getElem?_map, List.getElem?_eq_getElem hil]; rfl)
      have hu : OkT m ps[i] := hp _ (List.getElem_mem hil)
      refine dss_one (ds_set 2 (de_new <| dl_cat <| de_new <| dl_cat <| de_var 2 rfl <| de_new <| dl_rep <| de_new <| dl_lst <| da_cons <| de_str <| da_nil ⟨by show 1 ≤ sizeLine; decide, de_ct call_intR mI boot_int <| da_cons <| de_cmp op_gt (de_var 4 rfl <| de_int ⟨_, od_B0, da_nil ⟨_, cd_intB, _, _, rfl, rfl, ?_, ?_, ?_, _, _, rfl, rfl, ?_, de_call GWm hr <| da_cons <| de_ix <| dp_tup <| de_var 3 rfl ⟨_, rfl, de_var 4 rfl ⟨_, _, rfl, hi, da_nil ⟨rfl, _, ⟨ps[i], hu, rfl, rfl⟩, _, _, rfl, rfl, ?_, ?_⟩⟩⟩⟩⟩) (by rfl)⟩) sc_words.nd)
      · exact (com_len i).1
      · exact (com_len i).2.1
      · refine Nat.le_trans ?_ (show 1 ≤ sizeLine by decide)
        rw [List.length_singleton, Nat.one_mul]; exact (com_len i).2.2
      · have h1 := cap i
        have h2 := com_one i
        rw [com_list, List.length_map, List.length_map, List.length_append]
        exact Nat.le_trans (show _ ≤ 200000 by omega) (by decide)
      · have h1 := cap i
        have h2 := com_one i
        have h3 := words_len hu
        rw [com_list, List.length_append, List.length_map, List.length_map, List.length_map, List.length_append]
        exact Nat.le_trans (show _ ≤ 200000 by omega) (by decide)
      · refine ⟨some (.val (.int (i : Nat))), ?_⟩
        rw [com_list, take_app hil]
        show [_, _, some (Ent.val (.list _)), _, _, _, _] = [_, _, some (Ent.val (.list _)), _, _, _, _]
        simp only [List.map_append, List.append_assoc]
    · rintro ρ ⟨o, rfl⟩
      rw [show ps.take (rangeD 0 (Int.toNat ((encTs ps).length : Int))).length = ps by
        unfold rangeD; rw [List.length_map, List.length_range, Int.toNat_natCast, encTs_map, List.length_map, List.take_length]]
      have hat2 : atI [PyData.str ")", .str "]"] (if decide (V.str z = V.str "row") = true then 1 else 0 : Int) = some (.str cl) := by
        rcases hz with ⟨rfl, rfl⟩ | ⟨rfl, rfl⟩
        · rw [decide_eq_false (by decide +kernel)]; rfl
        · rw [decide_eq_true (by decide +kernel)]; rfl
      have h1 := cap ps.length
      rw [List.take_length] at h1
      refine dss_one (ds_ret <| de_new <| dl_cat <| de_var 2 rfl <| de_new <| dl_lst <| da_cons <| de_ix <| dp_list <| de_new <| dl_lst <| da_cons <| de_str <| da_cons <| de_str <| da_nil ⟨by show 2 ≤ sizeLine; decide, _, rfl, de_ct call_intR mI boot_int <| da_cons <| de_cmp op_eq (de_var 1 rfl <| de_str ⟨_, od_eq rfl rfl rfl, da_nil ⟨_, cd_intB, _, _, rfl, hat2, da_nil ⟨by show 1 ≤ sizeLine; decide, _, _, rfl, rfl, ?_, ?_⟩⟩⟩) (by rfl)⟩)
      · rw [List.length_map, List.length_append]
        exact Nat.le_trans (show _ + 1 ≤ 200000 by omega) (by decide)
      · refine hD _ _ ?_
        unfold strsD
        simp only [List.map_append]
        rfl
  cases ht with
  | name h =>
    refine dss_cons (ds_set 1 (de_ix <| dp_tup <| de_var 0 rfl ⟨_, rfl, de_int ⟨_, _, rfl, rfl, ?_⟩⟩) sc_words.nd)
    refine dss_cons (ds_if <| dt_cmp op_in_seq (de_var 1 rfl <| de_tup <| da_cons <| de_str <| da_cons <| de_str <| da_nil ⟨by show 2 ≤ sizeLine; decide, _, od_inT rfl rfl, ?_⟩) (by rfl))
    refine in_strs ["name", "number"] rfl (fun c => ?_) fun c => absurd c (by decide +kernel)
    refine dss_one (ds_ret <| de_new <| dl_lst <| da_cons <| de_ct call_strR mS boot_str <| da_cons <| de_ix <| dp_tup <| de_var 0 rfl ⟨_, rfl, de_int ⟨_, _, rfl, rfl, da_nil ⟨_, cd_strS, da_nil ⟨by show 1 ≤ sizeLine; decide, ?_⟩⟩⟩⟩)
    rfl
  | num h0 h1 =>
    refine dss_cons (ds_set 1 (de_ix <| dp_tup <| de_var 0 rfl ⟨_, rfl, de_int ⟨_, _, rfl, rfl, ?_⟩⟩) sc_words.nd)
    refine dss_cons (ds_if <| dt_cmp op_in_seq (de_var 1 rfl <| de_tup <| da_cons <| de_str <| da_cons <| de_str <| da_nil ⟨by show 2 ≤ sizeLine; decide, _, od_inT rfl rfl, ?_⟩) (by rfl))
    refine in_strs ["name", "number"] rfl (fun c => ?_) fun c => absurd c (by decide +kernel)
    refine dss_one (ds_ret <| de_new <| dl_lst <| da_cons <| de_ct call_strR mS boot_str <| da_cons <| de_ix <| dp_tup <| de_var 0 rfl ⟨_, rfl, de_int ⟨_, _, rfl, rfl, da_nil ⟨_, cd_strI ?_, da_nil ⟨by show 1 ≤ sizeLine; decide, ?_⟩⟩⟩⟩)
    · rename_i i
      by_cases z : i.natAbs = 0
      · rw [z]; decide
      · exact Nat.lt_of_lt_of_le ((Nat.log2_lt z).mpr (show i.natAbs < 2 ^ 40 by omega)) (by decide)
    · rfl
  | call hf hl3 hp =>
    refine dss_cons (ds_set 1 (de_ix <| dp_tup <| de_var 0 rfl ⟨_, rfl, de_int ⟨_, _, rfl, rfl, ?_⟩⟩) sc_words.nd)
    refine dss_cons (ds_if <| dt_cmp op_in_seq (de_var 1 rfl <| de_tup <| da_cons <| de_str <| da_cons <| de_str <| da_nil ⟨by show 2 ≤ sizeLine; decide, _, od_inT rfl rfl, ?_⟩) (by rfl))
    refine in_strs ["name", "number"] rfl (fun c => absurd c (by decide +kernel)) fun c => ?_
    refine dss_nil <| dss_cons (ds_if <| dt_cmp op_in_seq (de_var 1 rfl <| de_tup <| da_cons <| de_str <| da_cons <| de_str <| da_nil ⟨by show 2 ≤ sizeLine; decide, _, od_inT rfl rfl, ?_⟩) (by rfl))
    refine in_strs ["call", "row"] rfl (fun c => ?_) fun c => absurd c (by decide +kernel)
    refine dss_cons (ds_set 2 (de_if <| dt_cmp op_eq (de_var 1 rfl <| de_str ⟨_, od_eq rfl rfl rfl, ?_⟩) (nomark _)) sc_words.nd)
    refine eqs_yes (by decide +kernel) ?_
    refine de_new <| dl_lst <| da_cons <| de_ix <| dp_tup <| de_var 0 rfl ⟨_, rfl, de_int ⟨_, _, rfl, rfl, da_cons <| de_str <| da_nil ⟨by show 2 ≤ sizeLine; decide, ?_⟩⟩⟩
    exact fin [_, "("] "call" ")" _ _ _ rfl (.inl ⟨rfl, rfl⟩) rfl hl3 hp (by show 2 ≤ 2; decide) _ fun d' ρ z => by
      refine Eq.trans ?_ z
      unfold wordsT
      rfl
  | row hl3 hp =>
    refine dss_cons (ds_set 1 (de_ix <| dp_tup <| de_var 0 rfl ⟨_, rfl, de_int ⟨_, _, rfl, rfl, ?_⟩⟩) sc_words.nd)
    refine dss_cons (ds_if <| dt_cmp op_in_seq (de_var 1 rfl <| de_tup <| da_cons <| de_str <| da_cons <| de_str <| da_nil ⟨by show 2 ≤ sizeLine; decide, _, od_inT rfl rfl, ?_⟩) (by rfl))
    refine in_strs ["name", "number"] rfl (fun c => absurd c (by decide +kernel)) fun c => ?_
    refine dss_nil <| dss_cons (ds_if <| dt_cmp op_in_seq (de_var 1 rfl <| de_tup <| da_cons <| de_str <| da_cons <| de_str <| da_nil ⟨by show 2 ≤ sizeLine; decide, _, od_inT rfl rfl, ?_⟩) (by rfl))
    refine in_strs ["call", "row"] rfl (fun c => ?_) fun c => absurd c (by decide +kernel)
    refine dss_cons (ds_set 2 (de_if <| dt_cmp op_eq (de_var 1 rfl <| de_str ⟨_, od_eq rfl rfl rfl, ?_⟩) (nomark _)) sc_words.nd)
    refine eqs_no (by decide +kernel) ?_
    refine de_new <| dl_lst <| da_cons <| de_str <| da_nil ⟨by show 1 ≤ sizeLine; decide, ?_⟩
    exact fin ["["] "row" "]" _ _ _ rfl (.inr ⟨rfl, rfl⟩) rfl hl3 hp (by show 1 ≤ 2; decide) _ fun d' ρ z => by
      refine Eq.trans ?_ z
      unfold wordsT
      rfl
  | bin ho ha hb2 =>
    rename_i m o a b
    have GIm := GI m rfl
    have hw1 := wrap_len (isIn (if o = "*" then ["+", "-"] else []) a) (wordsT a)
    have hw2 := wrap_len (isIn (if o = "*" then ["+", "-", "*"] else ["+", "-"]) b) (wordsT b)
    have cz := cap_size (n := m) (by omega)
    have h1 := words_len ha
    have h2 := words_len hb2
    refine dss_cons (ds_set 1 (de_ix <| dp_tup <| de_var 0 rfl ⟨_, rfl, de_int ⟨_, _, rfl, rfl, ?_⟩⟩) sc_words.nd)
    refine dss_cons (ds_if <| dt_cmp op_in_seq (de_var 1 rfl <| de_tup <| da_cons <| de_str <| da_cons <| de_str <| da_nil ⟨by show 2 ≤ sizeLine; decide, _, od_inT rfl rfl, ?_⟩) (by rfl))
    refine in_strs ["name", "number"] rfl (fun c => absurd (show o ∈ (["name", "number"] : List Str) from c) ?_) fun c => ?_
    · revert ho; exact (by decide +kernel : ∀ o ∈ (["+", "-", "*"] : List Str), ¬ o ∈ (["name", "number"] : List Str)) o
    refine dss_nil <| dss_cons (ds_if <| dt_cmp op_in_seq (de_var 1 rfl <| de_tup <| da_cons <| de_str <| da_cons <| de_str <| da_nil ⟨by show 2 ≤ sizeLine; decide, _, od_inT rfl rfl, ?_⟩) (by rfl))
    refine in_strs ["call", "row"] rfl (fun c => absurd (show o ∈ (["call", "row"] : List Str) from c) ?_) fun c => ?_
    · revert ho; exact (by decide +kernel : ∀ o ∈ (["+", "-", "*"] : List Str), ¬ o ∈ (["call", "row"] : List Str)) o
    refine dss_nil <| dss_cons (ds_set 5 (de_cmp op_eq (de_var 1 rfl <| de_str ⟨.bool (decide (V.str o = V.str "*")), od_eq rfl rfl rfl, ?_⟩) (nomark _)) sc_words.nd)
    by_cases e : o = "*"
    · rw [if_pos e] at hw1 hw2; rw [decide_eq_true (show V.str o = V.str "*" from congrArg V.str e)]
      refine dss_cons (ds_set 6 (de_call GIm hr <| da_cons <| de_ix <| dp_tup <| de_var 0 rfl ⟨_, rfl, de_int ⟨_, _, rfl, rfl, da_cons <| de_if <| dt_val (de_var 5 rfl ⟨_, rfl, iteT <| de_tup <| da_cons <| de_str <| da_cons <| de_str <| da_nil ⟨by show 2 ≤ sizeLine; decide, da_nil ⟨rfl, _, ⟨a, ["+", "-"], ha, rfl, rfl⟩, ?_⟩⟩⟩)⟩⟩) sc_words.nd)
      refine dss_one (ds_ret <| de_new <| dl_cat <| de_new <| dl_cat <| de_var 6 rfl <| de_new <| dl_lst <| da_cons <| de_var 1 rfl <| da_nil ⟨by show 1 ≤ sizeLine; decide, _, _, rfl, rfl, ?_, de_call GIm hr <| da_cons <| de_ix <| dp_tup <| de_var 0 rfl ⟨_, rfl, de_int ⟨_, _, rfl, rfl, da_cons <| de_if <| dt_val (de_var 5 rfl ⟨_, rfl, iteT <| de_tup <| da_cons <| de_str <| da_cons <| de_str <| da_cons <| de_str <| da_nil ⟨by show 3 ≤ sizeLine; decide, da_nil ⟨rfl, _, ⟨b, ["+", "-", "*"], hb2, rfl, rfl⟩, _, _, rfl, rfl, ?_, ?_⟩⟩⟩)⟩⟩⟩)
      · rw [List.length_map]; exact Nat.le_trans (show _ + 1 ≤ 200000 by omega) (by decide)
      · rw [List.length_append, List.length_map, List.length_map]; exact Nat.le_trans (show _ + 1 + _ ≤ 200000 by omega) (by decide)
      · show Out.ret (strsD (wordsT (.bin o a b))) = _
        rw [words_bin, if_pos e, if_pos e]
        unfold strsD
        simp only [List.map_append]
        rfl
    · rw [if_neg e] at hw1 hw2; rw [decide_eq_false (show ¬ V.str o = V.str "*" from fun z => e (V.str.inj z))]
      refine dss_cons (ds_set 6 (de_call GIm hr <| da_cons <| de_ix <| dp_tup <| de_var 0 rfl ⟨_, rfl, de_int ⟨_, _, rfl, rfl, da_cons <| de_if <| dt_val (de_var 5 rfl ⟨_, rfl, iteF <| de_tup <| da_nil ⟨by show 0 ≤ sizeLine; decide, da_nil ⟨rfl, _, ⟨a, [], ha, rfl, rfl⟩, ?_⟩⟩⟩)⟩⟩) sc_words.nd)
      refine dss_one (ds_ret <| de_new <| dl_cat <| de_new <| dl_cat <| de_var 6 rfl <| de_new <| dl_lst <| da_cons <| de_var 1 rfl <| da_nil ⟨by show 1 ≤ sizeLine; decide, _, _, rfl, rfl, ?_, de_call GIm hr <| da_cons <| de_ix <| dp_tup <| de_var 0 rfl ⟨_, rfl, de_int ⟨_, _, rfl, rfl, da_cons <| de_if <| dt_val (de_var 5 rfl ⟨_, rfl, iteF <| de_tup <| da_cons <| de_str <| da_cons <| de_str <| da_nil ⟨by show 2 ≤ sizeLine; decide, da_nil ⟨rfl, _, ⟨b, ["+", "-"], hb2, rfl, rfl⟩, _, _, rfl, rfl, ?_, ?_⟩⟩⟩)⟩⟩⟩)
      · rw [List.length_map]; exact Nat.le_trans (show _ + 1 ≤ 200000 by omega) (by decide)
      · rw [List.length_append, List.length_map, List.length_map]; exact Nat.le_trans (show _ + 1 + _ ≤ 200000 by omega) (by decide)
      · show Out.ret (strsD (wordsT (.bin o a b))) = _
        rw [words_bin, if_neg e, if_neg e]
        unfold strsD
        simp only [List.map_append]
        rfl
/-- both, by how deep the tree is -/
theorem kn_wi {f1 f2 : Addr} {d1 d2 : FuncData} (F1 : Fun K "_law_words" "_law_words" s_words f1 d1) (m1 : mg "_law_words" = some (.ref f1)) (b1 : L2.Binds K d1 P_words []) (F2 : Fun K "_law_inner" "_law_inner" s_inner f2 d2) (m2 : mg "_law_inner" = some (.ref f2)) (b2 : L2.Binds K d2 P_inner [])
    (mS : mg "str" = none) (mI : mg "int" = none) (mL : mg "len" = none) (mR : mg "range" = none) : ∀ n, n ≤ 8 → Kn P w K mg base "_law_words" (2 * n + 1) (spP K 1 (RWords n)) ∧ Kn P w K mg base "_law_inner" (2 * n + 2) (spP K 2 (RInner n)) := by
  intro n
  induction n with
  | zero =>
    intro hn
    have h := kn_words (P := P) (w := w) (base := base) (k := 0) F1 m1 b1 mS mI mL mR hn (fun m e => by omega) (fun m e => by omega)
    exact ⟨h, kn_inner F2 m2 b2 hn h⟩
  | succ n ih =>
    intro hn
    have h := kn_words (P := P) (w := w) (base := base) (k := 2 * n + 2) F1 m1 b1 mS mI mL mR hn (fun m e => Nat.succ.inj e ▸ (ih (by omega)).1.mono (by omega)) (fun m e => Nat.succ.inj e ▸ (ih (by omega)).2)
    exact ⟨h, kn_inner F2 m2 b2 hn h⟩
end
end Q
namespace Q
open PySem PySem.Spec PyProof.Rows L2 Pw
/-! ### texts made of words, with blanks between -/
def whites (b : List Nat) : Prop := ∀ c ∈ b, inS " \n" c = true
inductive Lay : List Nat → List Str → Prop
  | nil {b : List Nat} (h : whites b) : Lay b []
  | cons {b l : List Nat} {w : Str} {ws : List Str} (hb : whites b) (h : Lay l ws) : Lay (b ++ (w.cps.toList ++ l)) (w :: ws)
def AtL (T : Str) (p : Nat) (ws : List Str) : Prop := Lay (T.cps.toList.drop p) ws
theorem drop_tw (f : Nat → Bool) : ∀ l : List Nat, l.drop (l.takeWhile f).length = l.dropWhile f
  | [] => rfl
  | a :: l => by
    rw [List.takeWhile_cons, List.dropWhile_cons]
    split
    · rw [List.length_cons, List.drop_succ_cons]; exact drop_tw f l
    · rfl
theorem drop_sk (T : Str) (p : Nat) : T.cps.toList.drop (sk T p) = (T.cps.toList.drop p).dropWhile (inS " \n") := by
  unfold sk runN
  rw [← drop_tw, List.drop_drop]
theorem dw_app {b l : List Nat} (h : whites b) : (b ++ l).dropWhile (inS " \n") = l.dropWhile (inS " \n") := by
  induction b with
  | nil => rfl
  | cons a b ih =>
    rw [List.cons_append, List.dropWhile_cons, if_pos (h a List.mem_cons_self)]
    exact ih fun c hc => h c (List.mem_cons_of_mem _ hc)
theorem dw_all {b : List Nat} (h : whites b) : b.dropWhile (inS " \n") = [] := by
  have := dw_app (l := []) h
  rw [List.append_nil] at this
  exact this
theorem sg_of {T : Str} {q c : Nat} {r : List Nat} (h : T.cps.toList.drop q = c :: r) : sg T q = some c := by
  unfold sg
  have e : (T.cps.toList.drop q)[0]? = some c := by rw [h]; rfl
  rw [List.getElem?_drop] at e
  exact e
theorem at_word {T : Str} {p c : Nat} {cs : List Nat} {w : Str} {ws : List Str} (h : AtL T p (w :: ws)) (e : w.cps.toList = c :: cs) (hc : inS " \n" c = false) : ∃ l, T.cps.toList.drop (sk T p) = (c :: cs) ++ l ∧ Lay l ws := by
  unfold AtL at h
  generalize ex : T.cps.toList.drop p = x at h
  cases h with
  | cons hb h =>
    refine ⟨_, ?_, h⟩
    rw [drop_sk, ex, dw_app hb, e, List.cons_append, List.dropWhile_cons, if_neg (by rw [hc]; exact Bool.false_ne_true)]
theorem at_end {T : Str} {p : Nat} (h : AtL T p []) : T.cps.toList.drop (sk T p) = [] := by
  unfold AtL at h
  generalize ex : T.cps.toList.drop p = x at h
  cases h with
  | nil hb => rw [drop_sk, ex, dw_all hb]
theorem sg_end {T : Str} {p : Nat} (h : AtL T p []) : sg T (sk T p) = none := by
  have := at_end h
  unfold sg
  rw [List.drop_eq_nil_iff] at this
  exact List.getElem?_eq_none this
theorem at_step {T : Str} {q : Nat} {x l : List Nat} {ws : List Str} (h : T.cps.toList.drop q = x ++ l) (hl : Lay l ws) : AtL T (q + x.length) ws := by
  unfold AtL
  rw [← List.drop_drop, h, List.drop_left]; exact hl
theorem at_sign {T : Str} {p c : Nat} {w : Str} {ws : List Str} (h : AtL T p (w :: ws)) (e : w.cps.toList = [c]) (hc : inS " \n" c = false) : sg T (sk T p) = some c ∧ AtL T (sk T p + 1) ws := by
  obtain ⟨l, h1, h2⟩ := at_word h e hc
  exact ⟨sg_of h1, at_step h1 h2⟩
/-- what may follow: signs, or the end -/
def Fol (cs : List Nat) (ws : List Str) : Prop := ws = [] ∨ ∃ w r c, ws = w :: r ∧ w.cps.toList = [c] ∧ c ∈ cs
theorem Fol.mono {cs ds : List Nat} {ws : List Str} (h : Fol cs ws) (hm : ∀ c ∈ cs, c ∈ ds) : Fol ds ws := by
  rcases h with h | ⟨w, r, c, h1, h2, h3⟩
  · exact .inl h
  · exact .inr ⟨w, r, c, h1, h2, hm c h3⟩
theorem sig_nw : ∀ c ∈ [41, 93, 44, 43, 45, 42], inS " \n" c = false := by decide +kernel
theorem Fol.sg {cs : List Nat} {T : Str} {p : Nat} {ws : List Str} (h : Fol cs ws) (hm : ∀ c ∈ cs, c ∈ [41, 93, 44, 43, 45, 42]) (ha : AtL T p ws) : Q.sg T (sk T p) = none ∨ ∃ c ∈ cs, Q.sg T (sk T p) = some c := by
  rcases h with rfl | ⟨w, r, c, rfl, h2, h3⟩
  · exact .inl (sg_end ha)
  · exact .inr ⟨c, h3, (at_sign ha h2 (sig_nw c (hm c h3))).1⟩
theorem Fol.no {cs : List Nat} {T : Str} {p x : Nat} {ws : List Str} (h : Fol cs ws) (ha : AtL T p ws) (hm : ∀ c ∈ cs, c ∈ [41, 93, 44, 43, 45, 42]) (hx : x ∉ cs) : Q.sg T (sk T p) ≠ some x := by
  rcases h.sg hm ha with e | ⟨c, hc, e⟩
  · rw [e]; exact fun z => nomatch z
  · rw [e]; exact fun z => hx (by cases z; exact hc)
theorem Fol.at_sk {cs : List Nat} {T : Str} {p : Nat} {ws : List Str} (h : Fol cs ws) (hm : ∀ c ∈ cs, c ∈ [41, 93, 44, 43, 45, 42]) (ha : AtL T p ws) : AtL T (sk T p) ws := by
  rcases h with rfl | ⟨w, r, c, rfl, h2, h3⟩
  · unfold AtL; rw [at_end ha]; exact .nil fun c hc => nomatch hc
  · obtain ⟨l, h4, h5⟩ := at_word ha h2 (sig_nw c (hm c h3))
    unfold AtL
    rw [h4, ← h2]
    exact .cons (b := []) (fun c hc => nomatch hc) h5
/-- behind a word no sign of the kind f comes -/
theorem lay_stop {cs : List Nat} {f : Nat → Bool} {l : List Nat} {ws : List Str} (h : Fol cs ws) (hf : ∀ c ∈ cs, f c = false) (hw : ∀ c, inS " \n" c = true → f c = false) (hl : Lay l ws) : l.takeWhile f = [] := by
  have bl : ∀ {b x : List Nat}, whites b → x.takeWhile f = [] → (b ++ x).takeWhile f = [] := fun {b x} hb hx => by
    cases b with
    | nil => exact hx
    | cons a b => rw [List.cons_append, List.takeWhile_cons, if_neg (by rw [hw a (hb a List.mem_cons_self)]; exact Bool.false_ne_true)]
  rcases h with rfl | ⟨w, r, c, rfl, h2, h3⟩
  · cases hl with
    | nil hb => have := bl (x := []) hb rfl; rw [List.append_nil] at this; exact this
  · cases hl with
    | cons hb h =>
      refine bl hb ?_
      rw [h2, List.cons_append, List.takeWhile_cons, if_neg (by rw [hf c h3]; exact Bool.false_ne_true)]
theorem tw_app {f : Nat → Bool} {x l : List Nat} (hx : ∀ c ∈ x, f c = true) (hl : l.takeWhile f = []) : (x ++ l).takeWhile f = x := by
  induction x with
  | nil => exact hl
  | cons a x ih => rw [List.cons_append, List.takeWhile_cons, if_pos (hx a List.mem_cons_self), ih fun c hc => hx c (List.mem_cons_of_mem _ hc)]
theorem at_run {cs : List Nat} {f : Nat → Bool} {T w : Str} {p c : Nat} {r : List Nat} {ws : List Str} (ha : AtL T p (w :: ws)) (e : w.cps.toList = c :: r) (hc : inS " \n" c = false) (hw : ∀ c ∈ w.cps.toList, f c = true) (h : Fol cs ws) (hf : ∀ c ∈ cs, f c = false) (hb : ∀ c, inS " \n" c = true → f c = false) :
    sg T (sk T p) = some c ∧ subS T (sk T p) (sk T p + runN f T.cps.toList (sk T p)) = w ∧ AtL T (sk T p + runN f T.cps.toList (sk T p)) ws := by
  obtain ⟨l, h1, h2⟩ := at_word ha e hc
  have h3 := tw_app (x := c :: r) (by rw [← e]; exact hw) (lay_stop h hf hb h2)
  have h4 : runN f T.cps.toList (sk T p) = (c :: r).length := by unfold runN; rw [h1, h3]
  refine ⟨sg_of h1, ?_, by rw [h4]; exact at_step h1 h2⟩
  unfold subS
  rw [h4, h1, Nat.add_sub_cancel_left, List.take_left, ← e, Array.toArray_toList]
theorem white_let : ∀ c, inS " \n" c = true → inS "abcdefghijklmnopqrstuvwxyz" c = false := fun c h => by
  have h1 : c ∈ (" \n" : Str).cps.toList := of_decide_eq_true h
  have e : (" \n" : Str).cps.toList = [32, 10] := by decide +kernel
  rw [e] at h1
  exact (by decide +kernel : ∀ c ∈ [32, 10], inS "abcdefghijklmnopqrstuvwxyz" c = false) c h1
theorem white_fig : ∀ c, inS " \n" c = true → inS "0123456789" c = false := fun c h => by
  have h1 : c ∈ (" \n" : Str).cps.toList := of_decide_eq_true h
  have e : (" \n" : Str).cps.toList = [32, 10] := by decide +kernel
  rw [e] at h1
  exact (by decide +kernel : ∀ c ∈ [32, 10], inS "0123456789" c = false) c h1
theorem not_white {f : Nat → Bool} (h : ∀ c, inS " \n" c = true → f c = false) {c : Nat} (hc : f c = true) : inS " \n" c = false := by
  cases e : inS " \n" c with
  | false => rfl
  | true => rw [h c e] at hc; cases hc
/-! numbers -/
theorem numL_head : ∀ n : Nat, 0 < n → ∃ c r, TL.numL n = c :: r ∧ c ≠ 48 := by
  intro n
  induction n using Nat.strongRecOn with
  | _ n ih =>
    intro h
    by_cases c : n < 10
    · exact ⟨48 + n, [], TL.numL_lt c, by omega⟩
    · obtain ⟨c, r, e, hc⟩ := ih (n / 10) (by omega) (by omega)
      exact ⟨c, r ++ [48 + n % 10], by rw [TL.numL_step (by omega), e]; rfl, hc⟩
theorem fig_in {c : Nat} (h : 48 ≤ c ∧ c ≤ 57) : inS "0123456789" c = true := by
  have : ∀ c, c < 58 → 48 ≤ c → inS "0123456789" c = true := by decide +kernel
  exact this c (by omega) h.1
end Q
namespace Q
open PySem PySem.Spec PyProof.Rows L2 Pw
abbrev fAll : List Nat := [41, 93, 44, 43, 45, 42]
abbrev fSum : List Nat := [41, 93, 44, 43, 45]
abbrev fEnd : List Nat := [41, 93, 44]
theorem fS_A : ∀ c ∈ fSum, c ∈ fAll := by decide
theorem fE_A : ∀ c ∈ fEnd, c ∈ fAll := by decide
theorem fE_S : ∀ c ∈ fEnd, c ∈ fSum := by decide
theorem fA_let : ∀ c ∈ fAll, inS "abcdefghijklmnopqrstuvwxyz" c = false := by decide +kernel
theorem fA_fig : ∀ c ∈ fAll, inS "0123456789" c = false := by decide +kernel
/-- a tree's first word -/
theorem wrap_head {b : Bool} {l : List Str} (h : ∃ w r c x, l = w :: r ∧ w.cps.toList = c :: x ∧ inS " \n" c = false ∧ c ≠ 41 ∧ c ≠ 93) : ∃ w r c x, wrapT b l = w :: r ∧ w.cps.toList = c :: x ∧ inS " \n" c = false ∧ c ≠ 41 ∧ c ≠ 93 := by
  cases b
  · exact h
  · exact ⟨"(", _, 40, [], rfl, by decide +kernel, by decide +kernel, by decide, by decide⟩
theorem let_head {s : Str} (h : lettersS s) : ∃ c x, s.cps.toList = c :: x ∧ inS "abcdefghijklmnopqrstuvwxyz" c = true ∧ inS " \n" c = false ∧ c ≠ 41 ∧ c ≠ 93 := by
  cases e : s.cps.toList with
  | nil => exact absurd e h.1
  | cons c x =>
    have h1 := h.2.1 c (by rw [e]; exact List.mem_cons_self)
    refine ⟨c, x, rfl, h1, not_white white_let h1, fun z => ?_, fun z => ?_⟩
    · rw [z] at h1; exact absurd h1 (by decide +kernel)
    · rw [z] at h1; exact absurd h1 (by decide +kernel)
theorem num_head {i : Int} (h0 : 0 ≤ i) : ∃ (n : Nat), i = n ∧ (numS i).cps.toList = TL.numL n ∧ ∃ c x, TL.numL n = c :: x ∧ inS "0123456789" c = true := by
  refine ⟨i.toNat, by omega, ?_, ?_⟩
  · have e : i = ((i.toNat : Nat) : Int) := by omega
    rw [e, Int.toNat_natCast]
    exact TL.tl_num i.toNat
  · cases e : TL.numL i.toNat with
    | nil => exact absurd e (TL.numL_ne _)
    | cons c x => exact ⟨c, x, rfl, fig_in (TL.numL_digits i.toNat c (by rw [e]; exact List.mem_cons_self))⟩
theorem words_head : ∀ {n : Nat} {t : Tr}, OkT n t → ∃ w r c x, wordsT t = w :: r ∧ w.cps.toList = c :: x ∧ inS " \n" c = false ∧ c ≠ 41 ∧ c ≠ 93
  | _, _, .name (s := s) h => by
    obtain ⟨c, x, e, h1, h2, h3, h4⟩ := let_head h
    exact ⟨s, [], c, x, by rw [wordsT], e, h2, h3, h4⟩
  | _, _, .num (i := i) h0 _ => by
    obtain ⟨n, e1, e2, c, x, e3, h1⟩ := num_head h0
    refine ⟨numS i, [], c, x, by rw [wordsT], by rw [e2, e3], not_white white_fig h1, fun z => ?_, fun z => ?_⟩
    · rw [z] at h1; exact absurd h1 (by decide +kernel)
    · rw [z] at h1; exact absurd h1 (by decide +kernel)
  | _, _, .call (f := f) h _ _ => by
    obtain ⟨c, x, e, h1, h2, h3, h4⟩ := let_head h
    exact ⟨f, _, c, x, by rw [wordsT]; rfl, e, h2, h3, h4⟩
  | _, _, .row _ _ => ⟨"[", _, 91, [], by rw [wordsT]; rfl, by decide +kernel, by decide +kernel, by decide, by decide⟩
  | _, _, .bin (o := o) (a := a) (b := b) _ ha _ => by
    obtain ⟨w, r, c, x, e, h⟩ := wrap_head (b := isIn (if o = "*" then ["+", "-"] else []) a) (words_head ha)
    exact ⟨w, _, c, x, by rw [wordsT, e]; rfl, h⟩
section
variable {T : Str}
def SumP (T : Str) (d : Nat) (t : Tr) : Prop := ∀ p ws, AtL T p (wordsT t ++ ws) → Fol fSum ws → ∃ q, AtL T q ws ∧ ∀ r, SumL T d t q r → Sum T d p r
def ProdP (T : Str) (d : Nat) (l : List Str) (t : Tr) : Prop := ∀ p ws, AtL T p (l ++ ws) → Fol fAll ws → ∃ q, AtL T q ws ∧ ∀ r, ProdL T d t q r → Prod T d p r
def PlainP (T : Str) (d : Nat) (l : List Str) (t : Tr) : Prop := ∀ p ws, AtL T p (l ++ ws) → Fol fAll ws → ∃ q, AtL T q ws ∧ Plain T d p (.ok (t, q))
theorem PlainP.prod {d : Nat} {l : List Str} {t : Tr} (h : PlainP T d l t) : ProdP T d l t := fun p ws ha hf => by
  obtain ⟨q, h1, h2⟩ := h p ws ha hf
  exact ⟨q, h1, fun r hr => .more h2 hr⟩
theorem ProdP.ok {d : Nat} {l : List Str} {t : Tr} (h : ProdP T d l t) {p : Nat} {ws : List Str} (ha : AtL T p (l ++ ws)) (hf : Fol fSum ws) : ∃ q, AtL T q ws ∧ Prod T d p (.ok (t, q)) := by
  obtain ⟨q, h1, h2⟩ := h p ws ha (hf.mono fS_A)
  exact ⟨sk T q, hf.at_sk fS_A h1, h2 _ (.stop (hf.no h1 fS_A (by decide)))⟩
theorem ProdP.sum {d : Nat} {t : Tr} (h : ProdP T d (wordsT t) t) : SumP T d t := fun p ws ha hf => by
  obtain ⟨q, h1, h2⟩ := h.ok ha hf
  exact ⟨q, h1, fun r hr => .more h2 hr⟩
theorem SumP.ok {d : Nat} {t : Tr} (h : SumP T d t) {p : Nat} {ws : List Str} (ha : AtL T p (wordsT t ++ ws)) (hf : Fol fEnd ws) : ∃ q, AtL T q ws ∧ Sum T d p (.ok (t, q)) := by
  obtain ⟨q, h1, h2⟩ := h p ws ha (hf.mono fE_S)
  exact ⟨sk T q, hf.at_sk fE_A h1, h2 _ (.stop (hf.no h1 fE_A (by decide)) (hf.no h1 fE_A (by decide)))⟩
theorem wrapP {d : Nat} {t : Tr} (hd : d < 20) (h : SumP T (d + 1) t) : PlainP T d ((["("] : List Str) ++ wordsT t ++ ([")"] : List Str)) t := fun p ws ha hf => by
  rw [List.append_assoc, List.append_assoc] at ha
  obtain ⟨h1, h2⟩ := at_sign (w := "(") (c := 40) ha (by decide +kernel) (by decide +kernel)
  obtain ⟨q, h3, h4⟩ := h.ok (ws := ")" :: ws) h2 (.inr ⟨_, _, 41, rfl, by decide +kernel, by decide⟩)
  obtain ⟨h5, h6⟩ := at_sign (w := ")") (c := 41) h3 (by decide +kernel) (by decide +kernel)
  exact ⟨_, h6, .br h1 hd h4 h5⟩
theorem partsP {d l : Nat} {cl : Str} (ec : cl.cps.toList = [l]) (hl : l = 41 ∨ l = 93) : ∀ (ps : List Tr), (∀ t ∈ ps, SumP T d t) → ∀ (ts : List Tr) (q : Nat) (ws : List Str), AtL T q (wordsM ps ++ (cl :: ws)) → ∃ q', AtL T q' ws ∧ PartsL T l d ts q (.ok (ts ++ ps, q'))
  | [], _, ts, q, ws, ha => by
    unfold wordsM at ha
    obtain ⟨h1, h2⟩ := at_sign (c := l) ha ec (by rcases hl with rfl | rfl <;> decide +kernel)
    refine ⟨_, h2, ?_⟩
    rw [List.append_nil]
    exact .stop h1 (by rcases hl with rfl | rfl <;> decide)
  | t :: ps, h, ts, q, ws, ha => by
    unfold wordsM at ha
    rw [List.append_assoc, List.append_assoc] at ha
    obtain ⟨h1, h2⟩ := at_sign (w := ",") (c := 44) ha (by decide +kernel) (by decide +kernel)
    have hf : Fol fEnd (wordsM ps ++ (cl :: ws)) := by
      cases ps with
      | nil => exact .inr ⟨cl, ws, l, by unfold wordsM; rfl, ec, by rcases hl with rfl | rfl <;> decide⟩
      | cons u us => exact .inr ⟨",", _, 44, by rw [wordsM]; rfl, by decide +kernel, by decide⟩
    obtain ⟨q1, h3, h4⟩ := (h t List.mem_cons_self).ok h2 hf
    obtain ⟨q2, h5, h6⟩ := partsP ec hl ps (fun u hu => h u (List.mem_cons_of_mem _ hu)) (ts ++ [t]) q1 ws h3
    refine ⟨q2, h5, .more h1 h4 ?_⟩
    rw [List.append_assoc] at h6
    exact h6
theorem partsA {d l n : Nat} {cl : Str} (ec : cl.cps.toList = [l]) (hl : l = 41 ∨ l = 93) {ps : List Tr} (hok : ∀ t ∈ ps, OkT n t) (h : ∀ t ∈ ps, SumP T d t) {p : Nat} {ws : List Str} (ha : AtL T p (wordsL ps ++ (cl :: ws))) : ∃ q, AtL T q ws ∧ Parts T l d p (.ok (ps, q)) := by
  cases ps with
  | nil =>
    unfold wordsL at ha
    obtain ⟨h1, h2⟩ := at_sign (c := l) ha ec (by rcases hl with rfl | rfl <;> decide +kernel)
    exact ⟨_, h2, .nil h1⟩
  | cons t ps =>
    unfold wordsL at ha
    rw [List.append_assoc] at ha
    have hf : Fol fEnd (wordsM ps ++ (cl :: ws)) := by
      cases ps with
      | nil => exact .inr ⟨cl, ws, l, by unfold wordsM; rfl, ec, by rcases hl with rfl | rfl <;> decide⟩
      | cons u us => exact .inr ⟨",", _, 44, by rw [wordsM]; rfl, by decide +kernel, by decide⟩
    obtain ⟨w, r, c, x, e1, e2, hc, n1, n2⟩ := words_head (hok t List.mem_cons_self)
    have hs : sg T (sk T p) = some c := by
      have ha' := ha
      rw [e1] at ha'
      obtain ⟨l', h1, _⟩ := at_word ha' e2 hc
      exact sg_of h1
    obtain ⟨q1, h3, h4⟩ := (h t List.mem_cons_self).ok ha hf
    obtain ⟨q2, h5, h6⟩ := partsP ec hl ps (fun u hu => h u (List.mem_cons_of_mem _ hu)) [t] q1 ws h3
    refine ⟨q2, h5, .more (fun z => ?_) h4 h6⟩
    rw [hs] at z
    cases z
    rcases hl with e | e
    · exact n1 e
    · exact n2 e
theorem nameP {d : Nat} {s : Str} (h : lettersS s) : PlainP T d (wordsT (.name s)) (.name s) := fun p ws ha hf => by
  unfold wordsT at ha
  obtain ⟨c, x, e, h1, h2, h3, h4⟩ := let_head h
  obtain ⟨g1, g2, g3⟩ := at_run (f := inS "abcdefghijklmnopqrstuvwxyz") ha e h2 h.2.1 hf fA_let white_let
  have g4 := Plain.letters (d := d) g1 h1 (hf.no g3 (fun c h => h) (by decide))
  rw [g2] at g4
  exact ⟨_, hf.at_sk (fun c h => h) g3, g4⟩
theorem numP {d : Nat} {i : Int} (h0 : 0 ≤ i) (h1 : i < 100000000000) : PlainP T d (wordsT (.num i)) (.num i) := fun p ws ha hf => by
  unfold wordsT at ha
  obtain ⟨n, rfl, e2, c, x, e3, hc⟩ := num_head h0
  by_cases hz : n = 0
  · subst hz
    have e4 : TL.numL 0 = [48] := TL.numL_lt (by decide)
    obtain ⟨g1, g2⟩ := at_sign ha (e2.trans e4) (by decide +kernel)
    exact ⟨_, g2, .zero g1⟩
  · obtain ⟨c', x', e4, hn⟩ := numL_head n (by omega)
    rw [e3] at e4
    obtain ⟨rfl, rfl⟩ : c = c' ∧ x = x' := List.cons.inj e4
    have hl : (TL.numL n).length ≤ 11 := TL.numL_len (by decide) (by omega)
    obtain ⟨g1, g2, g3⟩ := at_run (f := inS "0123456789") ha (e2.trans e3) (not_white white_fig hc) (by rw [e2]; exact fun y hy => fig_in (TL.numL_digits n y hy)) hf fA_fig white_fig
    have g4 := Plain.figures (d := d) (n := (n : Int)) g1 hc hn (by rw [g2]; exact TL.int_num (Nat.le_trans hl (by decide))) (by rw [g2, len_cps, e2]; exact Nat.le_trans hl (by decide))
    exact ⟨_, g3, g4⟩
theorem callP {d n : Nat} {f : Str} {ps : List Tr} (h : lettersS f) (hd : d < 20) (hok : ∀ t ∈ ps, OkT n t) (hp : ∀ t ∈ ps, SumP T (d + 1) t) : PlainP T d (wordsT (.call f ps)) (.call f ps) := fun p ws ha hf => by
  unfold wordsT at ha
  rw [List.append_assoc, List.append_assoc] at ha
  obtain ⟨c, x, e, h1, h2, h3, h4⟩ := let_head h
  obtain ⟨g1, g2, g3⟩ := at_run (cs := [40]) (f := inS "abcdefghijklmnopqrstuvwxyz") ha e h2 h.2.1 (.inr ⟨"(", _, 40, rfl, by decide +kernel, by decide⟩) (by decide +kernel) white_let
  obtain ⟨g4, g5⟩ := at_sign (w := "(") (c := 40) g3 (by decide +kernel) (by decide +kernel)
  obtain ⟨q, g6, g7⟩ := partsA (l := 41) (cl := ")") (by decide +kernel) (.inl rfl) hok hp g5
  have g8 := Plain.call g1 h1 g4 hd g7
  rw [g2] at g8
  exact ⟨q, g6, g8⟩
theorem rowP {d n : Nat} {ps : List Tr} (hd : d < 20) (hok : ∀ t ∈ ps, OkT n t) (hp : ∀ t ∈ ps, SumP T (d + 1) t) : PlainP T d (wordsT (.row ps)) (.row ps) := fun p ws ha hf => by
  unfold wordsT at ha
  rw [List.append_assoc, List.append_assoc] at ha
  obtain ⟨g4, g5⟩ := at_sign (w := "[") (c := 91) ha (by decide +kernel) (by decide +kernel)
  obtain ⟨q, g6, g7⟩ := partsA (l := 93) (cl := "]") (by decide +kernel) (.inr rfl) hok hp g5
  exact ⟨q, g6, Plain.row g4 hd g7⟩
theorem kind_nin {t : Tr} {ks : List Str} (h : isIn ks t = false) : kindT t ∉ ks := of_decide_eq_false h
/-- every way at once -/
theorem readsP : ∀ (n : Nat) (t : Tr), OkT n t → ∀ d, d + n ≤ 19 →
    SumP T d t ∧ (kindT t ∉ (["+", "-"] : List Str) → ProdP T d (wordsT t) t) ∧ (kindT t ∉ (["+", "-", "*"] : List Str) → PlainP T d (wordsT t) t) := by
  have fromPlain : ∀ {d : Nat} {t : Tr}, PlainP T d (wordsT t) t → SumP T d t ∧ (kindT t ∉ (["+", "-"] : List Str) → ProdP T d (wordsT t) t) ∧ (kindT t ∉ (["+", "-", "*"] : List Str) → PlainP T d (wordsT t) t) :=
    fun h => ⟨h.prod.sum, fun _ => h.prod, fun _ => h⟩
  intro n
  induction n with
  | zero =>
    intro t ht d hd
    cases ht with
    | name h => exact fromPlain (nameP h)
    | num h0 h1 => exact fromPlain (numP h0 h1)
  | succ n ih =>
    intro t ht d hd
    cases ht with
    | name h => exact fromPlain (nameP h)
    | num h0 h1 => exact fromPlain (numP h0 h1)
    | call hf hl hp => exact fromPlain (callP hf (by omega) hp fun u hu => (ih u (hp u hu) (d + 1) (by omega)).1)
    | row hl hp => exact fromPlain (rowP (by omega) hp fun u hu => (ih u (hp u hu) (d + 1) (by omega)).1)
    | bin ho ha hb =>
      rename_i o a b
      have wa := ih a ha d (by omega)
      have wb := ih b hb d (by omega)
      have wa1 := ih a ha (d + 1) (by omega)
      have wb1 := ih b hb (d + 1) (by omega)
      have prodI : ∀ {u : Tr}, SumP T (d + 1) u → (kindT u ∉ (["+", "-"] : List Str) → ProdP T d (wordsT u) u) → ProdP T d (wrapT (isIn ["+", "-"] u) (wordsT u)) u := fun {u} h1 h2 => by
        cases e : isIn ["+", "-"] u with
        | true => exact (wrapP (by omega) h1).prod
        | false => exact h2 (kind_nin e)
      have plainI : ∀ {u : Tr}, SumP T (d + 1) u → (kindT u ∉ (["+", "-", "*"] : List Str) → PlainP T d (wordsT u) u) → PlainP T d (wrapT (isIn ["+", "-", "*"] u) (wordsT u)) u := fun {u} h1 h2 => by
        cases e : isIn ["+", "-", "*"] u with
        | true => exact wrapP (by omega) h1
        | false => exact h2 (kind_nin e)
      by_cases eo : o = "*"
      · subst eo
        have hP : ProdP T d (wordsT (.bin "*" a b)) (.bin "*" a b) := fun p ws ha' hf => by
          rw [words_bin, if_pos rfl, if_pos rfl, List.append_assoc, List.append_assoc] at ha'
          obtain ⟨q1, h1, h2⟩ := prodI wa1.1 wa.2.1 p _ ha' (.inr ⟨"*", _, 42, rfl, by decide +kernel, by decide⟩)
          obtain ⟨h3, h4⟩ := at_sign (w := "*") (c := 42) h1 (by decide +kernel) (by decide +kernel)
          obtain ⟨q2, h5, h6⟩ := plainI wb1.1 wb.2.2 _ ws h4 hf
          exact ⟨q2, h5, fun r hr => h2 r (.more h3 h6 hr)⟩
        exact ⟨hP.sum, fun _ => hP, fun z => absurd (show ("*" : Str) ∈ (["+", "-", "*"] : List Str) by decide +kernel) z⟩
      · have hc : ∃ c, o = ⟨#[c]⟩ ∧ (c = 43 ∨ c = 45) := by
          rcases List.mem_cons.mp ho with e | ho
          · exact ⟨43, e.trans (by decide +kernel), .inl rfl⟩
          · rcases List.mem_cons.mp ho with e | ho
            · exact ⟨45, e.trans (by decide +kernel), .inr rfl⟩
            · exact absurd (List.mem_singleton.mp ho) eo
        obtain ⟨c, rfl, hc⟩ := hc
        have hS : SumP T d (.bin ⟨#[c]⟩ a b) := fun p ws ha' hf => by
          rw [words_bin, if_neg eo, if_neg eo, List.append_assoc, List.append_assoc] at ha'
          have e0 : wrapT (isIn [] a) (wordsT a) = wordsT a := rfl
          rw [e0] at ha'
          have hcs : c ∈ fSum := by rcases hc with rfl | rfl <;> decide
          obtain ⟨q1, h1, h2⟩ := wa.1 p _ ha' (.inr ⟨⟨#[c]⟩, _, c, rfl, rfl, hcs⟩)
          obtain ⟨h3, h4⟩ := at_sign (w := ⟨#[c]⟩) (c := c) h1 rfl (sig_nw c (fS_A c hcs))
          obtain ⟨q2, h5, h6⟩ := (prodI wb1.1 wb.2.1).ok h4 hf
          exact ⟨q2, h5, fun r hr => h2 r (.more h3 hc h6 hr)⟩
        exact ⟨hS, fun z => absurd (show (⟨#[c]⟩ : Str) ∈ (["+", "-"] : List Str) by rcases hc with rfl | rfl <;> decide +kernel) z, fun z => absurd (show (⟨#[c]⟩ : Str) ∈ (["+", "-", "*"] : List Str) by rcases hc with rfl | rfl <;> decide +kernel) z⟩
/-- the whole text, perhaps in brackets -/
theorem reads_whole {n : Nat} {t : Tr} (h : OkT n t) (hn : n ≤ 18) (b : Bool) (ha : AtL T 0 (if b = true then (["("] : List Str) ++ wordsT t ++ ([")"] : List Str) else wordsT t)) : ∃ q, Sum T 0 0 (.ok (t, q)) ∧ sg T (sk T q) = none := by
  cases b with
  | false =>
    have ha' : AtL T 0 (wordsT t ++ []) := by rw [List.append_nil]; exact ha
    obtain ⟨q, h1, h2⟩ := (readsP n t h 0 (by omega)).1.ok ha' (.inl rfl)
    exact ⟨q, h2, sg_end h1⟩
  | true =>
    have ha' : AtL T 0 ((["("] : List Str) ++ wordsT t ++ ([")"] : List Str) ++ []) := by rw [List.append_nil]; exact ha
    obtain ⟨q, h1, h2⟩ := (wrapP (by omega) (readsP n t h 1 (by omega)).1).prod.ok ha' (.inl rfl)
    have hf : Fol fEnd [] := .inl rfl
    exact ⟨sk T q, .more h2 (.stop (hf.no h1 fE_A (by decide)) (hf.no h1 fE_A (by decide))), by rw [sk_idem]; exact sg_end h1⟩
end
end Q
namespace Q
open PySem PySem.Spec PyProof.Rows L2 Pw
/-! ### the law's text -/
def blankS (x : Int) : Str := (["", "", " ", "\n  "] : List Str).getD (x % 4).toNat ""
theorem blank_ok (x : Int) : whites (blankS x).cps.toList ∧ (blankS x).length ≤ 3 := by
  have h1 : 0 ≤ x % 4 := Int.emod_nonneg _ (by decide)
  have h2 : x % 4 < 4 := Int.emod_lt_of_pos _ (by decide)
  have : ∀ i, i < 4 → (∀ c ∈ ((["", "", " ", "\n  "] : List Str).getD i "").cps.toList, inS " \n" c = true) ∧ ((["", "", " ", "\n  "] : List Str).getD i "").length ≤ 3 := by decide +kernel
  exact this _ (by omega)
/-- the words from number j on, with their blanks -/
def catL (ns : List Int) : Nat → List Str → List Nat
  | _, [] => []
  | j, w :: ws => w.cps.toList ++ ((blankS (mixI ns (20 + (j : Nat)))).cps.toList ++ catL ns (j + 1) ws)
theorem lay_cat (ns : List Int) : ∀ (ws : List Str) (j : Nat) (b : List Nat), whites b → Lay (b ++ catL ns j ws) ws
  | [], _, b, h => by unfold catL; rw [List.append_nil]; exact .nil h
  | w :: ws, j, b, h => .cons h (lay_cat ns ws (j + 1) _ (blank_ok _).1)
theorem app_list (a b : Str) : (a ++ b).cps.toList = a.cps.toList ++ b.cps.toList := by
  show (a.cps ++ b.cps).toList = _
  rw [Array.toList_append]
theorem words_short : ∀ {n : Nat} {t : Tr}, OkT n t → ∀ w ∈ wordsT t, w.length ≤ 13
  | _, _, .name h => by unfold wordsT; intro w hw; rw [List.mem_singleton.mp hw]; exact h.2.2
  | _, _, .num h0 h1 => by
    unfold wordsT; intro w hw; rw [List.mem_singleton.mp hw]
    obtain ⟨n, rfl, e2, _⟩ := num_head h0
    rw [len_cps, e2]
    exact Nat.le_trans (TL.numL_len (k := 11) (by decide) (by omega)) (by decide)
  | _, _, .call (ps := ps) h hl hp => by
    have hL := wL ps fun t ht => words_short (hp t ht)
    unfold wordsT
    intro w hw
    rcases List.mem_append.mp hw with hw | hw
    · rcases List.mem_append.mp hw with hw | hw
      · rcases List.mem_cons.mp hw with rfl | hw
        · exact h.2.2
        · rw [List.mem_singleton.mp hw]; decide +kernel
      · exact hL w hw
    · rw [List.mem_singleton.mp hw]; decide +kernel
  | _, _, .row (ps := ps) hl hp => by
    have hL := wL ps fun t ht => words_short (hp t ht)
    unfold wordsT
    intro w hw
    rcases List.mem_append.mp hw with hw | hw
    · rcases List.mem_append.mp hw with hw | hw
      · rw [List.mem_singleton.mp hw]; decide +kernel
      · exact hL w hw
    · rw [List.mem_singleton.mp hw]; decide +kernel
  | _, _, .bin ho ha hb => by
    rw [words_bin]
    intro w hw
    rcases List.mem_append.mp hw with hw | hw
    · rcases List.mem_append.mp hw with hw | hw
      · exact wW _ (words_short ha) w hw
      · rw [List.mem_singleton.mp hw]
        exact (by decide +kernel : ∀ o ∈ (["+", "-", "*"] : List Str), o.length ≤ 13) _ ho
    · exact wW _ (words_short hb) w hw
where
  wM : ∀ ps : List Tr, (∀ t ∈ ps, ∀ w ∈ wordsT t, w.length ≤ 13) → ∀ w ∈ wordsM ps, w.length ≤ 13
    | [], _ => by unfold wordsM; exact fun w h => nomatch h
    | t :: ts, h => by
      unfold wordsM
      intro w hw
      rcases List.mem_append.mp hw with hw | hw
      · rcases List.mem_append.mp hw with hw | hw
        · rw [List.mem_singleton.mp hw]; decide +kernel
        · exact h t List.mem_cons_self w hw
      · exact wM ts (fun u hu => h u (List.mem_cons_of_mem _ hu)) w hw
  wL : ∀ ps : List Tr, (∀ t ∈ ps, ∀ w ∈ wordsT t, w.length ≤ 13) → ∀ w ∈ wordsL ps, w.length ≤ 13
    | [], _ => by unfold wordsL; exact fun w h => nomatch h
    | t :: ts, h => by
      unfold wordsL
      intro w hw
      rcases List.mem_append.mp hw with hw | hw
      · exact h t List.mem_cons_self w hw
      · exact wM ts (fun u hu => h u (List.mem_cons_of_mem _ hu)) w hw
  wW : ∀ (b : Bool) {l : List Str}, (∀ w ∈ l, w.length ≤ 13) → ∀ w ∈ wrapT b l, w.length ≤ 13
    | false, l, h => h
    | true, l, h => by
      intro w hw
      rcases List.mem_append.mp (show w ∈ (["("] : List Str) ++ l ++ ([")"] : List Str) from hw) with hw | hw
      · rcases List.mem_append.mp hw with hw | hw
        · rw [List.mem_singleton.mp hw]; decide +kernel
        · exact h w hw
      · rw [List.mem_singleton.mp hw]; decide +kernel
end Q
namespace Q
open PySem PySem.Spec PyProof.Rows L2 Pw
/-! ### the look sign by sign: what lies open (the innermost first), what is awaited -/
abbrev Stk := List (Nat × Bool)
def opnA (w nm : Bool) (c : Nat) : Bool := (decide (c = 40) && (w || nm)) || (decide (c = 91) && w)
def clsA (st : Stk) (w fr : Bool) (c : Nat) : Bool := match st with
  | [] => false
  | (x, _) :: _ => decide (c = x) && (!w || fr)
def prtA (st : Stk) : Bool := match st with
  | [] => false
  | (_, b) :: _ => b
def auStep (T : Str) (st : Stk) (w fr nm : Bool) (p c : Nat) : Option (Stk × Bool × Bool × Bool × Nat) :=
  if inS " \n" c = true then some (st, w, fr, nm, p + 1)
  else if (w && inS "abcdefghijklmnopqrstuvwxyz" c) = true then some (st, false, false, true, p + runN (inS "abcdefghijklmnopqrstuvwxyz") T.cps.toList p)
  else if (w && inS "0123456789" c) = true then some (st, false, false, false, p + (if c = 48 then 1 else runN (inS "0123456789") T.cps.toList p))
  else if (decide (st.length < 20) && opnA w nm c) = true then some (((if c = 40 then 41 else 93), decide (c = 91) || !w) :: st, true, decide (c = 91) || !w, false, p + 1)
  else if clsA st w fr c = true then some (st.tail, false, false, false, p + 1)
  else if (!w && (inS "+-*" c || (decide (c = 44) && prtA st))) = true then some (st, true, false, false, p + 1)
  else none
inductive Au (T : Str) : Stk → Bool → Bool → Bool → Nat → Option Nat → Prop
  | stop {st w fr nm p} (h : sg T p = none) : Au T st w fr nm p (if (w || !st.isEmpty) = true then some T.length else none)
  | bad {st w fr nm p c} (h : sg T p = some c) (e : auStep T st w fr nm p c = none) : Au T st w fr nm p (some p)
  | go {st w fr nm p c st' w' fr' nm' p' R} (h : sg T p = some c) (e : auStep T st w fr nm p c = some (st', w', fr', nm', p')) (r : Au T st' w' fr' nm' p' R) : Au T st w fr nm p R
theorem wh_cps : (" \n" : Str).cps.toList = [32, 10] := by decide +kernel
theorem fg_cps : ("0123456789" : Str).cps.toList = [48, 49, 50, 51, 52, 53, 54, 55, 56, 57] := by decide +kernel
theorem op_cps : ("+-*" : Str).cps.toList = [43, 45, 42] := by decide +kernel
theorem wh_no {f : Nat → Bool} (h : ∀ c ∈ [32, 10], f c = false) {c : Nat} (hc : f c = true) : inS " \n" c = false := by
  cases e : inS " \n" c with
  | false => rfl
  | true =>
    have h1 : c ∈ (" \n" : Str).cps.toList := of_decide_eq_true e
    rw [wh_cps] at h1
    rw [h c h1] at hc; cases hc
theorem let_wh {c : Nat} (hc : inS "abcdefghijklmnopqrstuvwxyz" c = true) : inS " \n" c = false := wh_no (by decide +kernel) hc
theorem fig_wh {c : Nat} (hc : inS "0123456789" c = true) : inS " \n" c = false := wh_no (by decide +kernel) hc
theorem op_no {c : Nat} (h1 : c ≠ 42) (h2 : c ≠ 43) (h3 : c ≠ 45) : inS "+-*" c = false := by
  cases e : inS "+-*" c with
  | false => rfl
  | true =>
    have h : c ∈ ("+-*" : Str).cps.toList := of_decide_eq_true e
    rw [op_cps] at h
    simp at h
    omega
section
variable {T : Str} {st : Stk} {w fr nm : Bool} {p c : Nat} {R : Option Nat}
theorem au_white (h : sg T p = some c) (hc : inS " \n" c = true) (r : Au T st w fr nm (p + 1) R) : Au T st w fr nm p R :=
  .go h (by unfold auStep; rw [if_pos hc]) r
theorem au_sk (r : Au T st w fr nm (sk T p) R) : Au T st w fr nm p R := by
  generalize e : T.length - p = n
  induction n generalizing p with
  | zero =>
    rw [sk_end (by omega)] at r; exact r
  | succ n ih =>
    cases hs : sg T p with
    | none => rw [sk_end (sg_none hs)] at r; exact r
    | some c =>
      cases hc : inS " \n" c with
      | false => rw [sk_no hs hc] at r; exact r
      | true => exact au_white hs hc (ih (by rw [← sk_yes hs hc]; exact r) (by omega))
theorem au_name (h : sg T p = some c) (hc : inS "abcdefghijklmnopqrstuvwxyz" c = true) (r : Au T st false false true (p + runN (inS "abcdefghijklmnopqrstuvwxyz") T.cps.toList p) R) : Au T st true fr nm p R :=
  .go h (by unfold auStep; rw [if_neg (by rw [let_wh hc]; exact Bool.false_ne_true), if_pos (by rw [hc]; rfl)]) r
theorem au_fig (h : sg T p = some c) (hc : inS "0123456789" c = true) (r : Au T st false false false (p + (if c = 48 then 1 else runN (inS "0123456789") T.cps.toList p)) R) : Au T st true fr nm p R :=
  .go h (by unfold auStep; rw [if_neg (by rw [fig_wh hc]; exact Bool.false_ne_true), if_neg (by rw [let_fig hc]; exact Bool.false_ne_true), if_pos (by rw [hc]; rfl)]) r
/-- a sign that is no blank, letter or figure -/
structure Sgn (c : Nat) : Prop where
  wh : inS " \n" c = false
  lt : inS "abcdefghijklmnopqrstuvwxyz" c = false
  fg : inS "0123456789" c = false
theorem sgn_all : ∀ c ∈ [40, 91, 41, 93, 42, 43, 44, 45], Sgn c := fun c hc =>
  ⟨(by decide +kernel : ∀ c ∈ [40, 91, 41, 93, 42, 43, 44, 45], inS " \n" c = false) c hc, (by decide +kernel : ∀ c ∈ [40, 91, 41, 93, 42, 43, 44, 45], inS "abcdefghijklmnopqrstuvwxyz" c = false) c hc, (by decide +kernel : ∀ c ∈ [40, 91, 41, 93, 42, 43, 44, 45], inS "0123456789" c = false) c hc⟩
theorem step_sgn (s : Sgn c) : auStep T st w fr nm p c = if (decide (st.length < 20) && opnA w nm c) = true then some (((if c = 40 then 41 else 93), decide (c = 91) || !w) :: st, true, decide (c = 91) || !w, false, p + 1)
  else if clsA st w fr c = true then some (st.tail, false, false, false, p + 1)
  else if (!w && (inS "+-*" c || (decide (c = 44) && prtA st))) = true then some (st, true, false, false, p + 1)
  else none := by
  unfold auStep
  rw [if_neg (by rw [s.wh]; exact Bool.false_ne_true), if_neg (by rw [s.lt, Bool.and_false]; exact Bool.false_ne_true), if_neg (by rw [s.fg, Bool.and_false]; exact Bool.false_ne_true)]
/-- while nothing is awaited letters and figures are like other signs -/
theorem step_w (hw : inS " \n" c = false) : auStep T st false fr nm p c = if (decide (st.length < 20) && opnA false nm c) = true then some (((if c = 40 then 41 else 93), decide (c = 91) || !false) :: st, true, decide (c = 91) || !false, false, p + 1)
  else if clsA st false fr c = true then some (st.tail, false, false, false, p + 1)
  else if (!false && (inS "+-*" c || (decide (c = 44) && prtA st))) = true then some (st, true, false, false, p + 1)
  else none := by
  unfold auStep
  rw [if_neg (by rw [hw]; exact Bool.false_ne_true), if_neg (by rw [Bool.false_and]; exact Bool.false_ne_true), if_neg (by rw [Bool.false_and]; exact Bool.false_ne_true)]
theorem opn_no (h1 : c ≠ 40) (h2 : c ≠ 91) : opnA w nm c = false := by
  unfold opnA
  rw [decide_eq_false h1, decide_eq_false h2]; rfl
theorem opn_w (h : nm = true → c ≠ 40) : opnA false nm c = false := by
  unfold opnA
  cases nm with
  | false => simp
  | true => rw [decide_eq_false (h rfl)]; simp
theorem au_open (h : sg T p = some c) (hc : c = 40 ∧ (w || nm) = true ∨ c = 91 ∧ w = true) (hl : st.length < 20) (r : Au T (((if c = 40 then 41 else 93), decide (c = 91) || !w) :: st) true (decide (c = 91) || !w) false (p + 1) R) : Au T st w fr nm p R := by
  refine .go h ?_ r
  have s : Sgn c := by
    rcases hc with ⟨rfl, _⟩ | ⟨rfl, _⟩
    · exact sgn_all _ (by decide)
    · exact sgn_all _ (by decide)
  rw [step_sgn s]
  refine if_pos ?_
  rw [decide_eq_true hl]
  unfold opnA
  rcases hc with ⟨rfl, e⟩ | ⟨rfl, e⟩
  · rw [e]; rfl
  · rw [e]; simp
theorem au_cls {b : Bool} (h : sg T p = some c) (hc : c = 41 ∨ c = 93) (hw : w = false ∨ fr = true) (r : Au T st false false false (p + 1) R) : Au T ((c, b) :: st) w fr nm p R := by
  refine .go h ?_ r
  have s : Sgn c := by rcases hc with rfl | rfl <;> exact sgn_all _ (by decide)
  rw [step_sgn s, opn_no (by omega) (by omega), Bool.and_false, if_neg Bool.false_ne_true]
  refine if_pos ?_
  show (decide (c = c) && (!w || fr)) = true
  rw [decide_eq_true rfl]
  rcases hw with rfl | rfl <;> simp
theorem cls_no {x : Nat} {b : Bool} (h : c ≠ x) : clsA ((x, b) :: st) w fr c = false := by
  show (decide (c = x) && (!w || fr)) = false
  rw [decide_eq_false h]; rfl
/-- an operator, or a comma among parts -/
theorem au_opr (h : sg T p = some c) (hc : c = 42 ∨ c = 43 ∨ c = 45 ∨ (c = 44 ∧ prtA st = true)) (hcl : ∀ x b st', st = (x, b) :: st' → x = 41 ∨ x = 93) (r : Au T st true false false (p + 1) R) : Au T st false fr nm p R := by
  refine .go h ?_ r
  have s : Sgn c := by rcases hc with rfl | rfl | rfl | ⟨rfl, _⟩ <;> exact sgn_all _ (by decide)
  have hn : clsA st false fr c = false := by
    cases st with
    | nil => rfl
    | cons a st =>
      obtain ⟨x, b⟩ := a
      have := hcl x b st rfl
      exact cls_no (by omega)
  rw [step_sgn s, opn_no (by omega) (by omega), Bool.and_false, if_neg Bool.false_ne_true, hn, if_neg Bool.false_ne_true]
  refine if_pos ?_
  rcases hc with rfl | rfl | rfl | ⟨rfl, e⟩
  · rw [show inS "+-*" 42 = true by decide +kernel]; rfl
  · rw [show inS "+-*" 43 = true by decide +kernel]; rfl
  · rw [show inS "+-*" 45 = true by decide +kernel]; rfl
  · rw [e]; simp
/-- a name behind which no ( comes is like a number -/
theorem au_nm (hw : ∀ c, sg T p = some c → inS " \n" c = false) (hn : sg T p ≠ some 40) (r : Au T st false false false p R) : Au T st false false true p R := by
  have e : ∀ c, sg T p = some c → auStep T st false false true p c = auStep T st false false false p c := fun c h => by
    have e1 : opnA false true c = opnA false false c := by rw [opn_w (fun _ z => hn (by rw [h, z])), opn_w (fun z => absurd z Bool.false_ne_true)]
    rw [step_w (hw c h), step_w (hw c h), e1]
  cases r with
  | stop h => exact .stop h
  | bad h e1 => exact .bad h (by rw [e _ h]; exact e1)
  | go h e1 r => exact .go h (by rw [e _ h]; exact e1) r
end
end Q
namespace Q
open PySem PySem.Spec PyProof.Rows L2 Pw
/-! ### the look agrees with the reading -/
def Kt {α : Type} (T : Str) (st : Stk) : Res α → Option Nat → Prop
  | .ok (_, q), R => Au T st false false false q R
  | .error q, R => R = some q
theorem kt_map {α β : Type} {T : Str} {st : Stk} {r : Res α} {f : α → β} {R : Option Nat} (h : Kt T st (r.map fun x => (f x.1, x.2)) R) : Kt T st r R := by
  cases r with
  | ok x => exact h
  | error q => exact h
def Gd (T : Str) (st : Stk) (fr : Bool) (p : Nat) : Prop := fr = true → ∀ x b st', st = (x, b) :: st' → sg T (sk T p) ≠ some x
def Tops (st : Stk) : Prop := ∀ x b st', st = (x, b) :: st' → x = 41 ∨ x = 93
/-- no operator comes -/
def Nx (T : Str) (p : Nat) : Prop := ∀ c, sg T (sk T p) = some c → c ≠ 42 ∧ c ≠ 43 ∧ c ≠ 45
theorem gd_no {T : Str} {st : Stk} {p : Nat} : Gd T st false p := fun z => nomatch z
theorem tops_cons {st : Stk} {x : Nat} {b : Bool} (h : x = 41 ∨ x = 93) : Tops ((x, b) :: st) := fun y c st' e => by cases e; exact h
theorem nx_sk {T : Str} {p : Nat} (h : Nx T (sk T p)) : Nx T p := fun c hc => h c (by rw [sk_idem]; exact hc)
/-- behind an operand that is followed by no * -/
theorem prodL_end {T : Str} {d p : Nat} {t u : Tr} {q : Nat} : ∀ {r : Res Tr}, ProdL T d t p r → r = .ok (u, q) → sg T (sk T q) ≠ some 42
  | _, .stop h, e => by cases e; rw [sk_idem]; exact h
  | _, .bad _ _, e => nomatch e
  | _, .more _ _ hr, e => prodL_end hr e
theorem prod_end {T : Str} {d p : Nat} {u : Tr} {q : Nat} {r : Res Tr} (h : Prod T d p r) (e : r = .ok (u, q)) : sg T (sk T q) ≠ some 42 := by
  cases h with
  | bad _ => exact nomatch e
  | more _ hr => exact prodL_end hr e
theorem sumL_end {T : Str} {d p : Nat} {t u : Tr} {q : Nat} : ∀ {r : Res Tr}, SumL T d t p r → sg T (sk T p) ≠ some 42 → r = .ok (u, q) → Nx T q
  | _, .stop h1 h2, h0, e => by
    cases e
    exact nx_sk fun c hc => by
      rw [sk_idem, sk_idem] at hc
      refine ⟨fun z => h0 (z ▸ hc), fun z => h1 (z ▸ hc), fun z => h2 (z ▸ hc)⟩
  | _, .bad _ _ _, _, e => nomatch e
  | _, .more _ _ hp hr, _, e => sumL_end hr (prod_end hp rfl) e
theorem sum_end {T : Str} {d p : Nat} {u : Tr} {q : Nat} {r : Res Tr} (h : Sum T d p r) (e : r = .ok (u, q)) : Nx T q := by
  cases h with
  | bad _ => exact nomatch e
  | more hp hr => exact sumL_end hr (prod_end hp rfl) e
/-- the place where nothing can stand -/
theorem au_none {T : Str} {st : Stk} {w fr : Bool} {p : Nat} (hp : p ≤ T.length) (hs : w = true ∨ st ≠ []) (h : ∀ c, sg T (sk T p) = some c → auStep T st w fr false (sk T p) c = none) : Au T st w fr false p (some (sk T p)) := by
  refine au_sk ?_
  cases e : sg T (sk T p) with
  | none =>
    have h1 := sg_none e
    have h2 := sk_le hp
    have e2 : some (sk T p) = (if (w || !st.isEmpty) = true then some T.length else none) := by
      rw [if_pos ?_, show sk T p = T.length by omega]
      rcases hs with rfl | hs
      · rfl
      · cases st with
        | nil => exact absurd rfl hs
        | cons a st => simp
    rw [e2]
    exact .stop e
  | some c => exact .bad e (h c e)
theorem step_bad {T : Str} {st : Stk} {w fr : Bool} {p c : Nat} (hw : inS " \n" c = false) (h0 : w = true → inS "abcdefghijklmnopqrstuvwxyz" c = false ∧ inS "0123456789" c = false) (h1 : (decide (st.length < 20) && opnA w false c) = false) (h2 : clsA st w fr c = false) (h3 : w = false → inS "+-*" c = false ∧ (c = 44 → prtA st = false)) : auStep T st w fr false p c = none := by
  unfold auStep
  rw [if_neg (by rw [hw]; exact Bool.false_ne_true)]
  rw [if_neg (by cases w with
    | false => exact Bool.false_ne_true
    | true => rw [(h0 rfl).1]; exact Bool.false_ne_true)]
  rw [if_neg (by cases w with
    | false => exact Bool.false_ne_true
    | true => rw [(h0 rfl).2]; exact Bool.false_ne_true)]
  rw [if_neg (by rw [h1]; exact Bool.false_ne_true), if_neg (by rw [h2]; exact Bool.false_ne_true)]
  refine if_neg ?_
  cases w with
  | true => exact Bool.false_ne_true
  | false =>
    obtain ⟨a, b⟩ := h3 rfl
    rw [a]
    by_cases z : c = 44
    · rw [b z]; simp
    · rw [decide_eq_false z]; exact Bool.false_ne_true
theorem sgn_of {T : Str} {p c x : Nat} (h : sg T (sk T p) = some c) (hx : sg T (sk T p) = some x) : c = x := by rw [h] at hx; exact Option.some.inj hx
theorem opn_f {c : Nat} : opnA false false c = false := opn_w fun z => absurd z Bool.false_ne_true
theorem cls_tops {st : Stk} {w fr : Bool} {c : Nat} (ht : Tops st) (h1 : c ≠ 41) (h2 : c ≠ 93) : clsA st w fr c = false := by
  cases st with
  | nil => rfl
  | cons a st =>
    obtain ⟨x, b⟩ := a
    have := ht x b st rfl
    exact cls_no (by omega)
mutual
theorem plain_au {T : Str} {d p : Nat} {r : Res Tr} {st : Stk} {fr : Bool} {R : Option Nat} : Plain T d p r → p ≤ T.length → st.length = d → Tops st → Gd T st fr p → Kt T st r R → Au T st true fr false p R
  | .letters h hc hn, _, _, _, _, k => au_sk (au_name h hc (au_sk (au_nm (sk_stop T _) hn k)))
  | .callDeep h hc hn, hp, hl, ht, _, k => by
    have e : R = some _ := k
    subst e
    refine au_sk (au_name h hc (au_sk (.bad hn ?_)))
    rw [step_w (by decide +kernel), hl]
    rw [if_neg (by rw [decide_eq_false (by omega)]; exact Bool.false_ne_true), if_neg (by rw [cls_tops ht (by decide) (by decide)]; exact Bool.false_ne_true)]
    refine if_neg ?_
    rw [show inS "+-*" 40 = false by decide +kernel]
    exact Bool.false_ne_true
  | .call h hc hn hd hp', hp, hl, ht, _, k => by
    refine au_sk (au_name h hc (au_sk (au_open hn (.inl ⟨rfl, rfl⟩) (by omega) ?_)))
    exact parts_au hp' (sg_succ hn) (.inl rfl) (by omega) (kt_map k)
  | .zero h, _, _, _, _, k => au_sk (au_fig h (by decide +kernel) (by rw [if_pos rfl]; exact k))
  | .figures h hc h0 _ _, _, _, _, _, k => au_sk (au_fig h hc (by rw [if_neg h0]; exact k))
  | .rowDeep h, hp, hl, ht, hg, k => by
    have e : R = some _ := k
    subst e
    refine au_none hp (.inl rfl) fun c hc => ?_
    obtain rfl := sgn_of hc h
    exact step_bad (by decide +kernel) (fun _ => ⟨by decide +kernel, by decide +kernel⟩) (by rw [hl]; rfl) (cls_tops ht (by decide) (by decide)) (fun z => nomatch z)
  | .row h hd hp', hp, hl, ht, _, k => by
    refine au_sk (au_open h (.inr ⟨rfl, rfl⟩) (by omega) ?_)
    exact parts_au hp' (sg_succ h) (.inr rfl) (by omega) (kt_map k)
  | .brDeep h, hp, hl, ht, hg, k => by
    have e : R = some _ := k
    subst e
    refine au_none hp (.inl rfl) fun c hc => ?_
    obtain rfl := sgn_of hc h
    exact step_bad (by decide +kernel) (fun _ => ⟨by decide +kernel, by decide +kernel⟩) (by rw [hl]; rfl) (cls_tops ht (by decide) (by decide)) (fun z => nomatch z)
  | .brBad h hd hp', hp, hl, ht, _, k => by
    refine au_sk (au_open h (.inl ⟨rfl, rfl⟩) (by omega) ?_)
    exact sum_au hp' (sg_succ h) (by rw [List.length_cons]; omega) (tops_cons (.inl rfl)) gd_no k
  | .brOpen (q := q) h hd hp' hq, hp, hl, ht, _, k => by
    have e : R = some _ := k
    subst e
    have hn := sum_end hp' rfl
    refine au_sk (au_open h (.inl ⟨rfl, rfl⟩) (by omega) ?_)
    refine sum_au hp' (sg_succ h) (by rw [List.length_cons]; omega) (tops_cons (.inl rfl)) gd_no ?_
    refine au_none (sum_le hp') (.inr (fun z => nomatch z)) fun c hc => ?_
    obtain ⟨n1, n2, n3⟩ := hn c hc
    exact step_bad (sk_stop T _ c hc) (fun z => nomatch z) (by rw [opn_f, Bool.and_false]) (cls_no fun z => hq (by have z : c = 41 := z; rw [← z]; exact hc)) fun _ => ⟨op_no n1 n2 n3, fun _ => rfl⟩
  | .br (q := q) h hd hp' hq, hp, hl, ht, _, k => by
    refine au_sk (au_open h (.inl ⟨rfl, rfl⟩) (by omega) ?_)
    refine sum_au hp' (sg_succ h) (by rw [List.length_cons]; omega) (tops_cons (.inl rfl)) gd_no ?_
    exact au_sk (au_cls hq (.inl rfl) (.inl rfl) k)
  | .none h, hp, hl, ht, hg, k => by
    have e : R = some _ := k
    subst e
    refine au_none hp (.inl rfl) fun c hc => ?_
    obtain ⟨h1, h2, h3, h4⟩ := h c hc
    refine step_bad (sk_stop T _ c hc) (fun _ => ⟨h1, h2⟩) (by rw [opn_no h4 h3, Bool.and_false]) ?_ (fun z => nomatch z)
    cases st with
    | nil => rfl
    | cons a st =>
      obtain ⟨x, b⟩ := a
      cases fr with
      | false => show (decide (c = x) && (!true || false)) = false; simp
      | true => exact cls_no fun z => hg rfl x b st rfl (z ▸ hc)
theorem prodL_au {T : Str} {d p : Nat} {t : Tr} {r : Res Tr} {st : Stk} {R : Option Nat} : ProdL T d t p r → p ≤ T.length → st.length = d → Tops st → Kt T st r R → Au T st false false false p R
  | .stop h, _, _, _, k => au_sk k
  | .bad h hp', _, hl, ht, k => au_sk (au_opr h (.inl rfl) ht (plain_au hp' (sg_succ h) hl ht gd_no k))
  | .more h hp' hr, _, hl, ht, k => au_sk (au_opr h (.inl rfl) ht (plain_au hp' (sg_succ h) hl ht gd_no (prodL_au hr (plain_le hp') hl ht k)))
theorem prod_au {T : Str} {d p : Nat} {r : Res Tr} {st : Stk} {fr : Bool} {R : Option Nat} : Prod T d p r → p ≤ T.length → st.length = d → Tops st → Gd T st fr p → Kt T st r R → Au T st true fr false p R
  | .bad h, hp, hl, ht, hg, k => plain_au h hp hl ht hg k
  | .more h hr, hp, hl, ht, hg, k => plain_au h hp hl ht hg (prodL_au hr (plain_le h) hl ht k)
theorem sumL_au {T : Str} {d p : Nat} {t : Tr} {r : Res Tr} {st : Stk} {R : Option Nat} : SumL T d t p r → p ≤ T.length → st.length = d → Tops st → Kt T st r R → Au T st false false false p R
  | .stop _ _, _, _, _, k => au_sk k
  | .bad h hc hp', _, hl, ht, k => au_sk (au_opr h (.inr (hc.imp id .inl)) ht (prod_au hp' (sg_succ h) hl ht gd_no k))
  | .more h hc hp' hr, _, hl, ht, k => au_sk (au_opr h (.inr (hc.imp id .inl)) ht (prod_au hp' (sg_succ h) hl ht gd_no (sumL_au hr (prod_le hp') hl ht k)))
theorem sum_au {T : Str} {d p : Nat} {r : Res Tr} {st : Stk} {fr : Bool} {R : Option Nat} : Sum T d p r → p ≤ T.length → st.length = d → Tops st → Gd T st fr p → Kt T st r R → Au T st true fr false p R
  | .bad h, hp, hl, ht, hg, k => prod_au h hp hl ht hg k
  | .more h hr, hp, hl, ht, hg, k => prod_au h hp hl ht hg (sumL_au hr (prod_le h) hl ht k)
theorem partsL_au {T : Str} {l d p : Nat} {ts : List Tr} {r : Res (List Tr)} {st : Stk} {R : Option Nat} : PartsL T l d ts p r → p ≤ T.length → (l = 41 ∨ l = 93) → st.length + 1 = d → Nx T p → Kt T st r R → Au T ((l, true) :: st) false false false p R
  | .stop h _, _, h4, _, _, k => au_sk (au_cls h h4 (.inl rfl) k)
  | .bad h hl, hp, h4, _, hn, k => by
    have e : R = some _ := k
    subst e
    refine au_none hp (.inr (fun z => nomatch z)) fun c hc => ?_
    obtain ⟨n1, n2, n3⟩ := hn c hc
    exact step_bad (sk_stop T _ c hc) (fun z => nomatch z) (by rw [opn_f, Bool.and_false]) (cls_no fun z => h (z ▸ hc)) fun _ => ⟨op_no n1 n2 n3, fun z => absurd (z ▸ hc) hl⟩
  | .badS h hp', _, h4, hl, _, k => au_sk (au_opr h (.inr (.inr (.inr ⟨rfl, rfl⟩))) (tops_cons h4) (sum_au hp' (sg_succ h) (by rw [List.length_cons]; exact hl) (tops_cons h4) gd_no k))
  | .more h hp' hr, _, h4, hl, _, k => au_sk (au_opr h (.inr (.inr (.inr ⟨rfl, rfl⟩))) (tops_cons h4) (sum_au hp' (sg_succ h) (by rw [List.length_cons]; exact hl) (tops_cons h4) gd_no (partsL_au hr (sum_le hp') h4 hl (sum_end hp' rfl) k)))
theorem parts_au {T : Str} {l d p : Nat} {r : Res (List Tr)} {st : Stk} {R : Option Nat} : Parts T l d p r → p ≤ T.length → (l = 41 ∨ l = 93) → st.length + 1 = d → Kt T st r R → Au T ((l, true) :: st) true true false p R
  | .nil h, _, h4, _, k => au_sk (au_cls h h4 (.inr rfl) k)
  | .bad h hp', hp, h4, hl, k => sum_au hp' hp (by rw [List.length_cons]; exact hl) (tops_cons h4) (fun _ x b st' e => by cases e; exact h) k
  | .more h hp' hr, hp, h4, hl, k => sum_au hp' hp (by rw [List.length_cons]; exact hl) (tops_cons h4) (fun _ x b st' e => by cases e; exact h) (partsL_au hr (sum_le hp') h4 hl (sum_end hp' rfl) k)
end
/-- the wrong place of a text, or none -/
def endW (T : Str) : Res Tr → Option Nat
  | .ok (_, q) => if sg T (sk T q) = none then none else some (sk T q)
  | .error q => some q
theorem read_au {T : Str} {r : Res Tr} (h : Sum T 0 0 r) : Au T [] true false false 0 (endW T r) := by
  refine sum_au h (Nat.zero_le _) rfl (fun x b st' e => nomatch e) gd_no ?_
  cases r with
  | error q => rfl
  | ok x =>
    obtain ⟨t, q⟩ := x
    show Au T [] false false false q (if sg T (sk T q) = none then none else some (sk T q))
    refine au_sk ?_
    cases e : sg T (sk T q) with
    | none =>
      rw [if_pos rfl]
      exact .stop e
    | some c =>
      rw [if_neg (fun z => nomatch z)]
      obtain ⟨n1, n2, n3⟩ := sum_end h rfl c e
      exact .bad e (step_bad (sk_stop T _ c e) (fun z => nomatch z) (by rw [opn_f, Bool.and_false]) rfl fun _ => ⟨op_no n1 n2 n3, fun _ => rfl⟩)
end Q
namespace Q
open PySem PySem.Spec PyProof.Rows L2 Pw
/-! ### every text is read somehow -/
theorem sub_cps (T : Str) (p n : Nat) : (subS T p (p + n)).cps.toList = (T.cps.toList.drop p).take n := by
  show ((T.cps.toList.drop p).take (p + n - p)).toArray.toList = _
  rw [Nat.add_sub_cancel_left]
theorem take_tw (f : Nat → Bool) : ∀ l : List Nat, l.take (l.takeWhile f).length = l.takeWhile f
  | [] => rfl
  | a :: l => by
    rw [List.takeWhile_cons]
    split
    · rw [List.length_cons, List.take_succ_cons, take_tw f l]
    · rfl
theorem mem_tw {f : Nat → Bool} : ∀ {l : List Nat} {c : Nat}, c ∈ l.takeWhile f → f c = true
  | [], _, h => nomatch h
  | a :: l, c, h => by
    rw [List.takeWhile_cons] at h
    cases e : f a with
    | false => rw [e] at h; exact nomatch h
    | true =>
      rw [e, if_pos rfl] at h
      rcases List.mem_cons.mp h with rfl | h
      · exact e
      · exact mem_tw h
theorem fig_num {T : Str} {p c : Nat} (hT : T.length ≤ 640) (h : sg T p = some c) (hc : inS "0123456789" c = true) : (∃ n, PySem.intText? (subS T p (p + runN (inS "0123456789") T.cps.toList p)) = some n) ∧ (subS T p (p + runN (inS "0123456789") T.cps.toList p)).length ≤ 640 := by
  have e : (subS T p (p + runN (inS "0123456789") T.cps.toList p)).cps.toList = (T.cps.toList.drop p).takeWhile (inS "0123456789") := by
    rw [sub_cps]
    exact take_tw _ _
  have hl : (subS T p (p + runN (inS "0123456789") T.cps.toList p)).length ≤ 640 := by
    rw [len_cps, e]
    refine Nat.le_trans (tw_le _ _) ?_
    rw [List.length_drop, ← len_cps]
    omega
  refine ⟨⟨_, PySem.intText_digits (fun c hc => ?_) (fun z => ?_) (Nat.le_trans hl (by decide))⟩, hl⟩
  · rw [e] at hc
    have h1 : c ∈ ("0123456789" : Str).cps.toList := of_decide_eq_true (mem_tw hc)
    rw [fg_cps] at h1
    simp at h1
    omega
  · have h1 := run_pos (f := inS "0123456789") h hc
    rw [e] at z
    unfold runN at h1
    rw [z] at h1
    exact absurd h1 (by decide)
theorem tot {T : Str} (hT : T.length ≤ 640) : ∀ (n p : Nat), T.length - p = n → ∀ d, d ≤ 20 → (∃ r, Plain T d p r) ∧ (∃ r, Prod T d p r) ∧ (∃ r, Sum T d p r) ∧ (∀ l, l ≠ 44 → ∃ r, Parts T l d p r) ∧ (∀ t, ∃ r, ProdL T d t p r) ∧ (∀ t, ∃ r, SumL T d t p r) ∧ (∀ l ts, l ≠ 44 → ∃ r, PartsL T l d ts p r) := by
  intro n
  induction n using Nat.strongRecOn with
  | _ n ih =>
    intro p hn d hd
    -- at a later place
    have up := fun (p' : Nat) (h1 : p < p') (h2 : p' ≤ T.length) (d : Nat) (hd : d ≤ 20) => ih (T.length - p') (by omega) p' rfl d hd
    have hsk := le_sk T p
    have sgp : ∀ {c q : Nat}, sg T q = some c → p ≤ q → p < q + 1 ∧ q + 1 ≤ T.length := fun h h2 => ⟨by omega, sg_succ h⟩
    have plain : ∃ r, Plain T d p r := by
      cases e : sg T (sk T p) with
      | none => exact ⟨_, .none fun c hc => by rw [e] at hc; cases hc⟩
      | some c =>
        cases e1 : inS "abcdefghijklmnopqrstuvwxyz" c with
        | true =>
          by_cases hn : sg T (sk T (sk T p + runN (inS "abcdefghijklmnopqrstuvwxyz") T.cps.toList (sk T p))) = some 40
          · by_cases h20 : d = 20
            · subst h20; exact ⟨_, .callDeep e e1 hn⟩
            · have h3 := le_sk T (sk T p + runN (inS "abcdefghijklmnopqrstuvwxyz") T.cps.toList (sk T p))
              obtain ⟨a, b⟩ := sgp hn (by omega)
              obtain ⟨r, hr⟩ := (up _ a b (d + 1) (by omega)).2.2.2.1 41 (by decide)
              exact ⟨_, .call e e1 hn (by omega) hr⟩
          · exact ⟨_, .letters e e1 hn⟩
        | false =>
          cases e2 : inS "0123456789" c with
          | true =>
            by_cases h0 : c = 48
            · subst h0; exact ⟨_, .zero e⟩
            · obtain ⟨⟨n, hn⟩, hl⟩ := fig_num hT e e2
              exact ⟨_, .figures e e2 h0 hn hl⟩
          | false =>
            obtain ⟨a, b⟩ := sgp e hsk
            by_cases h91 : c = 91
            · subst h91
              by_cases h20 : d = 20
              · subst h20; exact ⟨_, .rowDeep e⟩
              · obtain ⟨r, hr⟩ := (up _ a b (d + 1) (by omega)).2.2.2.1 93 (by decide)
                exact ⟨_, .row e (by omega) hr⟩
            · by_cases h40 : c = 40
              · subst h40
                by_cases h20 : d = 20
                · subst h20; exact ⟨_, .brDeep e⟩
                · obtain ⟨r, hr⟩ := (up _ a b (d + 1) (by omega)).2.2.1
                  cases r with
                  | error q => exact ⟨_, .brBad e (by omega) hr⟩
                  | ok x =>
                    obtain ⟨t, q⟩ := x
                    by_cases hq : sg T (sk T q) = some 41
                    · exact ⟨_, .br e (by omega) hr hq⟩
                    · exact ⟨_, .brOpen e (by omega) hr hq⟩
              · exact ⟨_, .none fun c' hc => by rw [e] at hc; cases hc; exact ⟨e1, e2, h91, h40⟩⟩
    have prodL : ∀ t, ∃ r, ProdL T d t p r := fun t => by
      by_cases h : sg T (sk T p) = some 42
      · obtain ⟨a, b⟩ := sgp h hsk
        obtain ⟨r, hr⟩ := (up _ a b d hd).1
        cases r with
        | error q => exact ⟨_, .bad h hr⟩
        | ok x =>
          obtain ⟨u, q⟩ := x
          have hq : q ≤ T.length := plain_le hr
          have hlt : sk T p + 1 < q := plain_lt hr
          obtain ⟨r2, hr2⟩ := (up q (by omega) hq d hd).2.2.2.2.1 (.bin "*" t u)
          exact ⟨_, .more h hr hr2⟩
      · exact ⟨_, .stop h⟩
    have prod : ∃ r, Prod T d p r := by
      obtain ⟨r, hr⟩ := plain
      cases r with
      | error q => exact ⟨_, .bad hr⟩
      | ok x =>
        obtain ⟨u, q⟩ := x
        have hq : q ≤ T.length := plain_le hr
        have hlt : p < q := plain_lt hr
        obtain ⟨r2, hr2⟩ := (up q hlt hq d hd).2.2.2.2.1 u
        exact ⟨_, .more hr hr2⟩
    have sumL : ∀ t, ∃ r, SumL T d t p r := fun t => by
      cases e : sg T (sk T p) with
      | none => exact ⟨_, .stop (by rw [e]; exact fun z => nomatch z) (by rw [e]; exact fun z => nomatch z)⟩
      | some c =>
        by_cases hc : c = 43 ∨ c = 45
        · obtain ⟨a, b⟩ := sgp e hsk
          obtain ⟨r, hr⟩ := (up _ a b d hd).2.1
          cases r with
          | error q => exact ⟨_, .bad e hc hr⟩
          | ok x =>
            obtain ⟨u, q⟩ := x
            have hq : q ≤ T.length := prod_le hr
            have hlt : sk T p + 1 < q := prod_lt hr
            obtain ⟨r2, hr2⟩ := (up q (by omega) hq d hd).2.2.2.2.2.1 (.bin ⟨#[c]⟩ t u)
            exact ⟨_, .more e hc hr hr2⟩
        · exact ⟨_, .stop (by rw [e]; exact fun z => hc (.inl (Option.some.inj z))) (by rw [e]; exact fun z => hc (.inr (Option.some.inj z)))⟩
    have sum : ∃ r, Sum T d p r := by
      obtain ⟨r, hr⟩ := prod
      cases r with
      | error q => exact ⟨_, .bad hr⟩
      | ok x =>
        obtain ⟨u, q⟩ := x
        have hq : q ≤ T.length := prod_le hr
        have hlt : p < q := prod_lt hr
        obtain ⟨r2, hr2⟩ := (up q hlt hq d hd).2.2.2.2.2.1 u
        exact ⟨_, .more hr hr2⟩
    have partsL : ∀ l ts, l ≠ 44 → ∃ r, PartsL T l d ts p r := fun l ts hl => by
      by_cases h44 : sg T (sk T p) = some 44
      · obtain ⟨a, b⟩ := sgp h44 hsk
        obtain ⟨r, hr⟩ := (up _ a b d hd).2.2.1
        cases r with
        | error q => exact ⟨_, .badS h44 hr⟩
        | ok x =>
          obtain ⟨u, q⟩ := x
          have hq : q ≤ T.length := sum_le hr
          have hlt : sk T p + 1 < q := sum_lt hr
          obtain ⟨r2, hr2⟩ := (up q (by omega) hq d hd).2.2.2.2.2.2 l (ts ++ [u]) hl
          exact ⟨_, .more h44 hr hr2⟩
      · by_cases h : sg T (sk T p) = some l
        · exact ⟨_, .stop h hl⟩
        · exact ⟨_, .bad h h44⟩
    refine ⟨plain, prod, sum, fun l hl => ?_, prodL, sumL, partsL⟩
    by_cases h : sg T (sk T p) = some l
    · exact ⟨_, .nil h⟩
    · obtain ⟨r, hr⟩ := sum
      cases r with
      | error q => exact ⟨_, .bad h hr⟩
      | ok x =>
        obtain ⟨u, q⟩ := x
        have hq : q ≤ T.length := sum_le hr
        have hlt : p < q := sum_lt hr
        obtain ⟨r2, hr2⟩ := (up q hlt hq d hd).2.2.2.2.2.2 l [u] hl
        exact ⟨_, .more h hr hr2⟩
theorem read_tot {T : Str} (hT : T.length ≤ 640) : ∃ r, Sum T 0 0 r := (tot hT _ 0 rfl 0 (by decide)).2.2.1
end Q
namespace Q
open PySem PySem.Spec PyProof.Rows L2 Pw
def RLRun (ds : List PyData) (out : Out) : Prop := ∃ T p z, p ≤ T.length ∧ T.length ≤ 100000 ∧ ds = [.str T, .int (p : Nat), .str z] ∧ out = .ret (.int (runN (inS z) T.cps.toList p : Nat))
def stD : Stk → List PyData
  | [] => []
  | (x, b) :: st => stD st ++ [.tuple [.str ⟨#[x]⟩, .bool b]]
def wI : Option Nat → Int
  | none => -1
  | some q => q
def RWrong (ds : List PyData) (out : Out) : Prop := ∃ T R, T.length ≤ 100000 ∧ ds = [.str T] ∧ Au T [] true false false 0 R ∧ out = .ret (.int (wI R))
theorem stD_len : ∀ st : Stk, (stD st).length = st.length
  | [] => rfl
  | (x, b) :: st => by show (stD st ++ [_]).length = _; rw [List.length_append, stD_len st]; rfl
theorem stD_whole : ∀ st : Stk, (∀ a ∈ st, a.1 < 1000) → PyData.canLayAll0 (stD st) = true ∧ noDicts (stD st) = true ∧ PyData.depthAll (stD st) ≤ 1 := by
  have app : ∀ (l : List PyData) (d : PyData), PyData.canLayAll0 l = true ∧ noDicts l = true ∧ PyData.depthAll l ≤ 1 → PyData.canLay0 d = true → noDict d = true → PyData.depth d ≤ 1 → PyData.canLayAll0 (l ++ [d]) = true ∧ noDicts (l ++ [d]) = true ∧ PyData.depthAll (l ++ [d]) ≤ 1 := by
    intro l d
    induction l with
    | nil =>
      intro _ h1 h2 h3
      refine ⟨?_, ?_, ?_⟩
      · show (PyData.canLay0 d && true) = true
        rw [h1]; rfl
      · show (noDict d && true) = true
        rw [h2]; rfl
      · show max (PyData.depth d) 0 ≤ 1
        omega
    | cons a l ih =>
      intro ⟨a1, a2, a3⟩ h1 h2 h3
      have b1 : (PyData.canLay0 a && PyData.canLayAll0 l) = true := a1
      have b2 : (noDict a && noDicts l) = true := a2
      have b3 : max (PyData.depth a) (PyData.depthAll l) ≤ 1 := a3
      rw [Bool.and_eq_true] at b1 b2
      obtain ⟨i1, i2, i3⟩ := ih ⟨b1.2, b2.2, by omega⟩ h1 h2 h3
      refine ⟨?_, ?_, ?_⟩
      · show (PyData.canLay0 a && PyData.canLayAll0 (l ++ [d])) = true
        rw [b1.1, i1]; rfl
      · show (noDict a && noDicts (l ++ [d])) = true
        rw [b2.1, i2]; rfl
      · show max (PyData.depth a) (PyData.depthAll (l ++ [d])) ≤ 1
        omega
  intro st
  induction st with
  | nil => intro _; exact ⟨rfl, rfl, Nat.zero_le _⟩
  | cons a st ih =>
    intro h
    obtain ⟨x, b⟩ := a
    have hx : x < 1000 := h (x, b) List.mem_cons_self
    refine app _ _ (ih fun a ha => h a (List.mem_cons_of_mem _ ha)) ?_ rfl (by show max 0 (max 0 0) + 1 ≤ 1; decide)
    show ((#[x] : Array Nat).all (fun c => decide (c < 0x110000)) && (true && true)) = true
    simp
    omega
theorem stD_ok {st : Stk} (h : ∀ a ∈ st, a.1 < 1000) : Whole (.list (stD st)) := by
  obtain ⟨h1, h2, h3⟩ := stD_whole st h
  refine ⟨h2, ?_⟩
  show (PyData.canLayAll0 (stD st) && decide (PyData.depthAll (stD st) + 1 ≤ 64)) = true
  rw [h1, decide_eq_true (by omega)]; rfl
theorem stD_ne (st : Stk) : (!PyData.eqv (.list (stD st)) (.list [])) = !st.isEmpty := by
  cases st with
  | nil => rfl
  | cons a st =>
    obtain ⟨x, b⟩ := a
    show (!PyData.eqv (.list (stD st ++ [_])) (.list [])) = _
    cases stD st <;> rfl
theorem sign_eq {c x : Nat} : decide (V.str ⟨#[c]⟩ = V.str ⟨#[x]⟩) = decide (c = x) := by
  by_cases h : c = x
  · subst h; rw [decide_eq_true rfl, decide_eq_true rfl]
  · rw [decide_eq_false h, decide_eq_false fun z => h (one_eq.mp (V.str.inj z))]
theorem sign_lit {c x : Nat} {s : Str} (h : s.cps = #[x]) : decide (V.str ⟨#[c]⟩ = V.str s) = decide (c = x) := by
  rw [show s = ⟨#[x]⟩ from by cases s; exact congrArg Str.mk h, sign_eq]
section
variable {P : Program} {w : World} {K : PySem.W.Frag} {mg : Str → Option Value} {base : Heap} {f : Addr} {fd : FuncData}
theorem kn_lrun (F : Fun K "_law_run" "_law_run" s_run f fd) (hm : mg "_law_run" = some (.ref f)) (hb : L2.Binds K fd P_run []) (mL : mg "len" = none) : Kn P w K mg base "_law_run" 1 (spP K 3 RLRun) := by
  refine kn_def F sc_run hm hb rfl fun cdv A outer s H E hr ds out hl hR => ?_
  obtain ⟨T, p, z, hp, hT, rfl, rfl⟩ := hR
  have hrun := runN_le (inS z) T.cps.toList p
  rw [← len_cps] at hrun
  refine dss_cons (ds_set 3 (de_int ?_) sc_run.nd)
  refine dss_cons (ds_while (fun m ρ => ∃ q : Nat, p + q ≤ T.length ∧ q + runN (inS z) T.cps.toList (p + q) = runN (inS z) T.cps.toList p ∧ m = T.length - q ∧ ρ = [some (.val (.str T)), some (.val (.int (p : Nat))), some (.val (.str z)), some (.val (.int (q : Nat)))]) _ ⟨0, hp, Nat.zero_add _, rfl, rfl⟩ fun m ρ hI => ?_)
  obtain ⟨q, hq, es, rfl, rfl⟩ := hI
  have ep : ((p : Int) + (q : Int)) = ((p + q : Nat) : Int) := by omega
  refine dt_w <| dw_and <| dt_cmp op_lt (de_op op_add <| de_var 1 rfl <| de_var 3 rfl ⟨_, od_I0, de_cb call_lenR mL boot_len <| da_cons <| de_var 0 rfl <| da_nil ⟨_, cd_lenS (small640 hT), _, od_B0, ?_⟩⟩) (nomark _)
  rw [ep]
  cases e : sg T (p + q) with
  | none =>
    have h1 := sg_none e
    rw [decide_eq_false (by omega : ¬ ((p + q : Nat) : Int) < (T.length : Int))]
    refine iteF <| iteF <| dss_one <| ds_ret <| de_var 3 rfl ?_
    show Out.ret _ = Out.ret (.int (q : Nat))
    rw [← es, runN_end (by rw [← len_cps]; exact h1)]; rfl
  | some ch =>
    have h1 := sg_lt e
    rw [decide_eq_true (by omega : ((p + q : Nat) : Int) < (T.length : Int))]
    refine iteT <| dw_and1 <| dt_cmp op_inS (de_ixS <| de_var 0 rfl <| de_op op_add <| de_var 1 rfl <| de_var 3 rfl ⟨_, od_I0, T, _, ch, rfl, rfl, small640 hT, by rw [ep]; exact atI_nat e, de_var 2 rfl ⟨_, od_inS, ?_⟩⟩) (by rfl)
    show (if (if false = true then !inS z ch else inS z ch) = true then _ else _)
    rw [if_neg Bool.false_ne_true]
    cases e2 : inS z ch with
    | true =>
      refine iteT <| dss_one <| ds_set 3 (de_op op_add <| de_var 3 rfl <| de_int ⟨_, od_I0, ?_⟩) sc_run.nd
      have eq1 : ((q : Int) + 1) = ((q + 1 : Nat) : Int) := by omega
      rw [eq1]
      refine ⟨T.length - (q + 1), by omega, q + 1, by omega, ?_, rfl, rfl⟩
      rw [← es, runN_yes e e2, Nat.add_assoc p q 1]; omega
    | false =>
      refine iteF <| dss_one <| ds_ret <| de_var 3 rfl ?_
      show Out.ret _ = Out.ret (.int (q : Nat))
      rw [← es, runN_no e e2]; rfl
end
end Q
namespace Q
open PySem PySem.Spec PyProof.Rows L2 Pw
theorem beq_dec (b : Bool) {A B : Prop} (hy : b = true → A) (hn : b = false → B) : if b = true then A else B := by
  cases b
  · exact hn rfl
  · exact hy rfl
/-- the stack's last is its top -/
theorem stD_back {x : Nat} {b : Bool} {st : Stk} : atI (stD ((x, b) :: st)) (-1) = some (.tuple [.str ⟨#[x]⟩, .bool b]) := at_back _ _
theorem stD_init {x : Nat} {b : Bool} {st : Stk} : cutD (stD ((x, b) :: st)) none (some (-1)) = stD st := cut_init _ _
def smallS (st : Stk) : Prop := ∀ a ∈ st, a.1 < 1000
theorem au_lt {T : Str} {st : Stk} {w fr nm : Bool} {p c : Nat} {st' : Stk} {w' fr' nm' : Bool} {p' : Nat} (h : sg T p = some c) (hs : smallS st) (hl : st.length ≤ 20) (e : auStep T st w fr nm p c = some (st', w', fr', nm', p')) : p < p' ∧ p' ≤ T.length ∧ smallS st' ∧ st'.length ≤ 20 := by
  have h1 := sg_lt h
  have tl : smallS st.tail := fun a ha => hs a (List.mem_of_mem_tail ha)
  have tll : st.tail.length ≤ 20 := by rw [List.length_tail]; omega
  unfold auStep at e
  by_cases c1 : inS " \n" c = true
  · rw [if_pos c1] at e; cases e; exact ⟨Nat.lt_succ_self _, h1, hs, hl⟩
  rw [if_neg c1] at e
  by_cases c2 : (w && inS "abcdefghijklmnopqrstuvwxyz" c) = true
  · rw [if_pos c2] at e; cases e
    exact ⟨Nat.lt_add_of_pos_right (run_pos h (Bool.and_eq_true_iff.mp c2).2), run_le _ h, hs, hl⟩
  rw [if_neg c2] at e
  by_cases c3 : (w && inS "0123456789" c) = true
  · rw [if_pos c3] at e; cases e
    by_cases c4 : c = 48
    · rw [if_pos c4]; exact ⟨Nat.lt_succ_self _, h1, hs, hl⟩
    · rw [if_neg c4]; exact ⟨Nat.lt_add_of_pos_right (run_pos h (Bool.and_eq_true_iff.mp c3).2), run_le _ h, hs, hl⟩
  rw [if_neg c3] at e
  by_cases c4 : (decide (st.length < 20) && opnA w nm c) = true
  · rw [if_pos c4] at e; cases e
    have hl2 : st.length < 20 := of_decide_eq_true (Bool.and_eq_true_iff.mp c4).1
    refine ⟨Nat.lt_succ_self _, h1, fun a ha => ?_, by rw [List.length_cons]; omega⟩
    rcases List.mem_cons.mp ha with rfl | ha
    · show (if c = 40 then 41 else 93) < 1000
      split <;> decide
    · exact hs a ha
  rw [if_neg c4] at e
  by_cases c5 : clsA st w fr c = true
  · rw [if_pos c5] at e; cases e; exact ⟨Nat.lt_succ_self _, h1, tl, tll⟩
  rw [if_neg c5] at e
  by_cases c6 : (!w && (inS "+-*" c || (decide (c = 44) && prtA st))) = true
  · rw [if_pos c6] at e; cases e; exact ⟨Nat.lt_succ_self _, h1, hs, hl⟩
  rw [if_neg c6] at e; cases e
section
variable {X : Cx} {W : Wx} {a b c e : Expr} {ρ : Ev} {pos : Pos} {rest : List Expr} {k x y : Bool}
/-- an expression, a test that is just a truth and changes nothing -/
def PB (X : Cx) (W : Wx) (e : Expr) (ρ : Ev) (b : Bool) : Prop := ∀ Q : PyData → Ev → Prop, Q (.bool b) ρ → DE X W e ρ Q
def PTb (X : Cx) (W : Wx) (e : Expr) (ρ : Ev) (b : Bool) : Prop := ∀ T : Bool → Ev → Prop, T b ρ → DT X W e ρ T
def PWb (X : Cx) (W : Wx) (e : Expr) (ρ : Ev) (b : Bool) : Prop := ∀ T : Bool → Ev → Prop, T b ρ → DW X W e ρ T
theorem pb_var (i : Nat) {n : Str} (h : ρ[i]? = some (some (.val (.bool k)))) (hN : X.N[i]? = some n := by rfl) (hv : Vis X.env.scope n := by first | exact Or.inl rfl | exact Or.inr (Or.inl rfl) | exact Or.inr (Or.inr rfl))
    (hd : (n == ("__debug__" : Str)) = false := by decide) (hcd : (n == ("__classdict__" : Str)) = false := by decide) : PB X W (.Name n pos) ρ k := fun Q q => de_var i h q hN hv hd hcd
theorem pb_not (h : PB X W a ρ x) : PB X W (.UnaryOp .Not a pos) ρ (!x) := fun Q q => de_not (h _ ⟨x, rfl, q⟩)
theorem pb_one {op : BoolOp} (h : PB X W a ρ x) : PB X W (.BoolOp op [a] pos) ρ x := fun Q q => de_one (h Q q)
theorem pb_and (h : PB X W a ρ x) (h2 : x = true → PB X W (.BoolOp .And (b :: rest) pos) ρ y) : PB X W (.BoolOp .And (a :: b :: rest) pos) ρ (x && y) := fun Q q => de_and (h _ ⟨x, rfl, by
  cases x with
  | true => exact iteT (h2 rfl Q q)
  | false => exact iteF q⟩)
theorem pb_or (h : PB X W a ρ x) (h2 : x = false → PB X W (.BoolOp .Or (b :: rest) pos) ρ y) : PB X W (.BoolOp .Or (a :: b :: rest) pos) ρ (x || y) := fun Q q => de_or (h _ ⟨x, rfl, by
  cases x with
  | true => exact iteT q
  | false => exact iteF (h2 rfl Q q)⟩)
theorem ptb_val (h : PB X W e ρ x) (he : ∀ whole, isTrue e X.env whole = (do let v ← whole; standAt e.pos; holding [v] (truthy v)) := by intro _; rfl) : PTb X W e ρ x := fun T q => dt_val (h _ ⟨x, rfl, q⟩) he
theorem ptb_not (h : PTb X W a ρ x) : PTb X W (.UnaryOp .Not a pos) ρ (!x) := fun T q => dt_not (h _ q)
theorem ptb_w (h : PWb X W e ρ x) : PTb X W e ρ x := fun T q => dt_w (h T q)
theorem pwb_and1 (h : PTb X W a ρ x) : PWb X W (.BoolOp .And [a] pos) ρ x := fun T q => dw_and1 (h T q)
theorem pwb_or1 (h : PTb X W a ρ x) : PWb X W (.BoolOp .Or [a] pos) ρ x := fun T q => dw_or1 (h T q)
theorem pwb_and (h : PTb X W a ρ x) (h2 : x = true → PWb X W (.BoolOp .And (b :: rest) pos) ρ y) : PWb X W (.BoolOp .And (a :: b :: rest) pos) ρ (x && y) := fun T q => dw_and (h _ (by
  cases x with
  | true => exact iteT (h2 rfl T q)
  | false => exact iteF q))
theorem pwb_or (h : PTb X W a ρ x) (h2 : x = false → PWb X W (.BoolOp .Or (b :: rest) pos) ρ y) : PWb X W (.BoolOp .Or (a :: b :: rest) pos) ρ (x || y) := fun T q => dw_or (h _ (by
  cases x with
  | true => exact iteT q
  | false => exact iteF (h2 rfl T q)))
end
section
variable {P : Program} {w : World} {K : PySem.W.Frag} {mg : Str → Option Value} {base : Heap} {f : Addr} {fd : FuncData}
/-- what the turn leaves -/
def wEv (T : Str) (st : Stk) (w fr nm : Bool) (p : Nat) (o7 o8 o9 o10 o11 o12 : Option Ent) : Ev :=
  [some (.val (.str T)), some (.val (.str "abcdefghijklmnopqrstuvwxyz")), some (.own (stD st)), some (.val (.bool w)), some (.val (.bool fr)), some (.val (.bool nm)), some (.val (.int (p : Nat))), o7, o8, o9, o10, o11, o12]
abbrev bW : List Stmt := match (defBody s_wrong).getD 6 (.Pass ⟨0, 0, 0, 0⟩) with | .While _ b _ _ => b | _ => []
theorem lt_dec {n : Nat} : decide (((n : Nat) : Int) < 20) = decide (n < 20) := decide_eq_decide.mpr (by omega)
theorem wrong_body {cdv : Value} {A : Around} {outer : List Env} {s : Shared} {H : Hp} {E : XK} (hr : Room 1 (A.deeper (envOfC "_law_wrong" (defScope s_wrong) s.heap.objs.size f cdv))) {W : Wx} {D : DEnds} (mL : mg "len" = none) (GR : Kn P w K mg base "_law_run" 1 (spP K 3 RLRun))
    {T : Str} (hT : T.length ≤ 100000) {st : Stk} {wt fr nm : Bool} {p c : Nat} {o7 o8 o9 o10 o11 o12 : Option Ent} (hs : smallS st) (hl20 : st.length ≤ 20) (hc : sg T p = some c)
    (hgo : ∀ st' w' fr' nm' p' o7 o8 o9 o10 o11 o12, auStep T st wt fr nm p c = some (st', w', fr', nm', p') → D.nx (wEv T st' w' fr' nm' p' o7 o8 o9 o10 o11 o12)) (hbad : auStep T st wt fr nm p c = none → ∀ ρ, D.rt (.int (p : Nat)) ρ) :
    DSs (cxOf (L2.CX P w) P w K mg base N_wrong "_law_wrong" (defScope s_wrong) f cdv A outer s H E) W bW D (wEv T st wt fr nm p o7 o8 o9 o10 o11 o12) := by
  have hp := sg_lt hc
  have hu := room_un hr
  have fin : ∀ (st' : Stk) (w' fr' nm' : Bool) (n : Nat) (o7 o9 o10 o11 o12 : Option Ent), auStep T st wt fr nm p c = some (st', w', fr', nm', p + n) → DSs (cxOf (L2.CX P w) P w K mg base N_wrong "_law_wrong" (defScope s_wrong) f cdv A outer s H E) W (bW.drop 5) D (wEv T st' w' fr' nm' p o7 (some (.val (.int (n : Nat)))) o9 o10 o11 o12) := fun st' w' fr' nm' n o7 o9 o10 o11 o12 h => by
    refine dss_one (ds_set 6 (de_op op_add <| de_var 6 rfl <| de_var 8 rfl ⟨_, od_I0, ?_⟩) sc_wrong.nd)
    rw [show ((p : Int) + (n : Int)) = ((p + n : Nat) : Int) by omega]
    exact hgo _ _ _ _ _ _ _ _ _ _ _ h
  have step := fun (h : inS " \n" c = false) => show auStep T st wt fr nm p c = _ by unfold auStep; exact if_neg (by rw [h]; exact Bool.false_ne_true)
  refine dss_cons (ds_set 7 (de_ixS <| de_var 0 rfl <| de_var 6 rfl ⟨T, _, c, rfl, rfl, small640 hT, atI_nat hc, ?_⟩) sc_wrong.nd)
  refine dss_cons (ds_set 8 (de_int ?_) sc_wrong.nd)
  -- closes
  refine dss_cons (ds_set 9 ((show PB _ W _ (wEv T st wt fr nm p (some (.val (.str ⟨#[c]⟩))) (some (.val (.int 1))) o9 o10 o11 o12) (clsA st wt fr c) from ?_) _ ?_) sc_wrong.nd)
  · have e : clsA st wt fr c = ((!st.isEmpty) && ((match st with | [] => false | (x, _) :: _ => decide (c = x)) && (!wt || fr))) := by
      cases st with
      | nil => rfl
      | cons a st => obtain ⟨x, b⟩ := a; rfl
    rw [e]
    refine pb_and (fun Q k => de_neO 2 hu rfl (stD_ok hs) (by rw [stD_ne]; exact k)) fun hne => ?_
    cases st with
    | nil => cases hne
    | cons a st =>
      obtain ⟨x, b⟩ := a
      refine pb_and (fun Q k => de_cmp op_eq (de_var 7 rfl <| de_ix <| dp_tup <| de_ixO 2 rfl <| de_neg <| de_int ⟨_, rfl, rfl, _, _, rfl, stD_back, _, rfl, de_int ⟨_, _, rfl, rfl, _, od_eq rfl rfl rfl, ?_⟩⟩) (nomark _)) fun _ => pb_one ?_
      · show Q (.bool (decide (V.str ⟨#[c]⟩ = V.str ⟨#[x]⟩))) _
        rw [sign_eq]; exact k
      · exact pb_or (pb_not (pb_var 3 rfl)) fun _ => pb_one (pb_var 4 rfl)
  -- parts
  refine dss_cons (ds_set 10 ((show PB _ W _ (wEv T st wt fr nm p (some (.val (.str ⟨#[c]⟩))) (some (.val (.int 1))) (some (.val (.bool (clsA st wt fr c)))) o10 o11 o12) (prtA st) from ?_) _ ?_) sc_wrong.nd)
  · have e : prtA st = ((!st.isEmpty) && prtA st) := by
      cases st with
      | nil => rfl
      | cons a st => rfl
    rw [e]
    refine pb_and (fun Q k => de_neO 2 hu rfl (stD_ok hs) (by rw [stD_ne]; exact k)) fun hne => ?_
    cases st with
    | nil => cases hne
    | cons a st =>
      obtain ⟨x, b⟩ := a
      exact pb_one fun Q k => de_ix <| dp_tup <| de_ixO 2 rfl <| de_neg <| de_int ⟨_, rfl, rfl, _, _, rfl, stD_back, _, rfl, de_int ⟨_, _, rfl, rfl, k⟩⟩
  -- a blank?
  refine dss_cons (ds_if <| dt_cmp op_niS (de_var 7 rfl <| de_str ⟨_, od_inS, ?_⟩) (by rfl))
  show if (!inS " \n" c) = true then _ else _
  cases hw : inS " \n" c with
  | true =>
    refine iteF <| dss_nil (fin st wt fr nm 1 _ _ _ _ _ ?_)
    unfold auStep; exact if_pos hw
  | false =>
  have step := step hw
  refine iteT ?_
  refine dss_cons (ds_set 11 (de_var 3 rfl ?_) sc_wrong.nd)
  refine dss_cons (ds_set 12 ((show PB _ W _ (wEv T st wt fr nm p (some (.val (.str ⟨#[c]⟩))) (some (.val (.int 1))) (some (.val (.bool (clsA st wt fr c)))) (some (.val (.bool (prtA st)))) (some (.val (.bool wt))) o12) (opnA wt nm c) from ?_) _ ?_) sc_wrong.nd)
  · unfold opnA
    refine pb_or (pb_and (fun Q k => de_cmp op_eq (de_var 7 rfl <| de_str ⟨_, od_eq rfl rfl rfl, ?_⟩) (nomark _)) fun _ => pb_one <| pb_or (pb_var 3 rfl) fun _ => pb_one (pb_var 5 rfl)) fun _ => pb_one <| pb_and (fun Q k => de_cmp op_eq (de_var 7 rfl <| de_str ⟨_, od_eq rfl rfl rfl, ?_⟩) (nomark _)) fun _ => pb_one (pb_var 3 rfl)
    · show Q (.bool (decide (V.str ⟨#[c]⟩ = V.str "("))) _
      rw [sign_lit (x := 40) (by decide +kernel)]; exact k
    · show Q (.bool (decide (V.str ⟨#[c]⟩ = V.str "["))) _
      rw [sign_lit (x := 91) (by decide +kernel)]; exact k
  refine dss_cons (ds_set 4 (de_bl ?_) sc_wrong.nd)
  refine dss_cons (ds_set 5 (de_bl ?_) sc_wrong.nd)
  -- a name
  refine dss_one (ds_if <| dt_w <| (show PWb _ W _ (wEv T st wt false false p (some (.val (.str ⟨#[c]⟩))) (some (.val (.int 1))) (some (.val (.bool (clsA st wt fr c)))) (some (.val (.bool (prtA st)))) (some (.val (.bool wt))) (some (.val (.bool (opnA wt nm c))))) (wt && inS "abcdefghijklmnopqrstuvwxyz" c) from pwb_and (ptb_val (pb_var 11 rfl)) fun _ => pwb_and1 fun T k => dt_cmp op_inS (de_var 7 rfl <| de_var 1 rfl ⟨_, od_inS, k⟩) (by rfl)) _ ?_)
  refine beq_dec _ (fun c2 => ?_) fun c2 => ?_
  · refine dss_cons (ds_set 8 (de_call GR hr <| da_cons <| de_var 0 rfl <| da_cons <| de_var 6 rfl <| da_cons <| de_var 1 rfl <| da_nil ⟨rfl, _, ⟨T, p, _, Nat.le_of_lt hp, hT, rfl, rfl⟩, ?_⟩) sc_wrong.nd)
    refine dss_cons (ds_set 5 (de_bl ?_) sc_wrong.nd)
    refine dss_one (ds_set 3 (de_bl ?_) sc_wrong.nd)
    exact fin st false false true _ _ _ _ _ _ (step.trans (if_pos c2))
  have step := step.trans (if_neg (by rw [c2]; exact Bool.false_ne_true))
  -- a number
  refine dss_one (ds_if <| dt_w <| (show PWb _ W _ (wEv T st wt false false p (some (.val (.str ⟨#[c]⟩))) (some (.val (.int 1))) (some (.val (.bool (clsA st wt fr c)))) (some (.val (.bool (prtA st)))) (some (.val (.bool wt))) (some (.val (.bool (opnA wt nm c))))) (wt && inS "0123456789" c) from pwb_and (ptb_val (pb_var 11 rfl)) fun _ => pwb_and1 fun T k => dt_cmp op_inS (de_var 7 rfl <| de_str ⟨_, od_inS, k⟩) (by rfl)) _ ?_)
  refine beq_dec _ (fun c3 => ?_) fun c3 => ?_
  · have step := step.trans (if_pos c3)
    refine dss_cons (ds_set 8 (de_if <| dt_cmp op_eq (de_var 7 rfl <| de_str ⟨_, od_eq rfl rfl rfl, ?_⟩) (nomark _)) sc_wrong.nd)
    show if decide (V.str ⟨#[c]⟩ = V.str "0") = true then _ else _
    rw [sign_lit (x := 48) (by decide +kernel)]
    by_cases c48 : c = 48
    · rw [if_pos c48] at step
      rw [decide_eq_true c48]
      refine iteT <| de_int <| dss_one (ds_set 3 (de_bl ?_) sc_wrong.nd)
      exact fin st false false false 1 _ _ _ _ _ step
    · rw [if_neg c48] at step
      rw [decide_eq_false c48]
      refine iteF <| de_call GR hr <| da_cons <| de_var 0 rfl <| da_cons <| de_var 6 rfl <| da_cons <| de_str <| da_nil ⟨rfl, _, ⟨T, p, _, Nat.le_of_lt hp, hT, rfl, rfl⟩, ?_⟩
      refine dss_one (ds_set 3 (de_bl ?_) sc_wrong.nd)
      exact fin st false false false _ _ _ _ _ _ step
  have step := step.trans (if_neg (by rw [c3]; exact Bool.false_ne_true))
  -- an opening sign
  refine dss_one (ds_if <| dt_w <| (show PWb _ W _ (wEv T st wt false false p (some (.val (.str ⟨#[c]⟩))) (some (.val (.int 1))) (some (.val (.bool (clsA st wt fr c)))) (some (.val (.bool (prtA st)))) (some (.val (.bool wt))) (some (.val (.bool (opnA wt nm c))))) (decide (st.length < 20) && opnA wt nm c) from pwb_and (fun T k => dt_cmp op_lt (de_lenO 2 mL rfl <| de_int ⟨_, od_B0, by rw [stD_len, lt_dec]; exact k⟩) (nomark _)) fun _ => pwb_and1 (ptb_val (pb_var 12 rfl))) _ ?_)
  refine beq_dec _ (fun c4 => ?_) fun c4 => ?_
  · have step := step.trans (if_pos c4)
    have ho := (Bool.and_eq_true_iff.mp c4).2
    have hc2 : c = 40 ∨ c = 91 := by
      apply Decidable.byContradiction; intro z
      rw [opn_no (fun y => z (.inl y)) (fun y => z (.inr y))] at ho; cases ho
    refine dss_cons (ds_set 4 ((show PB _ W _ (wEv T st wt false false p (some (.val (.str ⟨#[c]⟩))) (some (.val (.int 1))) (some (.val (.bool (clsA st wt fr c)))) (some (.val (.bool (prtA st)))) (some (.val (.bool wt))) (some (.val (.bool (opnA wt nm c))))) (decide (c = 91) || !wt) from ?_) _ ?_) sc_wrong.nd)
    · refine pb_or (fun Q k => de_cmp op_eq (de_var 7 rfl <| de_str ⟨_, od_eq rfl rfl rfl, ?_⟩) (nomark _)) fun _ => pb_one <| pb_not (pb_var 11 rfl)
      show Q (.bool (decide (V.str ⟨#[c]⟩ = V.str "["))) _
      rw [sign_lit (x := 91) (by decide +kernel)]; exact k
    have hsub : ∃ v : Str, valV (mergeK [] [(Sum.inr "(", V.str ")"), (Sum.inr "[", V.str "]")]) (Sum.inr (⟨#[c]⟩ : Str) : Key) = some (.str v) ∧ v = ⟨#[if c = 40 then 41 else 93]⟩ := by
      rcases hc2 with rfl | rfl
      · exact ⟨")", by rfl, by decide +kernel⟩
      · exact ⟨"]", by rfl, by decide +kernel⟩
    obtain ⟨v, hv, rfl⟩ := hsub
    refine dss_cons (ds_append 2 rfl <| de_tup <| da_cons <| de_dsub2 7 (Nat.lt_of_le_of_lt (Nat.add_le_add_left (by decide : 1 ≤ 64) _) hu) rfl hv <| da_cons <| de_var 4 rfl <| da_nil ⟨by show 2 ≤ sizeLine; decide, stD st, rfl, by rw [stD_len]; exact Nat.lt_of_le_of_lt hl20 (by decide), ?_⟩)
    refine dss_one (ds_set 3 (de_bl ?_) sc_wrong.nd)
    exact fin (((if c = 40 then 41 else 93), decide (c = 91) || !wt) :: st) true _ false 1 _ _ _ _ _ step
  have step := step.trans (if_neg (by rw [c4]; exact Bool.false_ne_true))
  -- a closing sign
  refine dss_one (ds_if <| dt_val <| de_var 9 rfl ⟨_, rfl, ?_⟩)
  refine beq_dec _ (fun c5 => ?_) fun c5 => ?_
  · have step := step.trans (if_pos c5)
    cases st with
    | nil => cases c5
    | cons a st =>
      obtain ⟨x, b⟩ := a
      refine dss_cons (ds_own 2 (dl_slO 2 rfl <| de_neg <| de_int ⟨_, rfl, _, rfl, rfl, ?_⟩) sc_wrong.nd)
      rw [stD_init]
      refine dss_one (ds_set 3 (de_bl ?_) sc_wrong.nd)
      exact fin st false false false 1 _ _ _ _ _ step
  have step := step.trans (if_neg (by rw [c5]; exact Bool.false_ne_true))
  -- an operator, a comma
  refine dss_one (ds_if <| dt_w <| (show PWb _ W _ (wEv T st wt false false p (some (.val (.str ⟨#[c]⟩))) (some (.val (.int 1))) (some (.val (.bool (clsA st wt fr c)))) (some (.val (.bool (prtA st)))) (some (.val (.bool wt))) (some (.val (.bool (opnA wt nm c))))) (!wt && (inS "+-*" c || (decide (c = 44) && prtA st))) from ?_) _ ?_)
  · refine pwb_and (ptb_not (ptb_val (pb_var 11 rfl))) fun _ => pwb_and1 <| ptb_w <| pwb_or (fun T k => dt_cmp op_inS (de_var 7 rfl <| de_str ⟨_, od_inS, k⟩) (by rfl)) fun _ => pwb_or1 <| ptb_w <| pwb_and (fun T k => dt_cmp op_eq (de_var 7 rfl <| de_str ⟨_, od_eq rfl rfl rfl, ?_⟩) (nomark _)) fun _ => pwb_and1 (ptb_val (pb_var 10 rfl))
    show T (decide (V.str ⟨#[c]⟩ = V.str ",")) _
    rw [sign_lit (x := 44) (by decide +kernel)]; exact k
  refine beq_dec _ (fun c6 => ?_) fun c6 => ?_
  · refine dss_one (ds_set 3 (de_bl ?_) sc_wrong.nd)
    exact fin st true false false 1 _ _ _ _ _ (step.trans (if_pos c6))
  · exact dss_one (ds_ret <| de_var 6 rfl <| hbad (step.trans (if_neg (by rw [c6]; exact Bool.false_ne_true))) _)
theorem kn_wrong (F : Fun K "_law_wrong" "_law_wrong" s_wrong f fd) (hm : mg "_law_wrong" = some (.ref f)) (hb : L2.Binds K fd P_wrong []) (mL : mg "len" = none) (GR : Kn P w K mg base "_law_run" 1 (spP K 3 RLRun)) : Kn P w K mg base "_law_wrong" 2 (spP K 1 RWrong) := by
  refine kn_def F sc_wrong hm hb rfl fun cdv A outer s H E hr ds out hl hR => ?_
  obtain ⟨T, R, hT, rfl, hA, rfl⟩ := hR
  refine dss_cons (ds_set 1 (de_str ?_) sc_wrong.nd)
  refine dss_cons (ds_own 2 (dl_lst (da_nil ⟨by show 0 ≤ sizeLine; decide, ?_⟩)) sc_wrong.nd)
  refine dss_cons (ds_set 3 (de_bl ?_) sc_wrong.nd)
  refine dss_cons (ds_set 4 (de_bl ?_) sc_wrong.nd)
  refine dss_cons (ds_set 5 (de_bl ?_) sc_wrong.nd)
  refine dss_cons (ds_set 6 (de_int ?_) sc_wrong.nd)
  refine dss_cons (ds_while (fun m ρ => ∃ st wt fr nm p o7 o8 o9 o10 o11 o12, p ≤ T.length ∧ smallS st ∧ st.length ≤ 20 ∧ Au T st wt fr nm p R ∧ m = T.length - p ∧ ρ = wEv T st wt fr nm p o7 o8 o9 o10 o11 o12) _ ⟨[], true, false, false, 0, none, none, none, none, none, none, Nat.zero_le _, (fun a ha => nomatch ha), Nat.zero_le _, hA, rfl, rfl⟩ fun m ρ hI => ?_)
  obtain ⟨st, wt, fr, nm, p, o7, o8, o9, o10, o11, o12, hp, hs, hl20, hA, rfl, rfl⟩ := hI
  refine dt_cmp op_lt (de_var 6 rfl <| de_cb call_lenR mL boot_len <| da_cons <| de_var 0 rfl <| da_nil ⟨_, cd_lenS (small640 hT), _, od_B0, ?_⟩) (nomark _)
  cases e : sg T p with
  | none =>
    have h1 := sg_none e
    rw [decide_eq_false (by omega : ¬ (p : Int) < (T.length : Int))]
    refine iteF <| dss_one <| ds_ret <| de_if <| dt_w <| dw_or <| dt_val (de_var 3 rfl ⟨_, rfl, ?_⟩)
    have eR : R = if (wt || !st.isEmpty) = true then some T.length else none := by
      cases hA with
      | stop h => rfl
      | bad h _ => rw [e] at h; cases h
      | go h _ _ => rw [e] at h; cases h
    have yes : (wt || !st.isEmpty) = true → DE (cxOf (L2.CX P w) P w K mg base N_wrong "_law_wrong" (defScope s_wrong) f cdv A outer s H E) (fun c xs => Out.ret (.int (wI R)) = .exc c xs) (match (defBody s_wrong).getD 7 (.Pass ⟨0, 0, 0, 0⟩) with | .Return (some (.IfExp _ a _ _)) _ => a | _ => .Constant .none 0 ⟨0, 0, 0, 0⟩) (wEv T st wt fr nm p o7 o8 o9 o10 o11 o12) fun d _ => Out.ret (.int (wI R)) = .ret d := fun h => by
      refine de_cb call_lenR mL boot_len <| da_cons <| de_var 0 rfl <| da_nil ⟨_, cd_lenS (small640 hT), ?_⟩
      rw [eR, if_pos h]; rfl
    refine beq_dec wt (fun hw => ?_) fun hw => ?_
    · exact iteT (yes (by rw [hw]; rfl))
    · refine dw_or1 <| dt_own 2 rfl ?_
      have e3 : (stD st).isEmpty = st.isEmpty := by
        cases st with
        | nil => rfl
        | cons a st => obtain ⟨x, b⟩ := a; show (stD st ++ [_]).isEmpty = false; simp
      rw [e3]
      refine beq_dec _ (fun h => ?_) fun h => ?_
      · exact yes (by rw [h]; simp)
      · refine de_neg <| de_int ⟨_, rfl, ?_⟩
        rw [eR, if_neg (by rw [hw, h]; exact Bool.false_ne_true)]; rfl
  | some c =>
    have h1 := sg_lt e
    rw [decide_eq_true (by omega : (p : Int) < (T.length : Int))]
    refine iteT <| wrong_body hr mL GR hT hs hl20 e (fun st' w' fr' nm' p' o7 o8 o9 o10 o11 o12 hst => ?_) fun hst ρ => ?_
    · obtain ⟨b1, b2, b3, b4⟩ := au_lt e hs hl20 hst
      refine ⟨T.length - p', by omega, st', w', fr', nm', p', o7, o8, o9, o10, o11, o12, b2, b3, b4, ?_, rfl, rfl⟩
      cases hA with
      | stop h => rw [e] at h; cases h
      | bad h e2 => rw [e] at h; cases h; rw [hst] at e2; cases e2
      | go h e2 r => rw [e] at h; cases h; rw [hst] at e2; cases e2; exact r
    · cases hA with
      | stop h => rw [e] at h; cases h
      | bad h e2 => rfl
      | go h e2 r => rw [e] at h; cases h; rw [hst] at e2; cases e2
end
end Q
namespace Q
open PySem PySem.Spec PyProof.Rows L2 Pw
/-! ### the law's text -/
def menuS (i : Int) : Str := ⟨#[("ab09()[],+-* \n()[],x1.=" : Str).cps.toList.getD (i % 23).toNat 0]⟩
def opS (i : Int) : Str := (["(", "[", "f(", "f (", "1+("] : List Str).getD (i % 5).toNat ""
def clS (s : Str) : Str := (["]", ")"] : List Str).getD (if inS s 40 = true then 1 else 0 : Int).toNat ""
def editL (x : Int) (T : Str) : List Str := [cutS T none (some (x % ((T.length : Int) + 1))) ++ menuS (x / 512) ++ cutS T (some (x % ((T.length : Int) + 1) + 1)) none,
  cutS T none (some (x % ((T.length : Int) + 1))) ++ cutS T (some (x % ((T.length : Int) + 1) + 1)) none,
  cutS T none (some (x % ((T.length : Int) + 1))) ++ menuS (x / 512) ++ cutS T (some (x % ((T.length : Int) + 1))) none,
  cutS T none (some (x % ((T.length : Int) + 1)))]
def editS (x : Int) (T : Str) : Str := (editL x T).getD (x / 12000 % 4).toNat ""
def editN (ns : List Int) : Nat → Str → Str
  | 0, T => T
  | i + 1, T => editS (mixI ns (54 + (i : Nat))) (editN ns i T)
def freeW (ns : List Int) : List Str := (List.range (mixI ns 59 % 31).toNat).map fun (k : Nat) => menuS (mixI ns (k : Nat))
def opnW (ns : List Int) : List Str := (List.range (18 + mixI ns 59 % 6).toNat).map fun (k : Nat) => opS (mixI ns (k : Nat))
def sepS (ns : List Int) : Str := (["", " "] : List Str).getD (mixI ns 58 % 2).toNat ""
def deepN (ns : List Int) : Nat := (1 + mixI ns 59 % 3).toNat
def textS (ns : List Int) : Str := if mixI ns 60 % 6 = 0 then Txt.join "" (freeW ns)
  else if mixI ns 60 % 6 = 1 then Txt.join "" (opnW ns) ++ "a" ++ Txt.join "" ((opnW ns).map clS).reverse
  else editN ns (mixI ns 57 % 3).toNat (Txt.join (sepS ns) (wordsT (treeT ns (deepN ns) 1)))
/-! lengths -/
theorem joinL_len (S : List Nat) : ∀ l : List (List Nat), (TL.joinL S l).length ≤ (l.map List.length).sum + l.length * S.length
  | [] => Nat.zero_le _
  | [p] => by show p.length ≤ (p.length + 0) + 1 * S.length; omega
  | p :: q :: r => by
    have ih := joinL_len S (q :: r)
    show (p ++ (S ++ TL.joinL S (q :: r))).length ≤ (p.length + ((q :: r).map List.length).sum) + ((q :: r).length + 1) * S.length
    rw [List.length_append, List.length_append, Nat.add_mul, Nat.one_mul]
    omega
theorem join_len (a : Str) (ws : List Str) : (Txt.join a ws).length ≤ (ws.map (·.length)).sum + ws.length * a.length := by
  have h1 : (Txt.join a ws).length = (TL.joinL (TL.tl a) (ws.map TL.tl)).length := by
    rw [TL.join_eq, TL.len_tl, TL.tl_join]
  have h2 := joinL_len (TL.tl a) (ws.map TL.tl)
  have h3 : ((ws.map TL.tl).map List.length) = ws.map (·.length) := by
    rw [List.map_map]
    refine List.map_congr_left fun u _ => ?_
    exact (TL.len_tl u).symm
  rw [h3, List.length_map, ← TL.len_tl] at h2
  rw [h1]
  exact h2
theorem sum_cap {n : Nat} : ∀ {ws : List Str}, (∀ w ∈ ws, w.length ≤ n) → (ws.map (·.length)).sum ≤ ws.length * n
  | [], _ => Nat.zero_le _
  | a :: ws, h => by
    have h1 := h a List.mem_cons_self
    have h2 := sum_cap (ws := ws) fun w hw => h w (List.mem_cons_of_mem _ hw)
    rw [List.map_cons, List.sum_cons, List.length_cons, Nat.add_mul, Nat.one_mul]
    omega
theorem emp_len : ("" : Str).length = 0 := by decide +kernel
/-- the signs of some words, and one more for each -/
def costW (l : List Str) : Nat := (l.map (·.length)).sum + l.length
theorem cost_app (a b : List Str) : costW (a ++ b) = costW a + costW b := by
  unfold costW
  rw [List.map_append, List.sum_append, List.length_append]
  omega
theorem cost_one (s : Str) : costW [s] = s.length + 1 := rfl
theorem cost_join {a : Str} (h : a.length ≤ 1) (ws : List Str) : (ws.map (·.length)).sum + ws.length * a.length ≤ costW ws := by
  unfold costW
  have := Nat.mul_le_mul_left ws.length h
  omega
def capX : Nat → Nat
  | 0 => 14
  | n + 1 => 3 * capX n + 14
theorem capX_lo : ∀ n, 14 ≤ capX n
  | 0 => Nat.le_refl _
  | n + 1 => by have := capX_lo n; unfold capX; omega
theorem cost_wrap (b : Bool) (l : List Str) : costW (wrapT b l) ≤ costW l + 4 := by
  cases b with
  | false => exact Nat.le_add_right _ _
  | true =>
    show costW ((["("] : List Str) ++ l ++ ([")"] : List Str)) ≤ _
    rw [cost_app, cost_app, show costW ["("] = 2 by decide +kernel, show costW [")"] = 2 by decide +kernel]
    omega
theorem cost_M {n : Nat} : ∀ {ps : List Tr}, (∀ t ∈ ps, costW (wordsT t) ≤ n) → costW (wordsM ps) ≤ ps.length * (n + 2)
  | [], _ => by unfold wordsM; exact Nat.zero_le _
  | t :: ts, h => by
    have h1 := h t List.mem_cons_self
    have h2 := cost_M (ps := ts) fun u hu => h u (List.mem_cons_of_mem _ hu)
    unfold wordsM
    rw [cost_app, cost_app, show costW [","] = 2 by decide +kernel, List.length_cons, Nat.add_mul, Nat.one_mul]
    omega
theorem cost_L {n : Nat} {ps : List Tr} (hl : ps.length ≤ 3) (h : ∀ t ∈ ps, costW (wordsT t) ≤ n) : costW (wordsL ps) ≤ 3 * n + 4 := by
  cases ps with
  | nil => unfold wordsL; exact Nat.zero_le _
  | cons t ts =>
    have h1 := h t List.mem_cons_self
    have h2 := cost_M (n := n) (ps := ts) fun u hu => h u (List.mem_cons_of_mem _ hu)
    have h3 : ts.length ≤ 2 := by rw [List.length_cons] at hl; omega
    have h4 : ts.length * (n + 2) ≤ 2 * (n + 2) := Nat.mul_le_mul_right _ h3
    unfold wordsL
    rw [cost_app]
    omega
theorem leaf_cost (x : Int) (h : 0 ≤ x) : costW (wordsT (leafT x)) ≤ 14 := by
  have h1 := words_short (leaf_ok 0 x h)
  have h2 : ∃ s, wordsT (leafT x) = [s] := by
    unfold leafT
    split
    · exact ⟨_, by rw [wordsT]⟩
    · exact ⟨_, by rw [wordsT]⟩
  obtain ⟨s, e⟩ := h2
  rw [e] at h1 ⊢
  rw [cost_one]
  have := h1 s List.mem_cons_self
  omega
theorem tree_cost (ns : List Int) : ∀ (d : Nat) (k : Int), costW (wordsT (treeT ns d k)) ≤ capX d
  | 0, k => leaf_cost _ (mix_lo ns k)
  | d + 1, k => by
    unfold treeT
    split
    · exact Nat.le_trans (leaf_cost _ (mix_lo ns k)) (capX_lo _)
    · split
      · have h1 : 0 ≤ mixI ns k / 8 % 4 := Int.emod_nonneg _ (by decide)
        have h2 : mixI ns k / 8 % 4 < 4 := Int.emod_lt_of_pos _ (by decide)
        have hl : ((List.range (mixI ns k / 8 % 4).toNat).map fun j => treeT ns d (4 * k + 1 + (j : Nat))).length ≤ 3 := by rw [List.length_map, List.length_range]; omega
        have hp : ∀ t ∈ (List.range (mixI ns k / 8 % 4).toNat).map fun j => treeT ns d (4 * k + 1 + (j : Nat)), costW (wordsT t) ≤ capX d := fun t ht => by
          obtain ⟨j, _, rfl⟩ := List.mem_map.mp ht
          exact tree_cost ns d _
        have hL := cost_L hl hp
        dsimp only
        split
        · have hlt : ∀ i, i < 3 → ((["f", "gg", "print"] : List Str).getD i "").length ≤ 5 := by decide +kernel
          have h3 : 0 ≤ mixI ns k / 64 % 3 := Int.emod_nonneg _ (by decide)
          have h4 : mixI ns k / 64 % 3 < 3 := Int.emod_lt_of_pos _ (by decide)
          have h5 := hlt (mixI ns k / 64 % 3).toNat (by omega)
          rw [wordsT, cost_app, cost_app, show costW [")"] = 2 by decide +kernel]
          have h6 : ∀ s : Str, costW [s, "("] = s.length + 3 := fun s => by
            show costW (([s] : List Str) ++ (["("] : List Str)) = _
            rw [cost_app, cost_one, show costW ["("] = 2 by decide +kernel]
          rw [h6]
          unfold capX
          omega
        · rw [wordsT, cost_app, cost_app, show costW ["["] = 2 by decide +kernel, show costW ["]"] = 2 by decide +kernel]
          unfold capX
          omega
      · have h3 : 0 ≤ mixI ns k % 8 := Int.emod_nonneg _ (by decide)
        have h4 : mixI ns k % 8 < 8 := Int.emod_lt_of_pos _ (by decide)
        have hop : ∀ i, i < 4 → ((["+", "-", "*", "*"] : List Str).getD i "").length = 1 := by decide +kernel
        have h5 := hop (mixI ns k % 8 - 4).toNat (by omega)
        have h6 := tree_cost ns d (4 * k + 1)
        have h7 := tree_cost ns d (4 * k + 2)
        have h8 := cost_wrap (isIn (if ((["+", "-", "*", "*"] : List Str).getD (mixI ns k % 8 - 4).toNat "") = "*" then ["+", "-"] else []) (treeT ns d (4 * k + 1))) (wordsT (treeT ns d (4 * k + 1)))
        have h9 := cost_wrap (isIn (if ((["+", "-", "*", "*"] : List Str).getD (mixI ns k % 8 - 4).toNat "") = "*" then ["+", "-", "*"] else ["+", "-"]) (treeT ns d (4 * k + 2))) (wordsT (treeT ns d (4 * k + 2)))
        rw [words_bin, cost_app, cost_app, cost_one, h5]
        unfold capX
        have := capX_lo d
        omega
theorem cut_lo {T : Str} {k : Nat} : (cutS T none (some (k : Int))).length ≤ min k T.length := by
  rw [len_cps]
  unfold cutS
  rw [HT.sIx_nat]
  show ((T.cps.toList.drop 0).take (min k T.length - 0)).toArray.toList.length ≤ _
  rw [List.toList_toArray, List.length_take]
  omega
theorem cut_hi {T : Str} {k : Nat} : (cutS T (some (k : Int)) none).length ≤ T.length - min k T.length := by
  rw [len_cps (cutS T (some (k : Int)) none)]
  unfold cutS
  rw [HT.sIx_nat]
  show ((T.cps.toList.drop (min k T.length)).take (T.length - min k T.length)).toArray.toList.length ≤ _
  rw [List.toList_toArray, List.length_take]
  omega
theorem menu_len (i : Int) : (menuS i).length = 1 := rfl
theorem app_len (a b : Str) : (a ++ b).length = a.length + b.length := by rw [len_cps, app_list, List.length_append, ← len_cps, ← len_cps]
theorem edit_len (x : Int) (T : Str) : (editS x T).length ≤ T.length + 1 := by
  obtain ⟨k, hk, hk2⟩ : ∃ k : Nat, x % ((T.length : Int) + 1) = (k : Nat) ∧ k ≤ T.length := by
    have h1 : 0 ≤ x % ((T.length : Int) + 1) := Int.emod_nonneg _ (by omega)
    have h2 : x % ((T.length : Int) + 1) < (T.length : Int) + 1 := Int.emod_lt_of_pos _ (by omega)
    exact ⟨(x % ((T.length : Int) + 1)).toNat, by omega, by omega⟩
  have hk3 : ((k : Int) + 1) = ((k + 1 : Nat) : Int) := by omega
  unfold editS editL
  rw [hk, hk3]
  have a1 := cut_lo (T := T) (k := k)
  have a2 := cut_hi (T := T) (k := k)
  have a3 := cut_hi (T := T) (k := k + 1)
  have h1 : 0 ≤ x / 12000 % 4 := Int.emod_nonneg _ (by decide)
  have h2 : x / 12000 % 4 < 4 := Int.emod_lt_of_pos _ (by decide)
  generalize (x / 12000 % 4).toNat = j
  rcases j with _ | _ | _ | _ | j
  · show (cutS T none (some (k : Int)) ++ menuS (x / 512) ++ cutS T (some ((k + 1 : Nat) : Int)) none).length ≤ _
    rw [app_len, app_len, menu_len]; omega
  · show (cutS T none (some (k : Int)) ++ cutS T (some ((k + 1 : Nat) : Int)) none).length ≤ _
    rw [app_len]; omega
  · show (cutS T none (some (k : Int)) ++ menuS (x / 512) ++ cutS T (some (k : Int)) none).length ≤ _
    rw [app_len, app_len, menu_len]; omega
  · show (cutS T none (some (k : Int))).length ≤ _
    omega
  · show ("" : Str).length ≤ _
    rw [emp_len]; omega
theorem editN_len (ns : List Int) (T : Str) : ∀ i, (editN ns i T).length ≤ T.length + i
  | 0 => Nat.le_refl _
  | i + 1 => by
    have h1 := editN_len ns T i
    have h2 := edit_len (mixI ns (54 + (i : Nat))) (editN ns i T)
    show (editS _ _).length ≤ _
    omega
theorem sep_len (ns : List Int) : (sepS ns).length ≤ 1 := by
  have : ∀ i, i < 2 → ((["", " "] : List Str).getD i "").length ≤ 1 := by decide +kernel
  have h1 : 0 ≤ mixI ns 58 % 2 := Int.emod_nonneg _ (by decide)
  have h2 : mixI ns 58 % 2 < 2 := Int.emod_lt_of_pos _ (by decide)
  exact this _ (by omega)
theorem deep_le (ns : List Int) : deepN ns ≤ 3 ∧ 1 + mixI ns 59 % 3 = (deepN ns : Nat) := by
  have h1 : 0 ≤ mixI ns 59 % 3 := Int.emod_nonneg _ (by decide)
  have h2 : mixI ns 59 % 3 < 3 := Int.emod_lt_of_pos _ (by decide)
  unfold deepN
  omega
theorem words_cost (ns : List Int) : costW (wordsT (treeT ns (deepN ns) 1)) ≤ 560 := by
  have h1 := tree_cost ns (deepN ns) 1
  have h2 : ∀ d, d ≤ 3 → capX d ≤ 560 := by decide +kernel
  exact Nat.le_trans h1 (h2 _ (deep_le ns).1)
theorem free_small (ns : List Int) : (freeW ns).length ≤ 30 ∧ ∀ w ∈ freeW ns, w.length ≤ 1 := by
  have h1 : 0 ≤ mixI ns 59 % 31 := Int.emod_nonneg _ (by decide)
  have h2 : mixI ns 59 % 31 < 31 := Int.emod_lt_of_pos _ (by decide)
  unfold freeW
  refine ⟨by rw [List.length_map, List.length_range]; omega, fun w hw => ?_⟩
  obtain ⟨j, _, rfl⟩ := List.mem_map.mp hw
  exact Nat.le_refl _
theorem opn_small (ns : List Int) : (opnW ns).length ≤ 23 ∧ ∀ w ∈ opnW ns, w.length ≤ 3 := by
  have h1 : 0 ≤ mixI ns 59 % 6 := Int.emod_nonneg _ (by decide)
  have h2 : mixI ns 59 % 6 < 6 := Int.emod_lt_of_pos _ (by decide)
  unfold opnW
  refine ⟨by rw [List.length_map, List.length_range]; omega, fun w hw => ?_⟩
  obtain ⟨j, _, rfl⟩ := List.mem_map.mp hw
  have : ∀ i, i < 5 → ((["(", "[", "f(", "f (", "1+("] : List Str).getD i "").length ≤ 3 := by decide +kernel
  have h3 : 0 ≤ mixI ns (j : Nat) % 5 := Int.emod_nonneg _ (by decide)
  have h4 : mixI ns (j : Nat) % 5 < 5 := Int.emod_lt_of_pos _ (by decide)
  exact this _ (by omega)
theorem cl_len (s : Str) : (clS s).length ≤ 1 := by
  unfold clS
  split <;> decide +kernel
theorem join_emp {n : Nat} {ws : List Str} (h : ∀ w ∈ ws, w.length ≤ n) : (ws.map (·.length)).sum + ws.length * ("" : Str).length ≤ ws.length * n := by
  rw [emp_len, Nat.mul_zero]
  exact sum_cap h
theorem cls_small (ns : List Int) : ∀ w ∈ ((opnW ns).map clS).reverse, w.length ≤ 1 := fun w hw => by
  obtain ⟨j, _, rfl⟩ := List.mem_map.mp (List.mem_reverse.mp hw)
  exact cl_len j
theorem text_len (ns : List Int) : (textS ns).length ≤ 640 := by
  unfold textS
  split
  · obtain ⟨h1, h2⟩ := free_small ns
    have h3 := join_len "" (freeW ns)
    have h4 := join_emp h2
    omega
  · split
    · obtain ⟨h1, h2⟩ := opn_small ns
      have h3 := join_len "" (opnW ns)
      have h4 := join_emp h2
      have h5 := join_len "" ((opnW ns).map clS).reverse
      have h6 := join_emp (cls_small ns)
      rw [List.length_reverse, List.length_map] at h5 h6
      rw [app_len, app_len, show ("a" : Str).length = 1 by decide +kernel]
      omega
    · have h1 : 0 ≤ mixI ns 57 % 3 := Int.emod_nonneg _ (by decide)
      have h2 : mixI ns 57 % 3 < 3 := Int.emod_lt_of_pos _ (by decide)
      have h3 := editN_len ns (Txt.join (sepS ns) (wordsT (treeT ns (deepN ns) 1))) (mixI ns 57 % 3).toNat
      have h4 := join_len (sepS ns) (wordsT (treeT ns (deepN ns) 1))
      have h5 := cost_join (sep_len ns) (wordsT (treeT ns (deepN ns) 1))
      have h6 := words_cost ns
      omega
end Q
namespace Q
open PySem PySem.Spec PyProof.Rows L2 Pw
def RTextW (ds : List PyData) (out : Out) : Prop := ∃ ns, ds = [scrD ns] ∧ out = .ret (.str (textS ns))
theorem at_nat0 (l : List Nat) (i : Int) (h0 : 0 ≤ i) (h : i < (l.length : Int)) : atI l i = some (l.getD i.toNat 0) := by
  have e : i = ((i.toNat : Nat) : Int) := by omega
  have h2 : i.toNat < l.length := by omega
  rw [e]
  refine atI_nat ?_
  rw [List.getElem?_eq_getElem h2, Int.toNat_natCast, List.getD_eq_getElem?_getD, List.getElem?_eq_getElem h2]; rfl
theorem menu_at (i : Int) : atI ("ab09()[],+-* \n()[],x1.=" : Str).cps.toList (i % 23) = some (("ab09()[],+-* \n()[],x1.=" : Str).cps.toList.getD (i % 23).toNat 0) :=
  at_nat0 _ _ (Int.emod_nonneg _ (by decide)) (by rw [show ("ab09()[],+-* \n()[],x1.=" : Str).cps.toList.length = 23 by decide +kernel]; exact Int.emod_lt_of_pos _ (by decide))
theorem menu_sz : ("ab09()[],+-* \n()[],x1.=" : Str).length ≤ sizeLine := by decide +kernel
theorem at_two (b : Bool) : atI [PyData.str "]", .str ")"] (if b = true then 1 else 0 : Int) = some (.str ((["]", ")"] : List Str).getD (if b = true then 1 else 0 : Int).toNat "")) := by
  cases b <;> rfl
section
variable {P : Program} {w : World} {K : PySem.W.Frag} {mg : Str → Option Value} {base : Heap} {f : Addr} {fd : FuncData}
theorem cut_len (T : Str) (lo hi : Option Int) : (cutS T lo hi).length ≤ T.length := by
  rw [len_cps (cutS T lo hi), len_cps T]
  unfold cutS
  rw [List.toList_toArray, List.length_take, List.length_drop]
  omega
abbrev bT : List Stmt := match (defBody s_text).getD 6 (.Pass ⟨0, 0, 0, 0⟩) with | .For _ _ b _ _ => b | _ => []
theorem edit_body {cdv : Value} {A : Around} {outer : List Env} {s : Shared} {H : Hp} {E : XK} (hr : Room 19 (A.deeper (envOfC "_law_text" (defScope s_text) s.heap.objs.size f cdv))) {W : Wx} {D : DEnds} (mL : mg "len" = none) (GM : Kn P w K mg base "_law_mix" 2 (spP K 2 RMix)) {ns : List Int} (i : Nat) {T : Str} (hT2 : T.length ≤ 600) {w1 w7 : PyData} {o9 o10 o11 o12 : Option Ent}
    (hgo : ∀ o9 o10 o11 o12, D.nx [some (.val (scrD ns)), some (.val w1), some (.val (.str "ab09()[],+-* \n()[],x1.=")), some (.val (.int (i : Nat))), none, none, none, some (.val w7), some (.val (.str (editS (mixI ns (54 + (i : Nat))) T))), o9, o10, o11, o12]) :
    DSs (cxOf (L2.CX P w) P w K mg base N_text "_law_text" (defScope s_text) f cdv A outer s H E) W bT D [some (.val (scrD ns)), some (.val w1), some (.val (.str "ab09()[],+-* \n()[],x1.=")), some (.val (.int (i : Nat))), none, none, none, some (.val w7), some (.val (.str T)), o9, o10, o11, o12] := by
  refine dss_cons (ds_set 9 (de_call GM (hr.mono (by omega)) <| da_cons <| de_var 0 rfl <| da_cons <| de_op op_add <| de_int <| de_var 3 rfl ⟨_, od_I0, da_nil ⟨rfl, _, ⟨ns, _, rfl, rfl⟩, ?_⟩⟩) sc_text.nd)
  generalize mixI ns (54 + (i : Nat)) = x at hgo ⊢
  refine dss_cons (ds_set 10 (de_op op_mod <| de_var 9 rfl <| de_op op_add <| de_cb call_lenR mL boot_len <| da_cons <| de_var 8 rfl <| da_nil ⟨_, cd_lenS (small640 (Nat.le_trans hT2 (by decide))), de_int ⟨_, od_I0, _, od_I (by show (0 : Int) < _; omega), ?_⟩⟩) sc_text.nd)
  refine dss_cons (ds_set 11 (de_ixS <| de_var 2 rfl <| de_op op_mod <| de_op op_fdiv <| de_var 9 rfl <| de_int ⟨_, od_I ⟨by decide, by decide⟩, de_int ⟨_, od_I (by decide), _, _, _, rfl, rfl, menu_sz, menu_at _, ?_⟩⟩) sc_text.nd)
  have hsz : T.length ≤ sizeLine := Nat.le_trans hT2 (by decide)
  have cl : ∀ lo hi, (cutS T lo hi).length ≤ 600 := fun lo hi => Nat.le_trans (cut_len T lo hi) hT2
  have one : ∀ c : Nat, (⟨#[c]⟩ : Str).length ≤ 600 := fun c => by show 1 ≤ 600; decide
  have c2 : ∀ {a b : Str}, a.length ≤ 600 → b.length ≤ 600 → a.length + b.length ≤ sizeLine := fun h1 h2 => Nat.le_trans (Nat.add_le_add h1 h2) (by decide)
  have c3 : ∀ {a b c : Str}, a.length ≤ 600 → b.length ≤ 600 → c.length ≤ 600 → (a ++ b).length + c.length ≤ sizeLine := fun h1 h2 h3 => by rw [app_len]; exact Nat.le_trans (Nat.add_le_add (Nat.add_le_add h1 h2) h3) (by decide)
  refine dss_cons (ds_own 12 (dl_lst <| da_cons <| de_op op_catS <| de_op op_catS <| de_slS <| de_var 8 rfl <| de_var 10 rfl ⟨_, rfl, T, rfl, hsz, de_var 11 rfl ⟨_, od_catS (c2 (cl _ _) (one _)), de_slS <| de_var 8 rfl <| de_op op_add <| de_var 10 rfl <| de_int ⟨_, od_I0, _, rfl, T, rfl, hsz, _, od_catS (c3 (cl _ _) (one _) (cl _ _)), ?_⟩⟩⟩) sc_text.nd)
  refine da_cons <| de_op op_catS <| de_slS <| de_var 8 rfl <| de_var 10 rfl ⟨_, rfl, T, rfl, hsz, de_slS <| de_var 8 rfl <| de_op op_add <| de_var 10 rfl <| de_int ⟨_, od_I0, _, rfl, T, rfl, hsz, _, od_catS (c2 (cl _ _) (cl _ _)), ?_⟩⟩
  refine da_cons <| de_op op_catS <| de_op op_catS <| de_slS <| de_var 8 rfl <| de_var 10 rfl ⟨_, rfl, T, rfl, hsz, de_var 11 rfl ⟨_, od_catS (c2 (cl _ _) (one _)), de_slS <| de_var 8 rfl <| de_var 10 rfl ⟨_, rfl, T, rfl, hsz, _, od_catS (c3 (cl _ _) (one _) (cl _ _)), ?_⟩⟩⟩
  refine da_cons <| de_slS <| de_var 8 rfl <| de_var 10 rfl ⟨_, rfl, T, rfl, hsz, da_nil ⟨by show 4 ≤ sizeLine; decide, ?_⟩⟩
  refine dss_one (ds_set 8 (de_ixO 12 rfl (de_op op_mod <| de_op op_fdiv <| de_var 9 rfl <| de_int ⟨_, od_I ⟨by decide, by decide⟩, de_int ⟨_, od_I (by decide), rfl, _, _, rfl, at_mod PyData.str (editL x T) "" _ 4 rfl (by decide), ?_⟩⟩)) sc_text.nd)
  exact hgo _ _ _ _
theorem kn_ltext (F : Fun K "_law_text" "_law_text" s_text f fd) (hm : mg "_law_text" = some (.ref f)) (hb : L2.Binds K fd P_text []) (mL : mg "len" = none) (mR : mg "range" = none) (mI : mg "int" = none)
    (GM : Kn P w K mg base "_law_mix" 2 (spP K 2 RMix)) (GT : ∀ d, Kn P w K mg base "_law_tree" (d + 3) (spP K 4 (RTree d))) (GW : ∀ n, n ≤ 8 → Kn P w K mg base "_law_words" (2 * n + 1) (spP K 1 (RWords n))) : Kn P w K mg base "_law_text" 20 (spP K 1 RTextW) := by
  refine kn_def F sc_text hm hb rfl fun cdv A outer s H E hr ds out hl hR => ?_
  obtain ⟨ns, rfl, rfl⟩ := hR
  have big : ∀ {n : Nat}, n ≤ 1000 → n ≤ 16777216 := fun h => Nat.le_trans h (by decide)
  refine dss_cons (ds_set 1 (de_op op_mod <| de_call GM (hr.mono (by omega)) <| da_cons <| de_var 0 rfl <| da_cons <| de_int <| da_nil ⟨rfl, _, ⟨ns, _, rfl, rfl⟩, de_int ⟨_, od_I (by decide), ?_⟩⟩) sc_text.nd)
  refine dss_cons (ds_set 2 (de_str ?_) sc_text.nd)
  -- free signs
  refine dss_cons (ds_if <| dt_cmp op_eq (de_var 1 rfl <| de_int ⟨_, od_eq rfl rfl rfl, ?_⟩) (nomark _))
  refine eqi (fun c0 => ?_) fun c0 => ?_
  · have et : textS ns = Txt.join "" (freeW ns) := if_pos c0
    rw [et]
    obtain ⟨f1, f2⟩ := free_small ns
    have f3 := join_emp f2
    refine dss_one (ds_ret <| de_m1 PySem.F.slot_str_join PySem.F.type_str_join mt_join <| de_str ⟨_, rfl, de_new <| dl_lc 3 (di_range mR <| de_op op_mod <| de_call GM (hr.mono (by omega)) <| da_cons <| de_var 0 rfl <| da_cons <| de_int <| da_nil ⟨rfl, _, ⟨ns, _, rfl, rfl⟩, de_int ⟨_, od_I (by decide), _, rfl, ?_⟩⟩) sc_text.nd (ok := blkOk_by (show blkC N_text (defScope s_text) _ _ = true by decide +kernel)) (hg := fun _ _ _ _ _ => pg_name sc_text.nd rfl (Or.inl rfl))⟩)
    have h1 : 0 ≤ mixI ns 59 % 31 := Int.emod_nonneg _ (by decide)
    have h2 : mixI ns 59 % 31 < 31 := Int.emod_lt_of_pos _ (by decide)
    refine ⟨by omega, by omega, rfl, (freeW ns).map PyData.str, ?_, ?_, ?_, ?_⟩
    · rw [range_len, List.length_map]; unfold freeW; rw [List.length_map, List.length_range]
    · rw [List.length_map]; exact Nat.le_trans f1 (by decide)
    · intro s H0 C cl fp j dd r hd hr'
      obtain ⟨hj, rfl⟩ := range_get hd
      have er : r = .str (menuS (mixI ns (j : Nat))) := by
        unfold freeW at hr'
        rw [List.map_map, List.getElem?_map, List.getElem?_range hj] at hr'
        exact (Option.some.inj hr').symm
      subst er
      exact de_ixS <| de_var 2 rfl <| de_op op_mod <| de_call GM (hr.mono (by omega)) <| da_cons <| de_var 0 rfl <| da_cons <| de_var 3 rfl <| da_nil ⟨rfl, _, ⟨ns, _, rfl, rfl⟩, de_int ⟨_, od_I (by decide), _, _, _, rfl, rfl, menu_sz, menu_at _, rfl, rfl⟩⟩
    · exact ⟨_, md_join (big (by omega)), rfl⟩
  -- many brackets
  refine dss_nil <| dss_cons (ds_if <| dt_cmp op_eq (de_var 1 rfl <| de_int ⟨_, od_eq rfl rfl rfl, ?_⟩) (nomark _))
  refine eqi (fun c1 => ?_) fun c1 => ?_
  · have et : textS ns = Txt.join "" (opnW ns) ++ "a" ++ Txt.join "" ((opnW ns).map clS).reverse := by
      unfold textS
      rw [if_neg c0, if_pos c1]
    have hlen := text_len ns
    rw [et] at hlen ⊢
    obtain ⟨f1, f2⟩ := opn_small ns
    have f3 := join_emp f2
    have f4 := join_emp (cls_small ns)
    rw [List.length_reverse, List.length_map] at f4
    have h1 : 0 ≤ mixI ns 59 % 6 := Int.emod_nonneg _ (by decide)
    have h2 : mixI ns 59 % 6 < 6 := Int.emod_lt_of_pos _ (by decide)
    refine dss_cons (ds_lc 3 4 (di_range mR <| de_op op_add <| de_int <| de_op op_mod <| de_call GM (hr.mono (by omega)) <| da_cons <| de_var 0 rfl <| da_cons <| de_int <| da_nil ⟨rfl, _, ⟨ns, _, rfl, rfl⟩, de_int ⟨_, od_I (by decide), _, od_I0, _, rfl, ?_⟩⟩) sc_text.nd (ok := blkOk_by (show blkC N_text (defScope s_text) _ _ = true by decide +kernel)) (hg := fun _ _ _ _ _ => pg_name sc_text.nd rfl (Or.inl rfl)))
    refine ⟨by omega, by omega, rfl, (opnW ns).map PyData.str, ?_, ?_, ?_, ?_⟩
    · rw [range_len, List.length_map]; unfold opnW; rw [List.length_map, List.length_range]
    · rw [List.length_map]; exact Nat.le_trans f1 (by decide)
    · intro s H0 C cl fp j dd r hd hr'
      obtain ⟨hj, rfl⟩ := range_get hd
      have er : r = .str (opS (mixI ns (j : Nat))) := by
        unfold opnW at hr'
        rw [List.map_map, List.getElem?_map, List.getElem?_range hj] at hr'
        exact (Option.some.inj hr').symm
      subst er
      refine de_ix <| dp_list <| de_new <| dl_lst <| da_cons <| de_str <| da_cons <| de_str <| da_cons <| de_str <| da_cons <| de_str <| da_cons <| de_str <| da_nil ⟨by show 5 ≤ sizeLine; decide, _, rfl, ?_⟩
      exact de_op op_mod <| de_call GM (hr.mono (by omega)) <| da_cons <| de_var 0 rfl <| da_cons <| de_var 3 rfl <| da_nil ⟨rfl, _, ⟨ns, _, rfl, rfl⟩, de_int ⟨_, od_I (by decide), _, _, rfl, at_mod PyData.str ["(", "[", "f(", "f (", "1+("] "" _ 5 rfl (by decide), rfl, rfl⟩⟩
    refine dss_cons (ds_lc 6 5 (di_list <| de_var 4 rfl ⟨_, rfl, ?_⟩) sc_text.nd (ok := blkOk_by (show blkC N_text (defScope s_text) _ _ = true by decide +kernel)) (hg := fun _ _ _ _ _ => pg_name sc_text.nd rfl (Or.inl rfl)))
    refine ⟨rfl, ((opnW ns).map clS).map PyData.str, ?_, ?_, ?_, ?_⟩
    · rw [List.length_map, List.length_map, List.length_map]
    · rw [List.length_map, List.length_map]; exact Nat.le_trans f1 (by decide)
    · intro s H0 C cl fp j dd r hd hr'
      rw [List.getElem?_map] at hd
      rw [List.map_map, List.getElem?_map] at hr'
      cases e : (opnW ns)[j]? with
      | none => rw [e] at hd; cases hd
      | some z =>
        rw [e] at hd hr'
        cases hd
        have er : r = .str (clS z) := (Option.some.inj hr').symm
        subst er
        refine de_ix <| dp_list <| de_new <| dl_lst <| da_cons <| de_str <| da_cons <| de_str <| da_nil ⟨by show 2 ≤ sizeLine; decide, _, rfl, ?_⟩
        exact de_ct call_intR mI boot_int <| da_cons <| de_cmp op_inS (de_str <| de_var 6 rfl ⟨_, od_inS (neg := false) (c := 40), da_nil ⟨_, cd_intB, _, _, rfl, at_two _, rfl, rfl⟩⟩) (by rfl)
    have l3 := join_len "" (opnW ns)
    have l4 := join_len "" ((opnW ns).map clS).reverse
    rw [List.length_reverse, List.length_map] at l4
    have l5 : ("a" : Str).length = 1 := by decide +kernel
    refine dss_one (ds_ret <| de_op op_catS <| de_op op_catS <| de_m1 PySem.F.slot_str_join PySem.F.type_str_join mt_join <| de_str ⟨_, rfl, de_var 4 rfl ⟨_, md_join (big (by omega)), de_str ⟨_, od_catS ?_, de_m1 PySem.F.slot_str_join PySem.F.type_str_join mt_join <| de_str ⟨_, rfl, de_new <| dl_rev <| de_var 5 rfl ⟨_, rfl, ?_⟩⟩⟩⟩⟩)
    · rw [l5]; exact Nat.le_trans (show _ ≤ 1000 by omega) (by decide)
    · rw [← List.map_reverse]
      refine ⟨_, md_join (big (by rw [List.length_reverse, List.length_map]; omega)), _, od_catS ?_, rfl⟩
      rw [app_len, l5]
      exact Nat.le_trans (show _ ≤ 1000 by omega) (by decide)
  -- an expression, changed
  have et : textS ns = editN ns (mixI ns 57 % 3).toNat (Txt.join (sepS ns) (wordsT (treeT ns (deepN ns) 1))) := by
    unfold textS
    rw [if_neg c0, if_neg c1]
  have ej : (Txt.join (sepS ns) (wordsT (treeT ns (deepN ns) 1))).length ≤ 560 := by
    have h4 := join_len (sepS ns) (wordsT (treeT ns (deepN ns) 1))
    have h5 := cost_join (sep_len ns) (wordsT (treeT ns (deepN ns) 1))
    have h6 := words_cost ns
    omega
  have h5 := cost_join (sep_len ns) (wordsT (treeT ns (deepN ns) 1))
  have h6 := words_cost ns
  have ok := tree_ok ns (deepN ns) 1
  obtain ⟨d3, d4⟩ := deep_le ns
  rw [et]
  refine dss_nil <| dss_cons (ds_set 7 (de_call (GW (deepN ns) (by omega)) (hr.mono (by omega)) <| da_cons <| de_call (GT (deepN ns)) (hr.mono (by omega)) <| da_cons <| de_var 0 rfl <| da_cons <| de_int <| da_cons <| de_op op_add <| de_int <| de_op op_mod <| de_call GM (hr.mono (by omega)) <| da_cons <| de_var 0 rfl <| da_cons <| de_int <| da_nil ⟨rfl, _, ⟨ns, _, rfl, rfl⟩, de_int ⟨_, od_I (by decide), _, od_I0, da_cons <| de_int <| da_nil ⟨rfl, _, ⟨ns, 1, by rw [d4], rfl⟩, da_nil ⟨rfl, _, ⟨_, ok, rfl, rfl⟩, ?_⟩⟩⟩⟩) sc_text.nd)
  refine dss_cons (ds_set 8 (de_m1 PySem.F.slot_str_join PySem.F.type_str_join mt_join <| de_ix <| dp_list <| de_new <| dl_lst <| da_cons <| de_str <| da_cons <| de_str <| da_nil ⟨by show 2 ≤ sizeLine; decide, _, rfl, de_op op_mod <| de_call GM (hr.mono (by omega)) <| da_cons <| de_var 0 rfl <| da_cons <| de_int <| da_nil ⟨rfl, _, ⟨ns, _, rfl, rfl⟩, de_int ⟨_, od_I (by decide), _, _, rfl, at_mod PyData.str ["", " "] "" _ 2 rfl (by decide), sepS ns, rfl, de_var 7 rfl ⟨_, md_join (big (by omega)), ?_⟩⟩⟩⟩) sc_text.nd)
  generalize Txt.join (sepS ns) (wordsT (treeT ns (deepN ns) 1)) = T0 at ej ⊢
  generalize strsD (wordsT (treeT ns (deepN ns) 1)) = w7
  have h1 : 0 ≤ mixI ns 57 % 3 := Int.emod_nonneg _ (by decide)
  have h2 : mixI ns 57 % 3 < 3 := Int.emod_lt_of_pos _ (by decide)
  refine dss_cons (ds_for 3 (di_range mR <| de_op op_mod <| de_call GM (hr.mono (by omega)) <| da_cons <| de_var 0 rfl <| da_cons <| de_int <| da_nil ⟨rfl, _, ⟨ns, _, rfl, rfl⟩, de_int ⟨_, od_I (by decide), _, rfl, by omega, by omega, fun i ρ => ∃ o3 o9 o10 o11 o12, ρ = [some (.val (scrD ns)), some (.val (.int (mixI ns 60 % 6))), some (.val (.str "ab09()[],+-* \n()[],x1.=")), o3, none, none, none, some (.val w7), some (.val (.str (editN ns i T0))), o9, o10, o11, o12], ⟨_, _, _, _, _, rfl⟩, ?_, ?_⟩⟩) sc_text.nd)
  · rintro i d ρ hd ⟨o3, o9, o10, o11, o12, rfl⟩
    obtain ⟨hi, rfl⟩ := range_get hd
    have hT := editN_len ns T0 i
    exact edit_body hr mL GM i (by omega) fun o9 o10 o11 o12 => ⟨_, _, _, _, _, rfl⟩
  · rintro ρ ⟨o3, o9, o10, o11, o12, rfl⟩
    rw [range_len]
    exact dss_one (ds_ret <| de_var 8 rfl rfl)
end
end Q
namespace Q
open PySem PySem.Spec PyProof.Rows L2 Pw
def RWhole (ds : List PyData) (out : Out) : Prop := ∃ i : Int, ds = [.int i] ∧ out = .ret (.bool true)
structure LawT (P : Program) (w : World) (K : PySem.W.Frag) (mg : Str → Option Value) (base : Heap) (CB CX CP : Addr) : Prop where
  text : Kn P w K mg base "_law_text" 20 (spP K 1 RTextW)
  read : Kn P w K mg base "read" 88 (spP K 1 (RRead CB))
  wrong : Kn P w K mg base "_law_wrong" 2 (spP K 1 RWrong)
  whole : Kn P w K mg base "_law_whole" 1 (spP K 1 RWhole)
  inst : mg "isinstance" = none
  val : mg "ValueError" = none
  gB : mg "BadText" = some (.ref CB)
  gX : mg "BadBits" = some (.ref CX)
  gP : mg "PrintError" = some (.ref CP)
  ex : ExcC K CB
  xf : XfC K CB
  np : PySem.W.findIn K (.ref CB) "place" = some none
  ex1 : PySem.W.exmOne K (.ref CB) (.ref CP) = some true
  k1 : PySem.W.kitOne K (.ref CB) (.ref CB) = some true
  k2 : PySem.W.kitOne K (.ref CB) (.type "ValueError") = some true
  k3 : PySem.W.kitOne K (.ref CB) (.ref CX) = some false
section
variable {P : Program} {w : World} {K : PySem.W.Frag} {mg : Str → Option Value} {base : Heap} {CB CX CP : Addr} {f : Addr} {fd : FuncData}
theorem kn_whole (F : Fun K "_law_whole" "_law_whole" s_whole f fd) (hm : mg "_law_whole" = some (.ref f)) (hb : L2.Binds K fd P_whole []) (mI : mg "isinstance" = none) (mT : mg "int" = none) (mB : mg "bool" = none) : Kn P w K mg base "_law_whole" 1 (spP K 1 RWhole) := by
  refine kn_def F sc_whole hm hb rfl fun cdv A outer s H E hr ds out hl hR => ?_
  obtain ⟨i, rfl, rfl⟩ := hR
  refine dss_one (ds_ret <| de_and <| de_isi (T := "int") mI mT boot_int <| de_var 0 rfl ⟨"int", true, rfl, by decide +kernel, true, rfl, ?_⟩)
  refine iteT <| de_one <| de_not <| de_isi (T := "bool") mI mB (by decide +kernel) <| de_var 0 rfl ⟨"int", false, rfl, by decide +kernel, false, rfl, rfl⟩
theorem ok_law (F : Fun K "law" "law" s_law f fd) (L : LawT P w K mg base CB CX CP) : FnOk P w K mg base (L2.CX P w) 90 f fd P_law (spP K 1 RLaw) := by
  refine ok_def F sc_law rfl fun cdv A outer s H E hr ds out hl hR => ?_
  obtain ⟨ns, _, rfl, rfl⟩ := hR
  have hT := text_len ns
  refine dss_cons (ds_set 1 (de_call L.text (hr.mono (by decide)) <| da_cons <| de_var 0 rfl <| da_nil ⟨rfl, _, ⟨ns, rfl, rfl⟩, ?_⟩) sc_law.nd)
  generalize textS ns = T at hT ⊢
  obtain ⟨r, hS⟩ := read_tot hT
  have hA := read_au hS
  have hT2 : T.length ≤ 100000 := Nat.le_trans hT (by decide)
  refine dss_cons (ds_set 2 (de_non ?_) sc_law.nd)
  have rest : ∀ (k : PyData), (endW T r = none → k = .none) → (∀ q, endW T r = some q → k = excD CB [("place", (q : Nat))]) →
      DSs (cxOf (L2.CX P w) P w K mg base N_law "law" (defScope s_law) f cdv A outer s H E) (fun c xs => Out.ret (.bool true) = .exc c xs) ((defBody s_law).drop 3) { nx := fun _ => Out.ret (.bool true) = .ret .none, rt := fun d _ => Out.ret (.bool true) = .ret d }
        [some (.val (scrD ns)), some (.val (.str T)), some (.val k), none, none, none] := fun k h1 h2 => by
    refine dss_cons (ds_set 4 (de_call L.wrong (hr.mono (by decide)) <| da_cons <| de_var 1 rfl <| da_nil ⟨rfl, _, ⟨T, _, hT2, rfl, hA, rfl⟩, ?_⟩) sc_law.nd)
    refine dss_cons (ds_if <| dt_cmp op_lt (de_var 4 rfl <| de_int ⟨_, od_B0, ?_⟩) (nomark _))
    cases e : endW T r with
    | none =>
      obtain rfl := h1 e
      exact iteT <| dss_one (ds_ret <| de_cmp op_isNn (de_var 2 rfl <| de_non ⟨_, od_isN, rfl⟩) (by rfl))
    | some q =>
      obtain rfl := h2 q e
      have e0 : decide (wI (some q) < 0) = false := decide_eq_false (by show ¬ ((q : Int) < 0); omega)
      rw [e0]
      refine iteF <| dss_nil <| dss_cons (ds_set 5 (de_and <| de_isKo (fs := [("place", (q : Nat))]) L.inst L.gB L.ex L.k1 <| de_var 2 rfl ⟨rfl, true, rfl, ?_⟩) sc_law.nd)
      refine iteT <| de_and <| de_isKt (T := "ValueError") (fs := [("place", (q : Nat))]) L.inst L.val (by decide +kernel) L.ex L.k2 <| de_var 2 rfl ⟨rfl, true, rfl, ?_⟩
      refine iteT <| de_one <| de_not <| de_isKo (fs := [("place", (q : Nat))]) L.inst L.gX L.ex L.k3 <| de_var 2 rfl ⟨rfl, false, rfl, ?_⟩
      refine dss_one (ds_ret <| de_and <| de_var 5 rfl ⟨true, rfl, ?_⟩)
      refine iteT <| de_and <| de_call L.whole (hr.mono (by decide)) <| da_cons <| de_kf (fs := [("place", (q : Nat))]) L.xf L.np <| de_var 2 rfl ⟨rfl, (q : Nat), ?_, da_nil ⟨rfl, _, ⟨(q : Nat), rfl, rfl⟩, true, rfl, ?_⟩⟩
      · rw [List.lookup_cons, beq_self_eq_true]
      · refine iteT <| de_one <| de_cmp op_eq (de_kf (fs := [("place", (q : Nat))]) L.xf L.np <| de_var 2 rfl ⟨rfl, (q : Nat), ?_, de_var 4 rfl ⟨_, od_eq rfl rfl rfl, ?_⟩⟩) (nomark _)
        · rw [List.lookup_cons, beq_self_eq_true]
        · show Out.ret (.bool true) = .ret (.bool (decide (V.int (q : Nat) = V.int (q : Nat))))
          rw [decide_eq_true rfl]
  refine dss_cons (ds_try1 1 3 2 L.read (hr.mono (by decide)) ⟨rfl, by decide, .inl L.gP⟩ rfl rfl ⟨endR CB T r, ⟨T, r, hT2, rfl, hS, rfl⟩, ?_⟩ (by decide) sc_law.nd)
  have exc : ∀ q : Nat, endW T r = some q → endR CB T r = .exc (.ref CB) [("place", .int (q : Nat))] := fun q e => by
    cases r with
    | error q' => cases e; rfl
    | ok x =>
      obtain ⟨t, q'⟩ := x
      have e' : (if sg T (sk T q') = none then none else some (sk T q')) = some q := e
      show (if sg T (sk T q') = none then Out.ret (encT t) else .exc (.ref CB) [("place", .int (sk T q' : Nat))]) = _
      split at e'
      · cases e'
      · rename_i h; rw [if_neg h]; cases e'; rfl
  have ret : endW T r = none → ∃ d, endR CB T r = .ret d := fun e => by
    cases r with
    | error q' => cases e
    | ok x =>
      obtain ⟨t, q'⟩ := x
      have e' : (if sg T (sk T q') = none then none else some (sk T q')) = none := e
      show ∃ d, (if sg T (sk T q') = none then Out.ret (encT t) else .exc (.ref CB) [("place", .int (sk T q' : Nat))]) = .ret d
      split at e'
      · rename_i h; exact ⟨_, if_pos h⟩
      · cases e'
  cases e : endW T r with
  | none =>
    obtain ⟨d, ed⟩ := ret e
    rw [ed]
    exact rest .none (fun _ => rfl) fun q z => by rw [e] at z; cases z
  | some q =>
    rw [exc q e]
    exact ⟨CB, [("place", (q : Nat))], rfl, rfl, L.ex1, rest (excD CB [("place", (q : Nat))]) (fun z => by rw [e] at z; cases z) fun q' z => by rw [e] at z; cases z; rfl⟩
end
end Q
namespace Q
open PySem PySem.Spec PyProof.Rows L2 Pw
theorem all_mk {l : PySem.W.OpenLaw} {w : World} {K : PySem.W.Frag} {mg : Str → Option Value} {fa : Addr} {h : Heap} (X : K.In h) (G : h.Ns mainGlobals mg) (hfa : mg "law" = some (.ref fa))
    {CB PE CX : Addr} {nmB qB : Str} {NB : Addr} {bsB : List Value} {snB : List Str} {subB : List Value} {abB : Bool} {colB : Option Bool} {ddB : Option Addr} {x0B x1B x2B x3B x5B : Option Value}
    {f1 : Addr} {od1 an1 : Option Addr} {sl1 : Array (Option Value)} {oc1 kV1 dc1 pm1 cd1 ct1 : Value}
    {CT : Addr}
    {f2 : Addr} {od2 an2 : Option Addr} {sl2 : Array (Option Value)} {oc2 kV2 dc2 pm2 cd2 ct2 : Value}
    {f3 : Addr} {od3 an3 : Option Addr} {sl3 : Array (Option Value)} {oc3 kV3 dc3 pm3 cd3 ct3 : Value}
    {f4 : Addr} {od4 an4 : Option Addr} {sl4 : Array (Option Value)} {oc4 kV4 dc4 pm4 cd4 ct4 : Value}
    {f5 : Addr} {od5 an5 : Option Addr} {sl5 : Array (Option Value)} {oc5 kV5 dc5 pm5 cd5 ct5 : Value}
    {f6 : Addr} {od6 an6 : Option Addr} {sl6 : Array (Option Value)} {oc6 kV6 dc6 pm6 cd6 ct6 : Value}
    {f7 : Addr} {od7 an7 : Option Addr} {sl7 : Array (Option Value)} {oc7 kV7 dc7 pm7 cd7 ct7 : Value}
    {f8 : Addr} {od8 an8 : Option Addr} {sl8 : Array (Option Value)} {oc8 kV8 dc8 pm8 cd8 ct8 : Value}
    {f9 : Addr} {od9 an9 : Option Addr} {sl9 : Array (Option Value)} {oc9 kV9 dc9 pm9 cd9 ct9 : Value}
    {f10 : Addr} {od10 an10 : Option Addr} {sl10 : Array (Option Value)} {oc10 kV10 dc10 pm10 cd10 ct10 : Value}
    {f11 : Addr} {od11 an11 : Option Addr} {sl11 : Array (Option Value)} {oc11 kV11 dc11 pm11 cd11 ct11 : Value}
    {f12 : Addr} {od12 an12 : Option Addr} {sl12 : Array (Option Value)} {oc12 kV12 dc12 pm12 cd12 ct12 : Value}
    {f13 : Addr} {od13 an13 : Option Addr} {sl13 : Array (Option Value)} {oc13 kV13 dc13 pm13 cd13 ct13 : Value}
    {f14 : Addr} {od14 an14 : Option Addr} {sl14 : Array (Option Value)} {oc14 kV14 dc14 pm14 cd14 ct14 : Value}
    {f15 : Addr} {od15 an15 : Option Addr} {sl15 : Array (Option Value)} {oc15 kV15 dc15 pm15 cd15 ct15 : Value}
    {f16 : Addr} {od16 an16 : Option Addr} {sl16 : Array (Option Value)} {oc16 kV16 dc16 pm16 cd16 ct16 : Value}
    {f17 : Addr} {od17 an17 : Option Addr} {sl17 : Array (Option Value)} {oc17 kV17 dc17 pm17 cd17 ct17 : Value}
    {f18 : Addr} {od18 an18 : Option Addr} {sl18 : Array (Option Value)} {oc18 kV18 dc18 pm18 cd18 ct18 : Value}
    {f19 : Addr} {od19 an19 : Option Addr} {sl19 : Array (Option Value)} {oc19 kV19 dc19 pm19 cd19 ct19 : Value}
    {f20 : Addr} {od20 an20 : Option Addr} {sl20 : Array (Option Value)} {oc20 kV20 dc20 pm20 cd20 ct20 : Value}
    {f21 : Addr} {od21 an21 : Option Addr} {sl21 : Array (Option Value)} {oc21 kV21 dc21 pm21 cd21 ct21 : Value}
    {f22 : Addr} {od22 an22 : Option Addr} {sl22 : Array (Option Value)} {oc22 kV22 dc22 pm22 cd22 ct22 : Value}
    {f23 : Addr} {od23 an23 : Option Addr} {sl23 : Array (Option Value)} {oc23 kV23 dc23 pm23 cd23 ct23 : Value}
    {tw : Tok}
    {tl : Tok}
    {tf : Tok}
    {td : Tok}
    (gB : PySem.W.nsIn K mainGlobals "BadText" = some (some (.ref CB)))
    (xLB : K.lookup CB = some (excClassObj nmB qB CB NB bsB [.ref PE, .type "ValueError", .type "Exception", .type "BaseException", .type "object"] true snB subB abB colB ddB x0B x1B x2B x3B x5B "ValueError.__new__"))
    (saB : PySem.W.findIn K (.ref CB) "__setattr__" = some (some (.builtin "object.__setattr__")))
    (eCB : PySem.W.subIn K (.ref CB) (.type "BaseException") = some true)
    (tCB : PySem.W.typeIn K (.ref CB) = some (.type "type"))
    (kcB : PySem.W.keepIn K (.ref CB) = true)
    (npB : PySem.W.findIn K (.ref CB) "place" = some none)
    (gX : PySem.W.nsIn K mainGlobals "BadBits" = some (some (.ref CX)))
    (gP : PySem.W.nsIn K mainGlobals "PrintError" = some (some (.ref PE)))
    (e1 : PySem.W.findIn K (.ref CB) "__getattribute__" = some (some (.builtin "BaseException.__getattribute__")))
    (e2 : PySem.W.findIn K (.ref CB) "__getattr__" = some none)
    (e4 : PySem.W.hasDictIn K CB = true)
    (e5 : PySem.W.findIn K (.ref CB) "__class__" = some (some (.builtin "object.__class__")))
    (e6 : PySem.W.specialIn K (.builtin "object.__class__") "__get__" = some (some (.builtin "getset_descriptor.__get__")))
    (e7 : PySem.W.takesIn K (.builtin "object.__class__") = some true)
    (e8 : PySem.W.mroIn K CB (.type "object") = some true)
    (x1 : PySem.W.exmOne K (.ref CB) (.ref PE) = some true)
    (q1 : PySem.W.kitOne K (.ref CB) (.ref CB) = some true)
    (q2 : PySem.W.kitOne K (.ref CB) (.type "ValueError") = some true)
    (q3 : PySem.W.kitOne K (.ref CB) (.ref CX) = some false)
    (a1 : PySem.W.findIn K (.ref CB) "__init__" = some (some (.ref f1)))
    (t1 : PySem.W.typeIn K (.ref f1) = some (.type "function"))
    (l1 : K.lookup f1 = some ⟨oc1, od1, .func (PySem.W.fnOf "__init__" "BadText.__init__" (defArgs s_BadText_init) (defBody s_BadText_init) (defScope s_BadText_init) .none kV1 dc1 pm1 an1 cd1 ct1), sl1⟩)
    (c1 : PySem.W.codeIn K cd1 "BadText.__init__" = true)
    (k1 : PySem.W.keepIn K (.ref f1) = true)
    (gCT : PySem.W.nsIn K mainGlobals "Tape" = some (some (.ref CT)))
    (pgCT : PySem.W.plainGet K CT Str.empty = true)
    (hdCT : PySem.W.hasDictIn K CT = true)
    (poCT : PySem.W.plainOver K CT = true)
    (saCT : PySem.W.findIn K (.ref CT) "__setattr__" = some (some (.builtin "object.__setattr__")))
    (mkCT : PySem.W.makesIn K CT = true)
    (kcCT : PySem.W.keepIn K (.ref CT) = true)
    (nCT_text : PySem.W.findIn K (.ref CT) "text" = some none)
    (nCT_at : PySem.W.findIn K (.ref CT) "at" = some none)
    (a2 : PySem.W.findIn K (.ref CT) "__init__" = some (some (.ref f2)))
    (i2 : PySem.W.isFn K (.ref f2) = true)
    (l2 : K.lookup f2 = some ⟨oc2, od2, .func (PySem.W.fnOf "__init__" "Tape.__init__" (defArgs s_Tape_init) (defBody s_Tape_init) (defScope s_Tape_init) .none kV2 dc2 pm2 an2 cd2 ct2), sl2⟩)
    (c2 : PySem.W.codeIn K cd2 "Tape.__init__" = true)
    (k2 : PySem.W.keepIn K (.ref f2) = true)
    (a3 : PySem.W.findIn K (.ref CT) "refuse" = some (some (.ref f3)))
    (i3 : PySem.W.isFn K (.ref f3) = true)
    (l3 : K.lookup f3 = some ⟨oc3, od3, .func (PySem.W.fnOf "refuse" "Tape.refuse" (defArgs s_Tape_refuse) (defBody s_Tape_refuse) (defScope s_Tape_refuse) .none kV3 dc3 pm3 an3 cd3 ct3), sl3⟩)
    (c3 : PySem.W.codeIn K cd3 "Tape.refuse" = true)
    (k3 : PySem.W.keepIn K (.ref f3) = true)
    (a4 : PySem.W.findIn K (.ref CT) "skip" = some (some (.ref f4)))
    (i4 : PySem.W.isFn K (.ref f4) = true)
    (l4 : K.lookup f4 = some ⟨oc4, od4, .func (PySem.W.fnOf "skip" "Tape.skip" (defArgs s_Tape_skip) (defBody s_Tape_skip) (defScope s_Tape_skip) .none kV4 dc4 pm4 an4 cd4 ct4), sl4⟩)
    (c4 : PySem.W.codeIn K cd4 "Tape.skip" = true)
    (k4 : PySem.W.keepIn K (.ref f4) = true)
    (a5 : PySem.W.findIn K (.ref CT) "sees" = some (some (.ref f5)))
    (i5 : PySem.W.isFn K (.ref f5) = true)
    (l5 : K.lookup f5 = some ⟨oc5, od5, .func (PySem.W.fnOf "sees" "Tape.sees" (defArgs s_Tape_sees) (defBody s_Tape_sees) (defScope s_Tape_sees) .none kV5 dc5 pm5 an5 cd5 ct5), sl5⟩)
    (c5 : PySem.W.codeIn K cd5 "Tape.sees" = true)
    (k5 : PySem.W.keepIn K (.ref f5) = true)
    (a6 : PySem.W.findIn K (.ref CT) "wants" = some (some (.ref f6)))
    (i6 : PySem.W.isFn K (.ref f6) = true)
    (l6 : K.lookup f6 = some ⟨oc6, od6, .func (PySem.W.fnOf "wants" "Tape.wants" (defArgs s_Tape_wants) (defBody s_Tape_wants) (defScope s_Tape_wants) .none kV6 dc6 pm6 an6 cd6 ct6), sl6⟩)
    (c6 : PySem.W.codeIn K cd6 "Tape.wants" = true)
    (k6 : PySem.W.keepIn K (.ref f6) = true)
    (a7 : PySem.W.findIn K (.ref CT) "run" = some (some (.ref f7)))
    (i7 : PySem.W.isFn K (.ref f7) = true)
    (l7 : K.lookup f7 = some ⟨oc7, od7, .func (PySem.W.fnOf "run" "Tape.run" (defArgs s_Tape_run) (defBody s_Tape_run) (defScope s_Tape_run) .none kV7 dc7 pm7 an7 cd7 ct7), sl7⟩)
    (c7 : PySem.W.codeIn K cd7 "Tape.run" = true)
    (k7 : PySem.W.keepIn K (.ref f7) = true)
    (a8 : PySem.W.nsIn K mainGlobals "read_parts" = some (some (.ref f8)))
    (l8 : K.lookup f8 = some ⟨oc8, od8, .func (PySem.W.fnOf "read_parts" "read_parts" (defArgs s_read_parts) (defBody s_read_parts) (defScope s_read_parts) .none kV8 dc8 pm8 an8 cd8 ct8), sl8⟩)
    (c8 : PySem.W.codeIn K cd8 "read_parts" = true)
    (k8 : PySem.W.keepIn K (.ref f8) = true)
    (a9 : PySem.W.nsIn K mainGlobals "opened" = some (some (.ref f9)))
    (l9 : K.lookup f9 = some ⟨oc9, od9, .func (PySem.W.fnOf "opened" "opened" (defArgs s_opened) (defBody s_opened) (defScope s_opened) .none kV9 dc9 pm9 an9 cd9 ct9), sl9⟩)
    (c9 : PySem.W.codeIn K cd9 "opened" = true)
    (k9 : PySem.W.keepIn K (.ref f9) = true)
    (a10 : PySem.W.nsIn K mainGlobals "read_plain" = some (some (.ref f10)))
    (l10 : K.lookup f10 = some ⟨oc10, od10, .func (PySem.W.fnOf "read_plain" "read_plain" (defArgs s_read_plain) (defBody s_read_plain) (defScope s_read_plain) .none kV10 dc10 pm10 an10 cd10 ct10), sl10⟩)
    (c10 : PySem.W.codeIn K cd10 "read_plain" = true)
    (k10 : PySem.W.keepIn K (.ref f10) = true)
    (a11 : PySem.W.nsIn K mainGlobals "read_product" = some (some (.ref f11)))
    (l11 : K.lookup f11 = some ⟨oc11, od11, .func (PySem.W.fnOf "read_product" "read_product" (defArgs s_read_product) (defBody s_read_product) (defScope s_read_product) .none kV11 dc11 pm11 an11 cd11 ct11), sl11⟩)
    (c11 : PySem.W.codeIn K cd11 "read_product" = true)
    (k11 : PySem.W.keepIn K (.ref f11) = true)
    (a12 : PySem.W.nsIn K mainGlobals "read_sum" = some (some (.ref f12)))
    (l12 : K.lookup f12 = some ⟨oc12, od12, .func (PySem.W.fnOf "read_sum" "read_sum" (defArgs s_read_sum) (defBody s_read_sum) (defScope s_read_sum) .none kV12 dc12 pm12 an12 cd12 ct12), sl12⟩)
    (c12 : PySem.W.codeIn K cd12 "read_sum" = true)
    (k12 : PySem.W.keepIn K (.ref f12) = true)
    (a13 : PySem.W.nsIn K mainGlobals "read" = some (some (.ref f13)))
    (l13 : K.lookup f13 = some ⟨oc13, od13, .func (PySem.W.fnOf "read" "read" (defArgs s_read) (defBody s_read) (defScope s_read) .none kV13 dc13 pm13 an13 cd13 ct13), sl13⟩)
    (c13 : PySem.W.codeIn K cd13 "read" = true)
    (k13 : PySem.W.keepIn K (.ref f13) = true)
    (a14 : PySem.W.nsIn K mainGlobals "_law_cell" = some (some (.ref f14)))
    (l14 : K.lookup f14 = some ⟨oc14, od14, .func (PySem.W.fnOf "_law_cell" "_law_cell" (defArgs s_cell) (defBody s_cell) (defScope s_cell) .none kV14 dc14 pm14 an14 cd14 ct14), sl14⟩)
    (c14 : PySem.W.codeIn K cd14 "_law_cell" = true)
    (k14 : PySem.W.keepIn K (.ref f14) = true)
    (a15 : PySem.W.nsIn K mainGlobals "_law_mix" = some (some (.ref f15)))
    (l15 : K.lookup f15 = some ⟨oc15, od15, .func (PySem.W.fnOf "_law_mix" "_law_mix" (defArgs s_mix) (defBody s_mix) (defScope s_mix) .none kV15 dc15 pm15 an15 cd15 ct15), sl15⟩)
    (c15 : PySem.W.codeIn K cd15 "_law_mix" = true)
    (k15 : PySem.W.keepIn K (.ref f15) = true)
    (a16 : PySem.W.nsIn K mainGlobals "_law_whole" = some (some (.ref f16)))
    (l16 : K.lookup f16 = some ⟨oc16, od16, .func (PySem.W.fnOf "_law_whole" "_law_whole" (defArgs s_whole) (defBody s_whole) (defScope s_whole) .none kV16 dc16 pm16 an16 cd16 ct16), sl16⟩)
    (c16 : PySem.W.codeIn K cd16 "_law_whole" = true)
    (k16 : PySem.W.keepIn K (.ref f16) = true)
    (a17 : PySem.W.nsIn K mainGlobals "_law_tree" = some (some (.ref f17)))
    (l17 : K.lookup f17 = some ⟨oc17, od17, .func (PySem.W.fnOf "_law_tree" "_law_tree" (defArgs s_tree) (defBody s_tree) (defScope s_tree) .none kV17 dc17 pm17 an17 cd17 ct17), sl17⟩)
    (c17 : PySem.W.codeIn K cd17 "_law_tree" = true)
    (k17 : PySem.W.keepIn K (.ref f17) = true)
    (a18 : PySem.W.nsIn K mainGlobals "_law_words" = some (some (.ref f18)))
    (l18 : K.lookup f18 = some ⟨oc18, od18, .func (PySem.W.fnOf "_law_words" "_law_words" (defArgs s_words) (defBody s_words) (defScope s_words) .none kV18 dc18 pm18 an18 cd18 ct18), sl18⟩)
    (c18 : PySem.W.codeIn K cd18 "_law_words" = true)
    (k18 : PySem.W.keepIn K (.ref f18) = true)
    (a19 : PySem.W.nsIn K mainGlobals "_law_inner" = some (some (.ref f19)))
    (l19 : K.lookup f19 = some ⟨oc19, od19, .func (PySem.W.fnOf "_law_inner" "_law_inner" (defArgs s_inner) (defBody s_inner) (defScope s_inner) .none kV19 dc19 pm19 an19 cd19 ct19), sl19⟩)
    (c19 : PySem.W.codeIn K cd19 "_law_inner" = true)
    (k19 : PySem.W.keepIn K (.ref f19) = true)
    (a20 : PySem.W.nsIn K mainGlobals "_law_run" = some (some (.ref f20)))
    (l20 : K.lookup f20 = some ⟨oc20, od20, .func (PySem.W.fnOf "_law_run" "_law_run" (defArgs s_run) (defBody s_run) (defScope s_run) .none kV20 dc20 pm20 an20 cd20 ct20), sl20⟩)
    (c20 : PySem.W.codeIn K cd20 "_law_run" = true)
    (k20 : PySem.W.keepIn K (.ref f20) = true)
    (a21 : PySem.W.nsIn K mainGlobals "_law_wrong" = some (some (.ref f21)))
    (l21 : K.lookup f21 = some ⟨oc21, od21, .func (PySem.W.fnOf "_law_wrong" "_law_wrong" (defArgs s_wrong) (defBody s_wrong) (defScope s_wrong) .none kV21 dc21 pm21 an21 cd21 ct21), sl21⟩)
    (c21 : PySem.W.codeIn K cd21 "_law_wrong" = true)
    (k21 : PySem.W.keepIn K (.ref f21) = true)
    (a22 : PySem.W.nsIn K mainGlobals "_law_text" = some (some (.ref f22)))
    (l22 : K.lookup f22 = some ⟨oc22, od22, .func (PySem.W.fnOf "_law_text" "_law_text" (defArgs s_text) (defBody s_text) (defScope s_text) .none kV22 dc22 pm22 an22 cd22 ct22), sl22⟩)
    (c22 : PySem.W.codeIn K cd22 "_law_text" = true)
    (k22 : PySem.W.keepIn K (.ref f22) = true)
    (a23 : PySem.W.nsIn K mainGlobals "law" = some (some (.ref f23)))
    (l23 : K.lookup f23 = some ⟨oc23, od23, .func (PySem.W.fnOf "law" "law" (defArgs s_law) (defBody s_law) (defScope s_law) .none kV23 dc23 pm23 an23 cd23 ct23), sl23⟩)
    (c23 : PySem.W.codeIn K cd23 "law" = true)
    (k23 : PySem.W.keepIn K (.ref f23) = true)
    (g_WHITE : PySem.W.nsIn K mainGlobals "WHITE" = some (some (.str " \n" tw)))
    (g_LETTERS : PySem.W.nsIn K mainGlobals "LETTERS" = some (some (.str "abcdefghijklmnopqrstuvwxyz" tl)))
    (g_FIGURES : PySem.W.nsIn K mainGlobals "FIGURES" = some (some (.str "0123456789" tf)))
    (g_MOST_DEEP : PySem.W.nsIn K mainGlobals "MOST_DEEP" = some (some (.int 20 td)))
    (z_len : PySem.W.nsIn K mainGlobals "len" = some none)
    (z_int : PySem.W.nsIn K mainGlobals "int" = some none)
    (z_bool : PySem.W.nsIn K mainGlobals "bool" = some none)
    (z_tuple : PySem.W.nsIn K mainGlobals "tuple" = some none)
    (z_str : PySem.W.nsIn K mainGlobals "str" = some none)
    (z_range : PySem.W.nsIn K mainGlobals "range" = some none)
    (z_isinstance : PySem.W.nsIn K mainGlobals "isinstance" = some none)
    (z_ValueError : PySem.W.nsIn K mainGlobals "ValueError" = some none)
    : ∃ fd : FuncData, (∀ (s : Shared) (v : Value), BindsTo s fd ⟨[v], []⟩ [("_law_script", v)]) ∧ ∀ base : Heap, K.In base → base.Ns mainGlobals mg → FnOk l.prog w K mg base (L2.CX l.prog w) 90 fa fd ["_law_script"] (spP K 1 RLaw) := by
  have e := hfa.symm.trans (PySem.W.mg_of X G a23)
  cases e
  have F_BadText_init := fun_mk (st := s_BadText_init) l1 c1 k1
  have b_BadText_init := F_BadText_init.binds (ps := P_BadText_init) fun _ _ _ _ _ _ us hl => match us, hl with | [_, _], _ => rfl
  have clCT : L2.Cls K CT := ⟨pgCT, hdCT, poCT, saCT⟩
  have F_Tape_init := fun_mk (st := s_Tape_init) l2 c2 k2
  have b_Tape_init := F_Tape_init.binds (ps := P_Tape_init) fun _ _ _ _ _ _ us hl => match us, hl with | [_, _], _ => rfl
  have F_Tape_refuse := fun_mk (st := s_Tape_refuse) l3 c3 k3
  have b_Tape_refuse := F_Tape_refuse.binds (ps := P_Tape_refuse) fun _ _ _ _ _ _ us hl => match us, hl with | [_], _ => rfl
  have F_Tape_skip := fun_mk (st := s_Tape_skip) l4 c4 k4
  have b_Tape_skip := F_Tape_skip.binds (ps := P_Tape_skip) fun _ _ _ _ _ _ us hl => match us, hl with | [_], _ => rfl
  have F_Tape_sees := fun_mk (st := s_Tape_sees) l5 c5 k5
  have b_Tape_sees := F_Tape_sees.binds (ps := P_Tape_sees) fun _ _ _ _ _ _ us hl => match us, hl with | [_], _ => rfl
  have F_Tape_wants := fun_mk (st := s_Tape_wants) l6 c6 k6
  have b_Tape_wants := F_Tape_wants.binds (ps := P_Tape_wants) fun _ _ _ _ _ _ us hl => match us, hl with | [_, _], _ => rfl
  have F_Tape_run := fun_mk (st := s_Tape_run) l7 c7 k7
  have b_Tape_run := F_Tape_run.binds (ps := P_Tape_run) fun _ _ _ _ _ _ us hl => match us, hl with | [_, _], _ => rfl
  have F_read_parts := fun_mk (st := s_read_parts) l8 c8 k8
  have b_read_parts := F_read_parts.binds (ps := P_read_parts) fun _ _ _ _ _ _ us hl => match us, hl with | [_, _, _], _ => rfl
  have m_read_parts := PySem.W.mg_of X G a8
  have F_opened := fun_mk (st := s_opened) l9 c9 k9
  have b_opened := F_opened.binds (ps := P_opened) fun _ _ _ _ _ _ us hl => match us, hl with | [_, _], _ => rfl
  have m_opened := PySem.W.mg_of X G a9
  have F_read_plain := fun_mk (st := s_read_plain) l10 c10 k10
  have b_read_plain := F_read_plain.binds (ps := P_read_plain) fun _ _ _ _ _ _ us hl => match us, hl with | [_, _], _ => rfl
  have m_read_plain := PySem.W.mg_of X G a10
  have F_read_product := fun_mk (st := s_read_product) l11 c11 k11
  have b_read_product := F_read_product.binds (ps := P_read_product) fun _ _ _ _ _ _ us hl => match us, hl with | [_, _], _ => rfl
  have m_read_product := PySem.W.mg_of X G a11
  have F_read_sum := fun_mk (st := s_read_sum) l12 c12 k12
  have b_read_sum := F_read_sum.binds (ps := P_read_sum) fun _ _ _ _ _ _ us hl => match us, hl with | [_, _], _ => rfl
  have m_read_sum := PySem.W.mg_of X G a12
  have F_read := fun_mk (st := s_read) l13 c13 k13
  have b_read := F_read.binds (ps := P_read) fun _ _ _ _ _ _ us hl => match us, hl with | [_], _ => rfl
  have m_read := PySem.W.mg_of X G a13
  have F_cell := fun_mk (st := s_cell) l14 c14 k14
  have b_cell := F_cell.binds (ps := P_cell) fun _ _ _ _ _ _ us hl => match us, hl with | [_, _], _ => rfl
  have m_cell := PySem.W.mg_of X G a14
  have F_mix := fun_mk (st := s_mix) l15 c15 k15
  have b_mix := F_mix.binds (ps := P_mix) fun _ _ _ _ _ _ us hl => match us, hl with | [_, _], _ => rfl
  have m_mix := PySem.W.mg_of X G a15
  have F_whole := fun_mk (st := s_whole) l16 c16 k16
  have b_whole := F_whole.binds (ps := P_whole) fun _ _ _ _ _ _ us hl => match us, hl with | [_], _ => rfl
  have m_whole := PySem.W.mg_of X G a16
  have F_tree := fun_mk (st := s_tree) l17 c17 k17
  have b_tree := F_tree.binds (ps := P_tree) fun _ _ _ _ _ _ us hl => match us, hl with | [_, _, _, _], _ => rfl
  have m_tree := PySem.W.mg_of X G a17
  have F_words := fun_mk (st := s_words) l18 c18 k18
  have b_words := F_words.binds (ps := P_words) fun _ _ _ _ _ _ us hl => match us, hl with | [_], _ => rfl
  have m_words := PySem.W.mg_of X G a18
  have F_inner := fun_mk (st := s_inner) l19 c19 k19
  have b_inner := F_inner.binds (ps := P_inner) fun _ _ _ _ _ _ us hl => match us, hl with | [_, _], _ => rfl
  have m_inner := PySem.W.mg_of X G a19
  have F_run := fun_mk (st := s_run) l20 c20 k20
  have b_run := F_run.binds (ps := P_run) fun _ _ _ _ _ _ us hl => match us, hl with | [_, _, _], _ => rfl
  have m_run := PySem.W.mg_of X G a20
  have F_wrong := fun_mk (st := s_wrong) l21 c21 k21
  have b_wrong := F_wrong.binds (ps := P_wrong) fun _ _ _ _ _ _ us hl => match us, hl with | [_], _ => rfl
  have m_wrong := PySem.W.mg_of X G a21
  have F_text := fun_mk (st := s_text) l22 c22 k22
  have b_text := F_text.binds (ps := P_text) fun _ _ _ _ _ _ us hl => match us, hl with | [_], _ => rfl
  have m_text := PySem.W.mg_of X G a22
  have F_law := fun_mk (st := s_law) l23 c23 k23
  have zz_len := PySem.W.mg_none_of X G z_len
  have zz_int := PySem.W.mg_none_of X G z_int
  have zz_bool := PySem.W.mg_none_of X G z_bool
  have zz_tuple := PySem.W.mg_none_of X G z_tuple
  have zz_str := PySem.W.mg_none_of X G z_str
  have zz_range := PySem.W.mg_none_of X G z_range
  have zz_isinstance := PySem.W.mg_none_of X G z_isinstance
  have zz_ValueError := PySem.W.mg_none_of X G z_ValueError
  refine ⟨PySem.W.fnOf "law" "law" (defArgs s_law) (defBody s_law) (defScope s_law) .none kV23 dc23 pm23 an23 cd23 ct23, fun s v => .of_eq rfl, fun base _ _ => ?_⟩
  have T : TapeT K mg CT CB := ⟨clCT, nCT_text, nCT_at, ⟨_, PySem.W.mg_of X G g_WHITE⟩, ⟨_, PySem.W.mg_of X G g_LETTERS⟩, ⟨_, PySem.W.mg_of X G g_FIGURES⟩, ⟨_, PySem.W.mg_of X G g_MOST_DEEP⟩, zz_len, zz_int, zz_tuple⟩
  have O : OexC K CB := ⟨⟨_, _, _, _, _, _, _, _, _, _, _, _, _, _, _, xLB, by first | rfl | decide +kernel⟩, saB, eCB, tCB, kcB⟩
  have BT : BadT l.prog w K mg base CB := ⟨⟨f1, _, _, a1, t1, ok_xinit (y := "self") F_BadText_init sc_BadText_init O npB rfl (fun X hN hS => ⟨pe_var (i := 0) (by rw [hN]; rfl) (by rw [hS]; exact Or.inl rfl) (by decide) (by decide), pe_var (i := 1) (by rw [hN]; rfl) (by rw [hS]; exact Or.inl rfl) (by decide) (by decide)⟩), b_BadText_init⟩, O, PySem.W.mg_of X G gB⟩
  have G_skip : KnM l.prog w K mg base CT "skip" 1 _ := ⟨⟨_, _, _, ok_skip F_Tape_skip T, ⟨a4, i4, k4⟩, b_Tape_skip⟩, clCT⟩
  have G_refuse : KnM l.prog w K mg base CT "refuse" 3 _ := ⟨⟨_, _, _, ok_refuse F_Tape_refuse T BT, ⟨a3, i3, k3⟩, b_Tape_refuse⟩, clCT⟩
  have G_sees : KnM l.prog w K mg base CT "sees" 2 _ := ⟨⟨_, _, _, ok_sees F_Tape_sees T G_skip, ⟨a5, i5, k5⟩, b_Tape_sees⟩, clCT⟩
  have G_wants : KnM l.prog w K mg base CT "wants" 4 _ := ⟨⟨_, _, _, ok_wants F_Tape_wants T G_sees G_refuse, ⟨a6, i6, k6⟩, b_Tape_wants⟩, clCT⟩
  have G_run : KnM l.prog w K mg base CT "run" 1 _ := ⟨⟨_, _, _, ok_run F_Tape_run T, ⟨a7, i7, k7⟩, b_Tape_run⟩, clCT⟩
  have R : RdT l.prog w K mg base CT CB := ⟨T, G_sees, G_refuse, G_wants, G_run, kn_opened F_opened m_opened b_opened T G_refuse⟩
  have GC : KnC l.prog w K mg base "Tape" CT 1 (spO K CT 1 RTInit) := ⟨_, _, _, ok_tinit F_Tape_init T, ⟨mkCT, a2, i2, kcCT⟩, PySem.W.mg_of X G gCT, b_Tape_init⟩
  have GS := kn_all F_read_plain m_read_plain b_read_plain F_read_product m_read_product b_read_product F_read_sum m_read_sum b_read_sum F_read_parts m_read_parts b_read_parts R 20
  have GR := kn_read F_read m_read b_read R GC GS.1 (by decide)
  have GM := kn_mix (P := l.prog) (w := w) (base := base) F_mix m_mix b_mix (kn_cell F_cell m_cell b_cell zz_len)
  have GT := kn_tree F_tree m_tree b_tree zz_range zz_tuple GM
  have GW := kn_wi (P := l.prog) (w := w) (base := base) F_words m_words b_words F_inner m_inner b_inner zz_str zz_int zz_len zz_range
  have GX := kn_ltext F_text m_text b_text zz_len zz_range zz_int GM GT fun n hn => (GW n hn).1
  have GZ := kn_wrong (P := l.prog) (w := w) (base := base) F_wrong m_wrong b_wrong zz_len (kn_lrun F_run m_run b_run zz_len)
  exact ok_law F_law ⟨GX, GR, GZ, kn_whole F_whole m_whole b_whole zz_isinstance zz_int zz_bool, zz_isinstance, zz_ValueError, PySem.W.mg_of X G gB, PySem.W.mg_of X G gX, PySem.W.mg_of X G gP, ⟨e1, e2, eCB, e4, e5, e6, e7, e8⟩, ⟨e1, e2, eCB, e4⟩, npB, x1, q1, q2, q3⟩
end Q
open PySem PySem.W PyProof.Rows in
set_option maxRecDepth 100000 in
set_option maxHeartbeats 0 in
theorem PySem.Challenge.cw_printwell_k21_wrong_places_holds : PySem.Challenge.rw_printwell_k21_wrong_places.Holds := by
  w_on; o_law; k_head; (case hw => w_witness2)
  k_fill
  refine Pw.law_walk (l := PySem.Challenge.rw_printwell_k21_wrong_places) (n := 63) (k := 90) (x := "_law_script") rfl (by decide) rfl ⟨rfl, by decide, by decide⟩ (fun w h Y => PySem.W.kIn_of Y) ?F
  case F =>
    intro w mg fa h KX G hmg
    refine' Q.all_mk KX G hmg ?gB ?xLB ?saB ?eCB ?tCB ?kcB ?npB ?gX ?gP ?e1 ?e2 ?e4 ?e5 ?e6 ?e7 ?e8 ?x1 ?q1 ?q2 ?q3 ?a1 ?t1 ?l1 ?c1 ?k1 ?gCT ?pgCT ?hdCT ?poCT ?saCT ?mkCT ?kcCT ?nCT_text ?nCT_at ?a2 ?i2 ?l2 ?c2 ?k2 ?a3 ?i3 ?l3 ?c3 ?k3 ?a4 ?i4 ?l4 ?c4 ?k4 ?a5 ?i5 ?l5 ?c5 ?k5 ?a6 ?i6 ?l6 ?c6 ?k6 ?a7 ?i7 ?l7 ?c7 ?k7 ?a8 ?l8 ?c8 ?k8 ?a9 ?l9 ?c9 ?k9 ?a10 ?l10 ?c10 ?k10 ?a11 ?l11 ?c11 ?k11 ?a12 ?l12 ?c12 ?k12 ?a13 ?l13 ?c13 ?k13 ?a14 ?l14 ?c14 ?k14 ?a15 ?l15 ?c15 ?k15 ?a16 ?l16 ?c16 ?k16 ?a17 ?l17 ?c17 ?k17 ?a18 ?l18 ?c18 ?k18 ?a19 ?l19 ?c19 ?k19 ?a20 ?l20 ?c20 ?k20 ?a21 ?l21 ?c21 ?k21 ?a22 ?l22 ?c22 ?k22 ?a23 ?l23 ?c23 ?k23 ?g_WHITE ?g_LETTERS ?g_FIGURES ?g_MOST_DEEP ?z_len ?z_int ?z_bool ?z_tuple ?z_str ?z_range ?z_isinstance ?z_ValueError
    (case gB => k_is)
    (case xLB => k_is)
    (case saB => k_is)
    (case eCB => k_is)
    (case tCB => k_is)
    (case kcB => k_is)
    (case npB => k_is)
    (case gX => k_is)
    (case gP => k_is)
    (case e1 => k_is)
    (case e2 => k_is)
    (case e4 => k_is)
    (case e5 => k_is)
    (case e6 => k_is)
    (case e7 => k_is)
    (case e8 => k_is)
    (case x1 => first | rfl | k_is)
    (case q1 => first | rfl | k_is)
    (case q2 => first | rfl | k_is)
    (case q3 => first | rfl | k_is)
    (case a1 => k_is)
    (case t1 => k_is)
    (case l1 => k_is)
    (case c1 => k_is)
    (case k1 => k_is)
    (case gCT => k_is)
    (case pgCT => k_is)
    (case hdCT => k_is)
    (case poCT => k_is)
    (case saCT => k_is)
    (case mkCT => k_is)
    (case kcCT => k_is)
    (case nCT_text => k_is)
    (case nCT_at => k_is)
    (case a2 => k_is)
    (case i2 => k_is)
    (case l2 => k_is)
    (case c2 => k_is)
    (case k2 => k_is)
    (case a3 => k_is)
    (case i3 => k_is)
    (case l3 => k_is)
    (case c3 => k_is)
    (case k3 => k_is)
    (case a4 => k_is)
    (case i4 => k_is)
    (case l4 => k_is)
    (case c4 => k_is)
    (case k4 => k_is)
    (case a5 => k_is)
    (case i5 => k_is)
    (case l5 => k_is)
    (case c5 => k_is)
    (case k5 => k_is)
    (case a6 => k_is)
    (case i6 => k_is)
    (case l6 => k_is)
    (case c6 => k_is)
    (case k6 => k_is)
    (case a7 => k_is)
    (case i7 => k_is)
    (case l7 => k_is)
    (case c7 => k_is)
    (case k7 => k_is)
    (case a8 => k_is)
    (case l8 => k_is)
    (case c8 => k_is)
    (case k8 => k_is)
    (case a9 => k_is)
    (case l9 => k_is)
    (case c9 => k_is)
    (case k9 => k_is)
    (case a10 => k_is)
    (case l10 => k_is)
    (case c10 => k_is)
    (case k10 => k_is)
    (case a11 => k_is)
    (case l11 => k_is)
    (case c11 => k_is)
    (case k11 => k_is)
    (case a12 => k_is)
    (case l12 => k_is)
    (case c12 => k_is)
    (case k12 => k_is)
    (case a13 => k_is)
    (case l13 => k_is)
    (case c13 => k_is)
    (case k13 => k_is)
    (case a14 => k_is)
    (case l14 => k_is)
    (case c14 => k_is)
    (case k14 => k_is)
    (case a15 => k_is)
    (case l15 => k_is)
    (case c15 => k_is)
    (case k15 => k_is)
    (case a16 => k_is)
    (case l16 => k_is)
    (case c16 => k_is)
    (case k16 => k_is)
    (case a17 => k_is)
    (case l17 => k_is)
    (case c17 => k_is)
    (case k17 => k_is)
    (case a18 => k_is)
    (case l18 => k_is)
    (case c18 => k_is)
    (case k18 => k_is)
    (case a19 => k_is)
    (case l19 => k_is)
    (case c19 => k_is)
    (case k19 => k_is)
    (case a20 => k_is)
    (case l20 => k_is)
    (case c20 => k_is)
    (case k20 => k_is)
    (case a21 => k_is)
    (case l21 => k_is)
    (case c21 => k_is)
    (case k21 => k_is)
    (case a22 => k_is)
    (case l22 => k_is)
    (case c22 => k_is)
    (case k22 => k_is)
    (case a23 => k_is)
    (case l23 => k_is)
    (case c23 => k_is)
    (case k23 => k_is)
    (case g_WHITE => k_is)
    (case g_LETTERS => k_is)
    (case g_FIGURES => k_is)
    (case g_MOST_DEEP => k_is)
    (case z_len => k_is)
    (case z_int => k_is)
    (case z_bool => k_is)
    (case z_tuple => k_is)
    (case z_str => k_is)
    (case z_range => k_is)
    (case z_isinstance => k_is)
    (case z_ValueError => k_is)
