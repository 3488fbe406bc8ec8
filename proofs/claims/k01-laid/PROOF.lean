import PyProof.Rows.All
import Wide.All
import OpenK.AllK
import Wide.FinOn
import HandS.ForMost
import HandS.Exc
import HandS.ExcOwn
import HandS.WordsExc
import HandS.Text
import HandS.StrMore
import HandS.Flow
import PyProof.StrBlock2
import HandS.RaiseMore
import HandS.ExcInit
import HandS.IsInst
import HandS.ExcField
import HandS.ExcIs
import KE.KExcIs
import HandS.Deep
import PySem.Challenge.RW_printwell_k01_laid
set_option Elab.async false
set_option linter.all false
set_option maxRecDepth 100000
set_option maxHeartbeats 8000000
namespace Pw
open PySem PySem.Spec PyProof.Rows L2

/-! ### readings that run the model itself -/
def WE (X : Cx) (e : Expr) (σ : L2.St) (H : Hp) (R : VK) : Prop :=
  ∀ (pins : List (Addr × Obj)) (s : Shared), Inv X pins σ H s → wpAny (model X.prog X.w) X.A (eval e X.env) (EP X pins σ R) X.xe s
def WT (X : Cx) (e : Expr) (σ : L2.St) (H : Hp) (R : Bool → Hp → Prop) : Prop :=
  ∀ (pins : List (Addr × Obj)) (s : Shared), Inv X pins σ H s → wpAny (model X.prog X.w) X.A (isTrue e X.env (eval e X.env)) (TP X pins σ R) X.xe s
def WA (X : Cx) (es : List Expr) (σ : L2.St) (H : Hp) (R : List V → Hp → Prop) : Prop :=
  ∀ (pos : Pos) (pins : List (Addr × Obj)) (s : Shared), Inv X pins σ H s → wpAny (model X.prog X.w) X.A (spliced (backTo pos (starEach es X.env))) (AP X pins σ R) X.xe s
def WS (X : Cx) (st : Stmt) (D : Ends) (σ : L2.St) (H : Hp) : Prop :=
  ∀ (pins : List (Addr × Obj)) (s : Shared), Inv X pins σ H s → wpAny (model X.prog X.w) X.A (exec st X.env) (SP X pins D) X.xe s
def WSs (X : Cx) (ss : List Stmt) (D : Ends) (σ : L2.St) (H : Hp) : Prop :=
  ∀ (pins : List (Addr × Obj)) (s : Shared), Inv X pins σ H s → wpAny (model X.prog X.w) X.A (execs ss X.env) (SP X pins D) X.xe s
section
variable {X : Cx} {e : Expr} {es : List Expr} {st : Stmt} {ss : List Stmt} {σ : L2.St} {H : Hp}
theorem pe_we : PE X e (WE X e) := ⟨fun pins s _ _ _ I h => h pins s I⟩
theorem pt_wt : PT X e (WT X e) := ⟨fun pins s _ _ _ I h => h pins s I⟩
theorem pa_wa : PA X es (WA X es) := ⟨fun pos pins s _ _ _ I h => h pos pins s I⟩
theorem ps_ws : PS X st (WS X st) := ⟨fun pins s _ _ _ I h => h pins s I⟩
theorem pss_wss : PSs X ss (WSs X ss) := ⟨fun pins s _ _ _ I h => h pins s I⟩
theorem we_of {t : TE} {R : VK} (h : PE X e t) (q : t σ H R) : WE X e σ H R := fun pins s I => h.run pins s σ H R I q
theorem wt_of {t : TT} {R : Bool → Hp → Prop} (h : PT X e t) (q : t σ H R) : WT X e σ H R := fun pins s I => h.run pins s σ H R I q
theorem wa_of {t : TA} {R : List V → Hp → Prop} (h : PA X es t) (q : t σ H R) : WA X es σ H R := fun pos pins s I => h.run pos pins s σ H R I q
theorem ws_of {t : TS} {D : Ends} (h : PS X st t) (q : t D σ H) : WS X st D σ H := fun pins s I => h.run pins s σ H D I q
theorem wss_of {t : TS} {D : Ends} (h : PSs X ss t) (q : t D σ H) : WSs X ss D σ H := fun pins s I => h.run pins s σ H D I q
end

/-! ### data in a heap that only grows -/
section
variable {K : PySem.W.Frag} {B B' : Hp}
theorem rd_up (g : Same B B') {a : Addr} {u : HO} (h : Rd B a u) : Rd B' a u := by
  rcases h with h | ⟨o, h⟩
  · exact .inl (g _ _ h)
  · exact .inr ⟨o, g _ _ h⟩
theorem sqL_up (g : Same B B') {a : Addr} {xs : List V} (h : SqL K B a xs) : SqL K B' a xs := h.imp (rd_up g) id
theorem sqT_up (g : Same B B') {a : Addr} {xs : List V} (h : SqT K B a xs) : SqT K B' a xs := h.imp (rd_up g) id
/-- data at a value: lists and tuples that stand; the script as a dict of its numbers -/
def scrD (ns : List Int) : PyData := .dict (ns.map fun n => (.int n, .none))
/-- a caught exception that is kept: its class, its whole-number fields -/
def excD (C : Addr) (fs : List (Str × Int)) : PyData := .dict ((.str "", .int C) :: fs.map fun p => (.str p.1, .int p.2))
def kxO (a C : Addr) (d : Option Addr) : HO := .ext fun h => ∃ oe vs, h.get? a = some oe ∧ Zc (.ref C) d oe ∧ oe.data = .fields vs
mutual
inductive Dt (K : PySem.W.Frag) (B : Hp) : V → PyData → Prop
  | non : Dt K B .non .none
  | bl (b : Bool) : Dt K B (.bl b) (.bool b)
  | int (i : Int) : Dt K B (.int i) (.int i)
  | str (x : Str) : Dt K B (.str x) (.str x)
  | lst {a : Addr} {vs : List V} {ds : List PyData} : B a = some (.lst vs) → DtAll K B vs ds → Dt K B (.ref a) (.list ds)
  | tup {a : Addr} {vs : List V} {ds : List PyData} : B a = some (.tup vs) → DtAll K B vs ds → Dt K B (.ref a) (.tuple ds)
  | scr {a : Addr} {ns : List Int} : SqL K B a (ns.map V.int) → Dt K B (.ref a) (scrD ns)
  | exc {a C : Addr} {d : Option Addr} {fs : List (Str × Int)} : B a = some (kxO a C d) → (d = none ∧ fs = [] ∨ ∃ dx, d = some dx ∧ B dx = some (.xd (fs.map fun p => (p.1, V.int p.2)))) → Dt K B (.ref a) (excD C fs)
inductive DtAll (K : PySem.W.Frag) (B : Hp) : List V → List PyData → Prop
  | nil : DtAll K B [] []
  | cons {v : V} {vs : List V} {d : PyData} {ds : List PyData} : Dt K B v d → DtAll K B vs ds → DtAll K B (v :: vs) (d :: ds)
end
mutual
theorem dp_up (g : Same B B') : ∀ (d : PyData) (v : V), Dt K B v d → Dt K B' v d
  | .none, _, h => by cases h; exact .non
  | .bool b, _, h => by cases h; exact .bl b
  | .int i, _, h => by cases h; exact .int i
  | .str x, _, h => by cases h; exact .str x
  | .list ds, _, h => by
    cases h with
    | lst a b => exact .lst (g _ _ a) (dpAll_up g ds _ b)
  | .tuple ds, _, h => by
    cases h with
    | tup a b => exact .tup (g _ _ a) (dpAll_up g ds _ b)
  | .dict kvs, v, h => by
    generalize e : PyData.dict kvs = d at h
    cases h with
    | scr a => exact .scr (sqL_up g a)
    | exc a b => exact .exc (g _ _ a) (b.imp id fun ⟨dx, e1, e2⟩ => ⟨dx, e1, g _ _ e2⟩)
    | _ => cases e
theorem dpAll_up (g : Same B B') : ∀ (ds : List PyData) (vs : List V), DtAll K B vs ds → DtAll K B' vs ds
  | [], _, h => by cases h; exact .nil
  | d :: ds, _, h => by
    cases h with
    | cons a b => exact .cons (dp_up g d _ a) (dpAll_up g ds _ b)
end
theorem dpa_len {B : Hp} : ∀ {vs : List V} {ds : List PyData}, DtAll K B vs ds → vs.length = ds.length
  | _, _, .nil => rfl
  | _, _, .cons _ t => congrArg (· + 1) (dpa_len t)
theorem dpa_get {B : Hp} : ∀ {vs : List V} {ds : List PyData} {i : Nat} {d : PyData}, DtAll K B vs ds → ds[i]? = some d → ∃ v, vs[i]? = some v ∧ Dt K B v d
  | _, _, _, _, .nil, e => by simp at e
  | _, _, 0, _, .cons a _, e => ⟨_, rfl, by simp at e; subst e; exact a⟩
  | _, _, i + 1, d, .cons _ t, e => by
    obtain ⟨v, h1, h2⟩ := dpa_get (i := i) (d := d) t (by simpa using e)
    exact ⟨v, by simpa using h1, h2⟩
theorem dpa_app {B : Hp} : ∀ {vs ws : List V} {ds es : List PyData}, DtAll K B vs ds → DtAll K B ws es → DtAll K B (vs ++ ws) (ds ++ es)
  | _, _, _, _, .nil, s => s
  | _, _, _, _, .cons a t, s => .cons a (dpa_app t s)
theorem dpa_drop {B : Hp} : ∀ {vs : List V} {ds : List PyData} (n : Nat), DtAll K B vs ds → DtAll K B (vs.drop n) (ds.drop n)
  | _, _, 0, h => h
  | _, _, _ + 1, .nil => .nil
  | _, _, n + 1, .cons _ t => dpa_drop n t
theorem dpa_take {B : Hp} : ∀ {vs : List V} {ds : List PyData} (n : Nat), DtAll K B vs ds → DtAll K B (vs.take n) (ds.take n)
  | _, _, 0, _ => .nil
  | _, _, _ + 1, .nil => .nil
  | _, _, n + 1, .cons a t => .cons a (dpa_take n t)
theorem dpa_set {B : Hp} {v : V} {d : PyData} (r : Dt K B v d) : ∀ {vs : List V} {ds : List PyData} (i : Nat), DtAll K B vs ds → DtAll K B (vs.set i v) (ds.set i d)
  | _, _, _, .nil => .nil
  | _, _, 0, .cons _ t => .cons r t
  | _, _, i + 1, .cons a t => .cons a (dpa_set r i t)
theorem dpa_rev {B : Hp} {vs : List V} {ds : List PyData} (h : DtAll K B vs ds) : DtAll K B vs.reverse ds.reverse := by
  induction ds generalizing vs with
  | nil => cases h; exact .nil
  | cons d ds ih =>
    cases h with
    | cons a t => rw [List.reverse_cons, List.reverse_cons]; exact dpa_app (ih t) (.cons a .nil)
theorem dpa_strs {B : Hp} : ∀ {ns : List Str}, DtAll K B (ns.map V.str) (ns.map PyData.str)
  | [] => .nil
  | n :: _ => .cons (.str n) dpa_strs
theorem dpa_ints {B : Hp} : ∀ {ns : List Int}, DtAll K B (ns.map V.int) (ns.map PyData.int)
  | [] => .nil
  | n :: _ => .cons (.int n) dpa_ints
end

/-! ### what a slot may hold -/
abbrev Fs := List (Str × PyData)
/-- an object: where it stands, where its dict stands, its class -/
structure Ob where
  a : Addr
  dx : Addr
  C : Addr
inductive Ent where
  | val (d : PyData)
  | own (ds : List PyData)
  | obj (c : Ob) (fs : Fs)
def Ent.mu : Ent → Prop
  | .val _ => False
  | _ => True
def Ent.ob : Ent → Prop
  | .obj _ _ => True
  | _ => False
abbrev Ev := List (Option Ent)
def FsIs (K : PySem.W.Frag) (B : Hp) : List (Str × V) → Fs → Prop := Paired fun p q => p.1 = q.1 ∧ Dt K B p.2 q.2
def EntIs (K : PySem.W.Frag) (B H : Hp) (v : V) : Ent → Prop
  | .val d => Dt K B v d
  | .own ds => ∃ (l : Addr) (vs : List V), v = .ref l ∧ B l = none ∧ H l = some (.lst vs) ∧ DtAll K B vs ds
  | .obj c fs => ∃ (gs : List (Str × V)), v = .ref c.a ∧ B c.a = none ∧ H c.a = some (.ins c.C c.dx gs) ∧ FsIs K B gs fs

/-- B: the part of H that never changes; M: what may be written -/
structure Gr (M : Addr → Prop) (B H B' H' : Hp) : Prop where
  b : Same B B'
  bh : Same B' H'
  h : ∀ a o, ¬ M a → H a = some o → H' a = some o
  dom : ∀ a, H a ≠ none → H' a ≠ none
  nw : ∀ a, ¬ M a → H a ≠ none → B' a = B a
theorem Gr.refl {M : Addr → Prop} {B H : Hp} (g : Same B H) : Gr M B H B H := ⟨Same.refl B, g, fun _ _ _ h => h, fun _ h => h, fun _ _ _ => rfl⟩
theorem Gr.trans {M : Addr → Prop} {B H B1 H1 B2 H2 : Hp} (a : Gr M B H B1 H1) (b : Gr M B1 H1 B2 H2) : Gr M B H B2 H2 :=
  ⟨a.b.trans b.b, b.bh, fun c o n e => b.h c o n (a.h c o n e), fun c n => b.dom c (a.dom c n), fun c m n => (b.nw c m (a.dom c n)).trans (a.nw c m n)⟩
/-- a smaller licence, all that it allows being new or allowed -/
theorem Gr.trans' {M M' : Addr → Prop} {B H B1 H1 B2 H2 : Hp} (a : Gr M B H B1 H1) (b : Gr M' B1 H1 B2 H2) (m : ∀ c, M' c → H c = none ∨ M c) : Gr M B H B2 H2 :=
  ⟨a.b.trans b.b, b.bh, fun c o n e => by
    by_cases mc : M' c
    · rcases m c mc with z | z
      · rw [e] at z; cases z
      · exact absurd z n
    · exact b.h c o mc (a.h c o n e), fun c n => b.dom c (a.dom c n), fun c m' n => (b.nw c (fun mc => (m c mc).elim n m') (a.dom c n)).trans (a.nw c m' n)⟩

structure Og where
  B : Hp
  H : Hp
  M : Addr → Prop
  E : XK
structure Rep (K : PySem.W.Frag) (O : Og) (σ : L2.St) (ρ : Ev) (B H : Hp) : Prop where
  gr : Gr O.M O.B O.H B H
  len : σ.length = ρ.length
  ent : ∀ (i : Nat) (e : Ent), ρ[i]? = some (some e) → ∃ v, σ[i]? = some (some v) ∧ EntIs K B H v e ∧ (e.mu → ∃ l, v = .ref l ∧ (O.H l = none ∨ (O.M l ∧ e.ob)))
  sep : ∀ (i j : Nat) (ei ej : Ent) (v : V), ρ[i]? = some (some ei) → ρ[j]? = some (some ej) → ei.mu → ej.mu → σ[i]? = some (some v) → σ[j]? = some (some v) → i = j

section
variable {K : PySem.W.Frag} {O : Og} {σ : L2.St} {ρ : Ev} {B H B' H' : Hp}
theorem fsIs_up (g : Same B B') : ∀ {gs : List (Str × V)} {fs : Fs}, FsIs K B gs fs → FsIs K B' gs fs
  | _, _, .nil => .nil
  | _, _, .cons ⟨a, b⟩ t => .cons ⟨a, dp_up g _ _ b⟩ (fsIs_up g t)
/-- a mutable thing is there, and no part of what never changes -/
theorem entIs_mu {v : V} {e : Ent} (h : EntIs K B H v e) (m : e.mu) : ∃ l, v = .ref l ∧ B l = none ∧ H l ≠ none := by
  cases e with
  | val d => exact m.elim
  | own ds => obtain ⟨l, vs, e1, e2, e3, _⟩ := h; exact ⟨l, e1, e2, by rw [e3]; exact fun z => nomatch z⟩
  | obj c fs => obtain ⟨vs, e1, e2, e3, _⟩ := h; exact ⟨c.a, e1, e2, by rw [e3]; exact fun z => nomatch z⟩
/-- growth that leaves a mutable thing alone -/
theorem entIs_up {M : Addr → Prop} (g : Gr M B H B' H') {v : V} {e : Ent} (h : EntIs K B H v e) (m : ∀ l, e.mu → v = .ref l → ¬ M l) : EntIs K B' H' v e := by
  cases e with
  | val d => exact dp_up g.b _ _ h
  | own ds =>
    obtain ⟨l, vs, e1, e2, e3, e4⟩ := h
    exact ⟨l, vs, e1, (g.nw l (m l trivial e1) (by rw [e3]; exact fun z => nomatch z)).trans e2, g.h l _ (m l trivial e1) e3, dpAll_up g.b _ _ e4⟩
  | obj c fs =>
    obtain ⟨vs, e1, e2, e3, e4⟩ := h
    exact ⟨vs, e1, (g.nw c.a (m c.a trivial e1) (by rw [e3]; exact fun z => nomatch z)).trans e2, g.h c.a _ (m c.a trivial e1) e3, fsIs_up g.b e4⟩
theorem Rep.grow (r : Rep K O σ ρ B H) (g : Gr (fun _ => False) B H B' H') : Rep K O σ ρ B' H' where
  gr := r.gr.trans' g fun _ z => z.elim
  len := r.len
  ent := fun i e h => by
    obtain ⟨v, h1, h2, h3⟩ := r.ent i e h
    exact ⟨v, h1, entIs_up g h2 (fun _ _ _ z => z), h3⟩
  sep := r.sep
theorem Rep.sub (r : Rep K O σ ρ B H) : Same B H := r.gr.bh
/-- a new object, never to change -/
theorem gr_new {p : Addr} {o : HO} (g : Same B H) (hp : H p = none) : Gr (fun _ => False) B H (upd B p o) (upd H p o) := by
  have bp : B p = none := g.free hp
  refine ⟨fun a u e => ?_, fun a u e => ?_, fun a u _ e => ?_, fun a n => ?_, fun a _ n => ?_⟩
  · rw [upd_ne (ne_of_none e bp)]; exact e
  · by_cases ea : a = p
    · subst ea; rw [upd_same] at e ⊢; exact e
    · rw [upd_ne ea] at e ⊢; exact g a u e
  · rw [upd_ne (ne_of_none e hp)]; exact e
  · by_cases ea : a = p
    · subst ea; rw [upd_same]; exact fun z => nomatch z
    · rw [upd_ne ea]; exact n
  · by_cases ea : a = p
    · subst ea; exact absurd hp n
    · rw [upd_ne ea]
/-- a new object, to be changed later -/
theorem gr_newM {p : Addr} {o : HO} (g : Same B H) (hp : H p = none) : Gr (fun _ => False) B H B (upd H p o) := by
  refine ⟨Same.refl B, fun a u e => ?_, fun a u _ e => ?_, fun a n => ?_, fun _ _ _ => rfl⟩
  · rw [upd_ne (ne_of_none (g a u e) hp)]; exact g a u e
  · rw [upd_ne (ne_of_none e hp)]; exact e
  · by_cases ea : a = p
    · subst ea; rw [upd_same]; exact fun z => nomatch z
    · rw [upd_ne ea]; exact n
/-- a mutable object is written -/
theorem gr_wr {p : Addr} {o o' : HO} (g : Same B H) (hp : H p = some o') (bp : B p = none) : Gr (fun a => a = p) B H B (upd H p o) := by
  refine ⟨Same.refl B, fun a u e => ?_, fun a u n e => ?_, fun a n => ?_, fun _ _ _ => rfl⟩
  · rw [upd_ne (ne_of_none e bp)]; exact g a u e
  · rw [upd_ne n]; exact e
  · by_cases ea : a = p
    · subst ea; rw [upd_same]; exact fun z => nomatch z
    · rw [upd_ne ea]; exact n
/-- a mutable object becomes one that never changes -/
theorem gr_free {p : Addr} {o : HO} (g : Same B H) (hp : H p = some o) (bp : B p = none) : Gr (fun a => a = p) B H (upd B p o) H := by
  refine ⟨fun a u e => ?_, fun a u e => ?_, fun _ _ _ e => e, fun _ n => n, fun a m _ => by rw [upd_ne m]⟩
  · rw [upd_ne (ne_of_none e bp)]; exact e
  · by_cases ea : a = p
    · subst ea; rw [upd_same] at e; rw [hp]; exact e
    · rw [upd_ne ea] at e; exact g a u e
end
end Pw
namespace Pw
open PySem PySem.Spec PyProof.Rows L2

/-! ### the state's rules -/
section
variable {K : PySem.W.Frag} {O : Og} {σ : L2.St} {ρ : Ev} {B H B' H' : Hp}
theorem set_some {α : Type} {l : List (Option α)} {i j : Nat} {e e' : Option α} {x : α} (h : (l.set i e)[j]? = some (some x)) : (j = i ∧ e = some x) ∨ (j ≠ i ∧ l[j]? = some (some x)) := by
  by_cases c : j = i
  · subst c
    by_cases d : j < l.length
    · rw [List.getElem?_set_self d] at h
      exact .inl ⟨rfl, Option.some.inj h⟩
    · rw [List.getElem?_eq_none (by simpa using d)] at h; cases h
  · rw [List.getElem?_set_ne (Ne.symm c)] at h
    exact .inr ⟨c, h⟩
/-- the thing in slot i is written -/
theorem Rep.wr (r : Rep K O σ ρ B H) {i : Nat} {e e' : Ent} {p : Addr} (hi : ρ[i]? = some (some e)) (me : e.mu) (hs : σ[i]? = some (some (.ref p))) (g : Gr (fun a => a = p) B H B' H') (n : EntIs K B' H' (.ref p) e') (oo : e.ob → e'.ob) :
    Rep K O σ (ρ.set i (some e')) B' H' where
  gr := by
    obtain ⟨v, h1, h2, h3⟩ := r.ent i e hi
    rw [hs] at h1; cases h1
    obtain ⟨l, el, hl⟩ := h3 me
    cases el
    exact r.gr.trans' g fun c ec => by subst ec; exact hl.imp id (·.1)
  len := by rw [List.length_set]; exact r.len
  ent := fun j ej hj => by
    rcases set_some (e' := none) hj with ⟨rfl, e1⟩ | ⟨nj, hj'⟩
    · cases e1
      obtain ⟨v, h1, h2, h3⟩ := r.ent j e hi
      rw [hs] at h1; cases h1
      exact ⟨_, hs, n, fun _ => let ⟨l, el, hl⟩ := h3 me; ⟨l, el, hl.imp id fun z => ⟨z.1, oo z.2⟩⟩⟩
    · obtain ⟨v, h1, h2, h3⟩ := r.ent j ej hj'
      refine ⟨v, h1, entIs_up g h2 (fun l ml ev z => ?_), h3⟩
      subst z
      rw [ev] at h1
      exact nj (r.sep j i ej e (.ref l) hj' hi ml me h1 hs)
  sep := fun j k ej ek v hj hk mj mk sj sk => by
    rcases set_some (e' := none) hj with ⟨rfl, e1⟩ | ⟨nj, hj'⟩
    · rcases set_some (e' := none) hk with ⟨rfl, e2⟩ | ⟨nk, hk'⟩
      · rfl
      · exact r.sep j k e ek v hi hk' me mk sj sk
    · rcases set_some (e' := none) hk with ⟨rfl, e2⟩ | ⟨nk, hk'⟩
      · exact r.sep j k ej e v hj' hi mj me sj sk
      · exact r.sep j k ej ek v hj' hk' mj mk sj sk
/-- a value is stored in slot i -/
theorem Rep.set (r : Rep K O σ ρ B H) {i : Nat} {v : V} {d : PyData} (hv : Dt K B v d) : Rep K O (σ.set i (some v)) (ρ.set i (some (.val d))) B H where
  gr := r.gr
  len := by rw [List.length_set, List.length_set]; exact r.len
  ent := fun j ej hj => by
    rcases set_some (e' := none) hj with ⟨rfl, e1⟩ | ⟨nj, hj'⟩
    · cases e1
      have hl : j < σ.length := by
        have q := (List.getElem?_eq_some_iff.mp hj).1
        rw [List.length_set] at q; rw [r.len]; exact q
      exact ⟨v, List.getElem?_set_self hl, hv, fun z => z.elim⟩
    · obtain ⟨u, h1, h2, h3⟩ := r.ent j ej hj'
      exact ⟨u, by rw [List.getElem?_set_ne (Ne.symm nj)]; exact h1, h2, h3⟩
  sep := fun j k ej ek u hj hk mj mk sj sk => by
    rcases set_some (e' := none) hj with ⟨rfl, e1⟩ | ⟨nj, hj'⟩
    · cases e1; exact mj.elim
    · rcases set_some (e' := none) hk with ⟨rfl, e2⟩ | ⟨nk, hk'⟩
      · cases e2; exact mk.elim
      · rw [List.getElem?_set_ne (Ne.symm nj)] at sj
        rw [List.getElem?_set_ne (Ne.symm nk)] at sk
        exact r.sep j k ej ek u hj' hk' mj mk sj sk
/-- a new mutable thing is stored in slot i -/
theorem Rep.setM (r : Rep K O σ ρ B H) {i : Nat} {p : Addr} {e : Ent} (he : EntIs K B H (.ref p) e) (hp : O.H p = none) (hn : ∀ (j : Nat) (ej : Ent), ρ[j]? = some (some ej) → ej.mu → σ[j]? ≠ some (some (.ref p))) : Rep K O (σ.set i (some (.ref p))) (ρ.set i (some e)) B H where
  gr := r.gr
  len := by rw [List.length_set, List.length_set]; exact r.len
  ent := fun j ej hj => by
    rcases set_some (e' := none) hj with ⟨rfl, e1⟩ | ⟨nj, hj'⟩
    · cases e1
      have hl : j < σ.length := by
        have q := (List.getElem?_eq_some_iff.mp hj).1
        rw [List.length_set] at q; rw [r.len]; exact q
      exact ⟨_, List.getElem?_set_self hl, he, fun _ => ⟨p, rfl, .inl hp⟩⟩
    · obtain ⟨u, h1, h2, h3⟩ := r.ent j ej hj'
      exact ⟨u, by rw [List.getElem?_set_ne (Ne.symm nj)]; exact h1, h2, h3⟩
  sep := fun j k ej ek u hj hk mj mk sj sk => by
    have at_ : ∀ {j : Nat} {ej : Ent} {u : V}, (ρ.set i (some e))[j]? = some (some ej) → (σ.set i (some (.ref p)))[j]? = some (some u) → (j = i ∧ u = .ref p) ∨ (j ≠ i ∧ ρ[j]? = some (some ej) ∧ σ[j]? = some (some u)) := fun {j ej u} h1 h2 => by
      rcases set_some (e' := none) h1 with ⟨rfl, e1⟩ | ⟨nj, h1'⟩
      · rcases set_some (e' := none) h2 with ⟨_, e2⟩ | ⟨nj, h2'⟩
        · exact .inl ⟨rfl, (Option.some.inj e2).symm⟩
        · exact absurd rfl nj
      · rw [List.getElem?_set_ne (Ne.symm nj)] at h2
        exact .inr ⟨nj, h1', h2⟩
    rcases at_ hj sj with ⟨rfl, rfl⟩ | ⟨nj, hj', sj'⟩
    · rcases at_ hk sk with ⟨rfl, _⟩ | ⟨nk, hk', sk'⟩
      · rfl
      · exact absurd sk' (hn k ek hk' mk)
    · rcases at_ hk sk with ⟨rfl, rfl⟩ | ⟨nk, hk', sk'⟩
      · exact absurd sj' (hn j ej hj' mj)
      · exact r.sep j k ej ek u hj' hk' mj mk sj' sk'
/-- a slot is forgotten -/
theorem Rep.drop (r : Rep K O σ ρ B H) {i : Nat} {o : Option V} : Rep K O (σ.set i o) (ρ.set i none) B H where
  gr := r.gr
  len := by rw [List.length_set, List.length_set]; exact r.len
  ent := fun j ej hj => by
    rcases set_some (e' := none) hj with ⟨rfl, e1⟩ | ⟨nj, hj'⟩
    · cases e1
    · obtain ⟨u, h1, h2, h3⟩ := r.ent j ej hj'
      exact ⟨u, by rw [List.getElem?_set_ne (Ne.symm nj)]; exact h1, h2, h3⟩
  sep := fun j k ej ek u hj hk mj mk sj sk => by
    rcases set_some (e' := none) hj with ⟨rfl, e1⟩ | ⟨nj, hj'⟩
    · cases e1
    · rcases set_some (e' := none) hk with ⟨rfl, e2⟩ | ⟨nk, hk'⟩
      · cases e2
      · rw [List.getElem?_set_ne (Ne.symm nj)] at sj
        rw [List.getElem?_set_ne (Ne.symm nk)] at sk
        exact r.sep j k ej ek u hj' hk' mj mk sj sk
/-- the list in slot i is from now on a value -/
theorem Rep.rel (r : Rep K O σ ρ B H) {i : Nat} {ds : List PyData} (hi : ρ[i]? = some (some (.own ds))) : ∃ (l : Addr) (B' : Hp), σ[i]? = some (some (.ref l)) ∧ Gr (fun a => a = l) B H B' H ∧ Dt K B' (.ref l) (.list ds) ∧ Rep K O σ (ρ.set i (some (.val (.list ds)))) B' H := by
  obtain ⟨v, h1, ⟨l, vs, rfl, bl, hl, hd⟩, h3⟩ := r.ent i _ hi
  have g1 := gr_free (o := .lst vs) r.gr.bh hl bl
  obtain ⟨l', el, hO⟩ := h3 trivial
  cases el
  have hO' : O.H l = none := hO.resolve_right fun z => z.2.elim
  have d1 : Dt K (upd B l (.lst vs)) (.ref l) (.list ds) := .lst upd_same (dpAll_up g1.b _ _ hd)
  refine ⟨l, upd B l (.lst vs), h1, g1, d1, r.gr.trans' g1 (fun c e => .inl (by rw [e]; exact hO')), by rw [List.length_set]; exact r.len, fun j ej hj => ?_, fun j k ej ek u hj hk mj mk sj sk => ?_⟩
  · rcases set_some (e' := none) hj with ⟨rfl, e1⟩ | ⟨nj, hj'⟩
    · cases e1
      exact ⟨_, h1, d1, fun z => z.elim⟩
    · obtain ⟨u, s1, s2, s3⟩ := r.ent j ej hj'
      refine ⟨u, s1, entIs_up g1 s2 (fun m me eu z => ?_), s3⟩
      subst z
      rw [eu] at s1
      exact nj (r.sep j i _ _ (.ref m) hj' hi me trivial s1 h1)
  · rcases set_some (e' := none) hj with ⟨rfl, e1⟩ | ⟨nj, hj'⟩
    · cases e1; exact mj.elim
    · rcases set_some (e' := none) hk with ⟨rfl, e2⟩ | ⟨nk, hk'⟩
      · cases e2; exact mk.elim
      · exact r.sep j k ej ek u hj' hk' mj mk sj sk
/-- the addresses of what the slots hold to be changed -/
def Mu (σ : L2.St) (ρ : Ev) (a : Addr) : Prop := ∃ (i : Nat) (e : Ent), ρ[i]? = some (some e) ∧ e.mu ∧ σ[i]? = some (some (.ref a))
/-- one step of a run: what it may change, and that it takes nothing more -/
structure Stp (σ : L2.St) (ρ : Ev) (B H : Hp) (ρ' : Ev) (B' H' : Hp) : Prop where
  gr : Gr (Mu σ ρ) B H B' H'
  mu : ∀ a, Mu σ ρ' a → Mu σ ρ a
theorem Stp.b {ρ' : Ev} (s : Stp σ ρ B H ρ' B' H') : Same B B' := s.gr.b
theorem Stp.refl (r : Rep K O σ ρ B H) : Stp σ ρ B H ρ B H := ⟨Gr.refl r.gr.bh, fun _ h => h⟩
theorem Stp.trans {ρ1 ρ2 : Ev} {B1 H1 B2 H2 : Hp} (a : Stp σ ρ B H ρ1 B1 H1) (b : Stp σ ρ1 B1 H1 ρ2 B2 H2) : Stp σ ρ B H ρ2 B2 H2 :=
  ⟨a.gr.trans' b.gr fun c m => .inr (a.mu c m), fun c m => a.mu c (b.mu c m)⟩
theorem Stp.gro {ρ1 : Ev} {B1 H1 B2 H2 : Hp} (a : Stp σ ρ B H ρ1 B1 H1) (g : Gr (fun _ => False) B1 H1 B2 H2) : Stp σ ρ B H ρ1 B2 H2 :=
  ⟨a.gr.trans' g fun c m => m.elim, a.mu⟩
/-- slot i's thing is written -/
theorem Stp.wr {ρ1 : Ev} {B1 H1 B2 H2 : Hp} (a : Stp σ ρ B H ρ1 B1 H1) {i : Nat} {e : Ent} {e' : Ent} {p : Addr} (hi : ρ1[i]? = some (some e)) (me : e.mu) (hs : σ[i]? = some (some (.ref p))) (g : Gr (fun a => a = p) B1 H1 B2 H2) : Stp σ ρ B H (ρ1.set i (some e')) B2 H2 :=
  ⟨a.gr.trans' g fun c m => .inr (a.mu c (by subst m; exact ⟨i, e, hi, me, hs⟩)), fun c ⟨j, ej, hj, mj, sj⟩ => by
    rcases set_some (e' := none) hj with ⟨rfl, _⟩ | ⟨_, hj'⟩
    · exact a.mu c ⟨j, e, hi, me, sj⟩
    · exact a.mu c ⟨j, ej, hj', mj, sj⟩⟩
end
end Pw
namespace Pw
open PySem PySem.Spec PyProof.Rows L2

def XdIs (K : PySem.W.Frag) (H0 B H : Hp) (d : Option Addr) (xs : Fs) : Prop := (d = none ∧ xs = []) ∨ ∃ (dx : Addr) (gs : List (Str × V)), d = some dx ∧ H0 dx = none ∧ H dx = some (.xd gs) ∧ FsIs K B gs xs
theorem XdIs.old {K : PySem.W.Frag} {H1 B' H' : Hp} {d : Option Addr} {xs : Fs} (x : XdIs K H1 B' H' d xs) {M : Addr → Prop} {B H B1 : Hp} (g : Gr M B H B1 H1) : XdIs K H B' H' d xs := by
  rcases x with x | ⟨dx, gs, e, n, h, f⟩
  · exact .inl x
  · refine .inr ⟨dx, gs, e, ?_, h, f⟩
    cases q : H dx with
    | none => rfl
    | some o => exact absurd n (g.dom dx (by rw [q]; exact fun z => nomatch z))
abbrev Wx := Value → Fs → Prop
structure Wsh (O : Og) (X : Cx) (W : Wx) : Prop where
  tk : Takes X (fun cls d _ H => O.E cls d H)
  ok : ∀ (cls : Value) (xs : Fs) (d : Option Addr) (B' H' : Hp), W cls xs → Gr O.M O.B O.H B' H' → XdIs X.K O.H B' H' d xs → O.E cls d H'

/-! ### what an expression evaluates to, over data -/
def DE (X : Cx) (W : Wx) (e : Expr) (ρ : Ev) (Q : PyData → Ev → Prop) : Prop :=
  ∀ (O : Og) (σ : L2.St) (B H : Hp), Rep X.K O σ ρ B H → Wsh O X W → ∀ R : VK, (∀ d ρ' v B' H', Q d ρ' → Rep X.K O σ ρ' B' H' → Stp σ ρ B H ρ' B' H' → Dt X.K B' v d → R v H') → WE X e σ H R
def DT (X : Cx) (W : Wx) (e : Expr) (ρ : Ev) (Q : Bool → Ev → Prop) : Prop :=
  ∀ (O : Og) (σ : L2.St) (B H : Hp), Rep X.K O σ ρ B H → Wsh O X W → ∀ R : Bool → Hp → Prop, (∀ b ρ' B' H', Q b ρ' → Rep X.K O σ ρ' B' H' → Stp σ ρ B H ρ' B' H' → R b H') → WT X e σ H R
def DA (X : Cx) (W : Wx) (es : List Expr) (ρ : Ev) (Q : List PyData → Ev → Prop) : Prop :=
  ∀ (O : Og) (σ : L2.St) (B H : Hp), Rep X.K O σ ρ B H → Wsh O X W → ∀ R : List V → Hp → Prop, (∀ ds ρ' vs B' H', Q ds ρ' → Rep X.K O σ ρ' B' H' → Stp σ ρ B H ρ' B' H' → DtAll X.K B' vs ds → R vs H') → WA X es σ H R
/-- a new list that nobody else holds -/
def DL (X : Cx) (W : Wx) (e : Expr) (ρ : Ev) (Q : List PyData → Ev → Prop) : Prop :=
  ∀ (O : Og) (σ : L2.St) (B H : Hp), Rep X.K O σ ρ B H → Wsh O X W → ∀ R : VK, (∀ ds ρ' l vs B' H', Q ds ρ' → Rep X.K O σ ρ' B' H' → Stp σ ρ B H ρ' B' H' → H l = none → B' l = none → H' l = some (.lst vs) → DtAll X.K B' vs ds →
    (∀ (j : Nat) (ej : Ent), ρ'[j]? = some (some ej) → ej.mu → σ[j]? ≠ some (some (.ref l))) → R (.ref l) H') → WE X e σ H R
/-- a list or a tuple that stands -/
def DP (X : Cx) (W : Wx) (e : Expr) (ρ : Ev) (Q : List PyData → Ev → Prop) : Prop :=
  ∀ (O : Og) (σ : L2.St) (B H : Hp), Rep X.K O σ ρ B H → Wsh O X W → ∀ R : VK, (∀ ds ρ' a vs B' H', Q ds ρ' → Rep X.K O σ ρ' B' H' → Stp σ ρ B H ρ' B' H' → (SqL X.K B' a vs ∨ SqT X.K B' a vs) → DtAll X.K B' vs ds → R (.ref a) H') → WE X e σ H R

section
variable {X : Cx} {W : Wx} {a b c e : Expr} {es : List Expr} {ρ : Ev} {pos : Pos} {Q : PyData → Ev → Prop}
theorem de_mono {Q' : PyData → Ev → Prop} (h : DE X W e ρ Q) (m : ∀ d ρ', Q d ρ' → Q' d ρ') : DE X W e ρ Q' := fun O σ B H r w R k => h O σ B H r w R fun d ρ' v B' H' q => k d ρ' v B' H' (m d ρ' q)
theorem de_int {i : Int} {j : Nat} (k : Q (.int i) ρ) : DE X W (.Constant (.int i) j pos) ρ Q := fun O σ B H r w R q => we_of pe_int (q _ _ _ B H k r (Stp.refl r) (.int i))
theorem de_str {x : Str} {j : Nat} (k : Q (.str x) ρ) : DE X W (.Constant (.str x) j pos) ρ Q := fun O σ B H r w R q => we_of pe_str (q _ _ _ B H k r (Stp.refl r) (.str x))
theorem de_bl {x : Bool} {j : Nat} (k : Q (.bool x) ρ) : DE X W (.Constant (.bool x) j pos) ρ Q := fun O σ B H r w R q => we_of pe_bl (q _ _ _ B H k r (Stp.refl r) (.bl x))
theorem de_non {j : Nat} (k : Q .none ρ) : DE X W (.Constant .none j pos) ρ Q := fun O σ B H r w R q => we_of pe_non (q _ _ _ B H k r (Stp.refl r) .non)
/-- a name that holds a value -/
theorem de_var (i : Nat) {x : Str} {d : PyData} (h : ρ[i]? = some (some (.val d))) (k : Q d ρ) (hN : X.N[i]? = some x := by rfl) (hv : Vis X.env.scope x := by first | exact Or.inl rfl | exact Or.inr (Or.inl rfl) | exact Or.inr (Or.inr rfl))
    (hd : (x == ("__debug__" : Str)) = false := by decide) (hcd : (x == ("__classdict__" : Str)) = false := by decide) : DE X W (.Name x pos) ρ Q := fun O σ B H r w R q => by
  obtain ⟨v, h1, h2, _⟩ := r.ent i _ h
  exact we_of (pe_var hN hv hd hcd) ⟨v, h1, q _ _ _ B H k r (Stp.refl r) h2⟩
/-- a name that owns a list, which is from now on a value -/
theorem de_rel (i : Nat) {x : Str} {ds : List PyData} (h : ρ[i]? = some (some (.own ds))) (k : Q (.list ds) (ρ.set i (some (.val (.list ds))))) (hN : X.N[i]? = some x := by rfl) (hv : Vis X.env.scope x := by first | exact Or.inl rfl | exact Or.inr (Or.inl rfl) | exact Or.inr (Or.inr rfl))
    (hd : (x == ("__debug__" : Str)) = false := by decide) (hcd : (x == ("__classdict__" : Str)) = false := by decide) : DE X W (.Name x pos) ρ Q := fun O σ B H r w R q => by
  obtain ⟨l, B', h1, g, h2, r'⟩ := r.rel h
  exact we_of (pe_var hN hv hd hcd) ⟨_, h1, q _ _ _ B' H k r' ((Stp.refl r).wr h trivial h1 g) h2⟩
/-- a constant of the module -/
theorem de_glob {x : Str} {d : PyData} {v : V} {u : Value} (hm : X.mg x = some u) (rv : RelV v u) (hd : ∀ B, Dt X.K B v d) (k : Q d ρ) (hg : Gl X x := by rfl) (hdb : (x == ("__debug__" : Str)) = false := by decide) : DE X W (.Name x pos) ρ Q :=
  fun O σ B H r w R q => we_of (pe_glob hg hm rv hdb) (q _ _ _ B H k r (Stp.refl r) (hd B))

/-! ### operators -/
def OpD (X : Cx) (r : R2) (x y z : PyData) : Prop := ∀ (B H : Hp) (v u : V) (R : VK), Same B H → Dt X.K B v x → Dt X.K B u y → (∀ w B' H', Gr (fun _ => False) B H B' H' → Dt X.K B' w z → R w H') → r v u H R
theorem de_op {op : Operator} {r : R2} (ho : OpR X (binaryOp op) r) (h : DE X W a ρ fun x ρ1 => DE X W b ρ1 fun y ρ2 => ∃ z, OpD X r x y z ∧ Q z ρ2) : DE X W (.BinOp a op b pos) ρ Q := fun O σ B H rep ws R k =>
  we_of (pe_op ho pe_we pe_we) (h O σ B H rep ws _ fun x ρ1 v B1 H1 hb rep1 g1 dv => hb O σ B1 H1 rep1 ws _ fun y ρ2 u B2 H2 ⟨z, hz, q⟩ rep2 g2 du =>
    hz B2 H2 v u R rep2.sub (dp_up g2.b _ _ dv) du fun w B3 H3 g3 dw => k z ρ2 w B3 H3 q (rep2.grow g3) ((g1.trans g2).gro g3) dw)
theorem de_cmp {op : CmpOp} {r : R2} (ho : OpR X (compareOp op) r) (h : DE X W a ρ fun x ρ1 => DE X W b ρ1 fun y ρ2 => ∃ z, OpD X r x y z ∧ Q z ρ2) (hm : behindInMarks op b = false) : DE X W (.Compare a [op] [b] pos) ρ Q := fun O σ B H rep ws R k =>
  we_of (pe_cmpR ho pe_we pe_we hm) (h O σ B H rep ws _ fun x ρ1 v B1 H1 hb rep1 g1 dv => hb O σ B1 H1 rep1 ws _ fun y ρ2 u B2 H2 ⟨z, hz, q⟩ rep2 g2 du =>
    hz B2 H2 v u R rep2.sub (dp_up g2.b _ _ dv) du fun w B3 H3 g3 dw => k z ρ2 w B3 H3 q (rep2.grow g3) ((g1.trans g2).gro g3) dw)
theorem dt_cmp {op : CmpOp} {r : R2} {T : Bool → Ev → Prop} (ho : OpR X (compareOp op) r) (h : DE X W a ρ fun x ρ1 => DE X W b ρ1 fun y ρ2 => ∃ z, OpD X r x y (.bool z) ∧ T z ρ2) (hm : behindInMarks op b = false) : DT X W (.Compare a [op] [b] pos) ρ T := fun O σ B H rep ws R k =>
  wt_of (pt_cmpR ho pe_we pe_we hm) (h O σ B H rep ws _ fun x ρ1 v B1 H1 hb rep1 g1 dv => hb O σ B1 H1 rep1 ws _ fun y ρ2 u B2 H2 ⟨z, hz, q⟩ rep2 g2 du =>
    hz B2 H2 v u _ rep2.sub (dp_up g2.b _ _ dv) du fun w B3 H3 g3 dw => by
      cases dw
      exact ⟨z, rfl, k z ρ2 B3 H3 q (rep2.grow g3) ((g1.trans g2).gro g3)⟩)
theorem od_I0 {f : Int → Int → Int} {i j : Int} : OpD X (rI0 fun i j => .int (f i j)) (.int i) (.int j) (.int (f i j)) := fun B H v u R g dv du k => by
  cases dv; cases du
  exact ⟨i, j, rfl, rfl, k _ B H (Gr.refl g) (.int _)⟩
theorem od_I {C : Int → Int → Prop} {f : Int → Int → Int} {i j : Int} (hc : C i j) : OpD X (rI C fun i j => .int (f i j)) (.int i) (.int j) (.int (f i j)) := fun B H v u R g dv du k => by
  cases dv; cases du
  exact ⟨i, j, rfl, rfl, hc, k _ B H (Gr.refl g) (.int _)⟩
theorem od_B0 {f : Int → Int → Bool} {i j : Int} : OpD X (rI0 fun i j => .bl (f i j)) (.int i) (.int j) (.bool (f i j)) := fun B H v u R g dv du k => by
  cases dv; cases du
  exact ⟨i, j, rfl, rfl, k _ B H (Gr.refl g) (.bl _)⟩
def rCatS : R2 := fun x y H Q => ∃ i j, x = .str i ∧ y = .str j ∧ i.length + j.length ≤ sizeLine ∧ Q (.str (i ++ j)) H
theorem op_catS : OpR X (binaryOp .Add) rCatS := op_add_str
theorem od_catS {i j : Str} (h : i.length + j.length ≤ sizeLine) : OpD X rCatS (.str i) (.str j) (.str (i ++ j)) := fun B H v u R g dv du k => by
  cases dv; cases du
  exact ⟨i, j, rfl, rfl, h, k _ B H (Gr.refl g) (.str _)⟩
def rMulS : R2 := fun x y H Q => ∃ z n, x = .str z ∧ y = .int n ∧ MulOk z n ∧ Q (.str (Txt.mul z n)) H
theorem op_mulS : OpR X (binaryOp .Mult) rMulS := by
  intro pins s σ H x y v u Q I rx ry h
  obtain ⟨z, n, rfl, rfl, hz, q⟩ := h
  obtain ⟨t, rfl⟩ := rx
  obtain ⟨t', rfl⟩ := ry
  exact PySem.SB.mul hz fun t2 k => ⟨.str _, H, I.tok k, ⟨_, rfl⟩, q⟩
theorem od_mulS {z : Str} {n : Int} (h : MulOk z n) : OpD X rMulS (.str z) (.int n) (.str (Txt.mul z n)) := fun B H v u R g dv du k => by
  cases dv; cases du
  exact ⟨z, n, rfl, rfl, h, k _ B H (Gr.refl g) (.str _)⟩
/-- flat data -/
def flatD : PyData → Bool
  | .none => true
  | .bool _ => true
  | .int _ => true
  | .str _ => true
  | _ => false
def vOf : PyData → V
  | .none => .non
  | .bool b => .bl b
  | .int i => .int i
  | .str x => .str x
  | _ => .non
theorem dt_flat {K : PySem.W.Frag} {B : Hp} {v : V} {d : PyData} (h : Dt K B v d) (f : flatD d = true) : v = vOf d := by
  cases h <;> first | rfl | cases f
theorem od_eq {x y : PyData} (fx : flatD x = true) (fy : flatD y = true) (h : scal (vOf x) (vOf y) = true) : OpD X rEq x y (.bool (decide (vOf x = vOf y))) := fun B H v u R g dv du k => by
  obtain rfl := dt_flat dv fx
  obtain rfl := dt_flat du fy
  exact ⟨h, k _ B H (Gr.refl g) (.bl _)⟩
theorem od_ne {x y : PyData} (fx : flatD x = true) (fy : flatD y = true) (h : scal (vOf x) (vOf y) = true) : OpD X rNe x y (.bool (!decide (vOf x = vOf y))) := fun B H v u R g dv du k => by
  obtain rfl := dt_flat dv fx
  obtain rfl := dt_flat du fy
  exact ⟨h, k _ B H (Gr.refl g) (.bl _)⟩
/-! data compared as wholes -/
mutual
def noDict : PyData → Bool
  | .dict _ => false
  | .list ds => noDicts ds
  | .tuple ds => noDicts ds
  | _ => true
def noDicts : List PyData → Bool
  | [] => true
  | d :: r => noDict d && noDicts r
end
mutual
theorem dt_dp {K : PySem.W.Frag} {B H : Hp} (g : Same B H) : ∀ (d : PyData) (v : V), noDict d = true → Dt K B v d → Dp K H v d
  | .none, _, _, h => by cases h; exact .non
  | .bool b, _, _, h => by cases h; exact .bl b
  | .int i, _, _, h => by cases h; exact .int i
  | .str x, _, _, h => by cases h; exact .str x
  | .list ds, _, n, h => by
    cases h with
    | lst a b => exact .lst (SqL.of (g _ _ a)) (dt_dps g ds _ n b)
  | .tuple ds, _, n, h => by
    cases h with
    | tup a b => exact .tup (SqT.of (g _ _ a)) (dt_dps g ds _ n b)
  | .dict _, _, n, h => by cases n
theorem dt_dps {K : PySem.W.Frag} {B H : Hp} (g : Same B H) : ∀ (ds : List PyData) (vs : List V), noDicts ds = true → DtAll K B vs ds → DpAll K H vs ds
  | [], _, _, h => by cases h; exact .nil
  | d :: ds, _, n, h => by
    cases h with
    | cons a b =>
      have n' := Bool.and_eq_true_iff.mp n
      exact .cons (dt_dp g d _ n'.1 a) (dt_dps g ds _ n'.2 b)
end
structure Whole (d : PyData) : Prop where
  nd : noDict d = true
  sh : SeqAt.shaped d = true
theorem od_eqD {x y : PyData} (hx : Whole x) (hy : Whole y) : OpD X (rEqD X.K) x y (.bool (PyData.eqv x y)) := fun B H v u R g dv du k =>
  ⟨x, y, dt_dp g _ _ hx.nd dv, dt_dp g _ _ hy.nd du, hx.sh, hy.sh, k _ B H (Gr.refl g) (.bl _)⟩
theorem od_neD {x y : PyData} (hx : Whole x) (hy : Whole y) : OpD X (rNeD X.K) x y (.bool (!PyData.eqv x y)) := fun B H v u R g dv du k =>
  ⟨x, y, dt_dp g _ _ hx.nd dv, dt_dp g _ _ hy.nd du, hx.sh, hy.sh, k _ B H (Gr.refl g) (.bl _)⟩
/-! in, not in -/
theorem dts_flat {K : PySem.W.Frag} {B : Hp} : ∀ {vs : List V} {ds : List PyData}, DtAll K B vs ds → ds.all flatD = true → vs = ds.map vOf
  | _, _, .nil, _ => rfl
  | _, _, .cons a t, f => by
    have f' := Bool.and_eq_true_iff.mp (by rw [List.all_cons] at f; exact f)
    rw [List.map_cons, dt_flat a f'.1, dts_flat t f'.2]
theorem flat_vOf {d : PyData} (f : flatD d = true) : flatV (vOf d) = true := by cases d <;> first | rfl | cases f
theorem flats_vOf : ∀ {ds : List PyData}, ds.all flatD = true → (ds.map vOf).all flatV = true
  | [], _ => rfl
  | d :: ds, f => by
    have f' := Bool.and_eq_true_iff.mp (by rw [List.all_cons] at f; exact f)
    rw [List.map_cons, List.all_cons, flat_vOf f'.1, flats_vOf f'.2]; rfl
theorem od_inT {neg : Bool} {x : PyData} {ds : List PyData} (fx : flatD x = true) (fy : ds.all flatD = true) : OpD X (rIn X.K neg) x (.tuple ds) (.bool (if neg then !inV (vOf x) (ds.map vOf) else inV (vOf x) (ds.map vOf))) := fun B H v u R g dv du k => by
  obtain rfl := dt_flat dv fx
  cases du with
  | tup hb hd =>
    obtain rfl := dts_flat hd fy
    exact ⟨_, _, rfl, .inr (SqT.of (g _ _ hb)), flat_vOf fx, flats_vOf fy, k _ B H (Gr.refl g) (.bl _)⟩
def rInS (neg : Bool) : R2 := fun x y H Q => ∃ (c : Nat) (z : Str), x = .str ⟨#[c]⟩ ∧ y = .str z ∧ Q (.bl (if neg then !decide (c ∈ z.cps.toList) else decide (c ∈ z.cps.toList))) H
theorem op_inS : OpR X (compareOp .In) (rInS false) := op_in_sign
theorem op_niS : OpR X (compareOp .NotIn) (rInS true) := op_notIn_sign
theorem od_inS {neg : Bool} {c : Nat} {z : Str} : OpD X (rInS neg) (.str ⟨#[c]⟩) (.str z) (.bool (if neg then !decide (c ∈ z.cps.toList) else decide (c ∈ z.cps.toList))) := fun B H v u R g dv du k => by
  cases dv; cases du
  exact ⟨c, z, rfl, rfl, k _ B H (Gr.refl g) (.bl _)⟩
theorem de_neg (h : DE X W a ρ fun x ρ1 => ∃ i, x = .int i ∧ Q (.int (-i)) ρ1) : DE X W (.UnaryOp .USub a pos) ρ Q := fun O σ B H rep ws R k =>
  we_of (pe_un un_neg pe_we) (h O σ B H rep ws _ fun x ρ1 v B1 H1 ⟨i, ex, q⟩ rep1 g1 dv => by
    subst ex; cases dv
    exact ⟨i, rfl, k _ _ _ B1 H1 q rep1 g1 (.int _)⟩)

/-! ### tests -/
variable {T : Bool → Ev → Prop}
theorem dt_val (h : DE X W e ρ fun x ρ1 => ∃ b, x = .bool b ∧ T b ρ1) (he : ∀ whole, isTrue e X.env whole = (do let v ← whole; standAt e.pos; holding [v] (truthy v)) := by intro _; rfl) : DT X W e ρ T := fun O σ B H rep ws R k =>
  wt_of (pt_val pe_we he) (h O σ B H rep ws _ fun x ρ1 v B1 H1 ⟨b, ex, q⟩ rep1 g1 dv => by
    subst ex; cases dv
    exact ⟨b, rfl, k b ρ1 B1 H1 q rep1 g1⟩)
/-- a value's truth -/
def truD : PyData → Bool
  | .none => false
  | .bool b => b
  | .int i => i != 0
  | .str x => (x.length : Int) != 0
  | .list ds => !ds.isEmpty
  | .tuple ds => !ds.isEmpty
  | .dict kvs => !kvs.isEmpty
def shortD : PyData → Prop
  | .dict ((.str _, _) :: _) => False
  | .str x => x.length ≤ sizeLine
  | _ => True
theorem short_scr {ns : List Int} : shortD (scrD ns) := by cases ns <;> exact trivial
theorem isEmpty_dt {K : PySem.W.Frag} {B : Hp} {vs : List V} {ds : List PyData} (h : DtAll K B vs ds) : vs.isEmpty = ds.isEmpty := by cases h <;> rfl
theorem truV_of {K : PySem.W.Frag} {B H : Hp} {v : V} {d : PyData} (g : Same B H) (h : Dt K B v d) (s : shortD d) : TruV K v H (truD d) := by
  cases h with
  | non => rfl
  | bl b => rfl
  | int i => rfl
  | str x => exact ⟨s, rfl⟩
  | lst a b => exact .inl ⟨_, SqL.of (g _ _ a), by rw [isEmpty_dt b]; rfl⟩
  | tup a b => exact .inr (.inl ⟨_, SqT.of (g _ _ a), by rw [isEmpty_dt b]; rfl⟩)
  | @scr a ns hs => exact .inl ⟨_, sqL_up g hs, by cases ns <;> rfl⟩
  | exc a b => exact s.elim
theorem dt_tru (h : DE X W e ρ fun x ρ1 => shortD x ∧ T (truD x) ρ1) (he : ∀ whole, isTrue e X.env whole = (do let v ← whole; standAt e.pos; holding [v] (truthy v)) := by intro _; rfl) : DT X W e ρ T := fun O σ B H rep ws R k =>
  wt_of (pt_truth pe_we he) (h O σ B H rep ws _ fun x ρ1 v B1 H1 ⟨s, q⟩ rep1 g1 dv => ⟨_, truV_of rep1.sub dv s, k _ ρ1 B1 H1 q rep1 g1⟩)
/-- a name that owns a list, as a test -/
theorem dt_own (i : Nat) {x : Str} {ds : List PyData} (h : ρ[i]? = some (some (.own ds))) (k : T (!ds.isEmpty) ρ) (hN : X.N[i]? = some x := by rfl) (hv : Vis X.env.scope x := by first | exact Or.inl rfl | exact Or.inr (Or.inl rfl) | exact Or.inr (Or.inr rfl))
    (hd : (x == ("__debug__" : Str)) = false := by decide) (hcd : (x == ("__classdict__" : Str)) = false := by decide) : DT X W (.Name x pos) ρ T := fun O σ B H r w R q => by
  obtain ⟨v, h1, ⟨l, vs, rfl, _, hl, hd'⟩, _⟩ := r.ent i _ h
  exact wt_of (pt_truth (pe_var hN hv hd hcd) (by intro _; rfl)) ⟨_, h1, _, .inl ⟨_, SqL.of hl, by rw [isEmpty_dt hd']⟩, q _ _ B H k r (Stp.refl r)⟩
theorem dt_not (h : DT X W a ρ fun b ρ1 => T (!b) ρ1) : DT X W (.UnaryOp .Not a pos) ρ T := fun O σ B H rep ws R k =>
  wt_of (pt_not pt_wt) (h O σ B H rep ws _ fun b ρ1 B1 H1 q rep1 g1 => k _ ρ1 B1 H1 q rep1 g1)
variable {rest : List Expr}
end
end Pw
namespace Pw
open PySem PySem.Spec PyProof.Rows L2

def WW (X : Cx) (e : Expr) (σ : L2.St) (H : Hp) (R : Bool → Hp → Prop) : Prop :=
  ∀ (whole : Sem Value) (pins : List (Addr × Obj)) (s : Shared), Inv X pins σ H s → wpAny (model X.prog X.w) X.A (isTrue e X.env whole) (TP X pins σ R) X.xe s
def DW (X : Cx) (W : Wx) (e : Expr) (ρ : Ev) (T : Bool → Ev → Prop) : Prop :=
  ∀ (O : Og) (σ : L2.St) (B H : Hp), Rep X.K O σ ρ B H → Wsh O X W → ∀ R : Bool → Hp → Prop, (∀ b ρ' B' H', T b ρ' → Rep X.K O σ ρ' B' H' → Stp σ ρ B H ρ' B' H' → R b H') → WW X e σ H R
section
variable {X : Cx} {W : Wx} {a b c e : Expr} {es : List Expr} {ρ : Ev} {pos : Pos} {Q : PyData → Ev → Prop} {T : Bool → Ev → Prop} {rest : List Expr} {QA : List PyData → Ev → Prop}
theorem pw_ww : PW X e (WW X e) := ⟨fun wh pins s _ _ _ I h => h wh pins s I⟩
theorem ww_of {t : TT} {σ : L2.St} {H : Hp} {R : Bool → Hp → Prop} (h : PW X e t) (q : t σ H R) : WW X e σ H R := fun wh pins s I => h.run wh pins s σ H R I q
theorem dw_and1 (h : DT X W a ρ T) : DW X W (.BoolOp .And [a] pos) ρ T := fun O σ B H rep ws R k => ww_of (pw_and1 pt_wt) (h O σ B H rep ws R k)
theorem dw_or1 (h : DT X W a ρ T) : DW X W (.BoolOp .Or [a] pos) ρ T := fun O σ B H rep ws R k => ww_of (pw_or1 pt_wt) (h O σ B H rep ws R k)
theorem dw_and (h : DT X W a ρ fun k ρ1 => if k = true then DW X W (.BoolOp .And (b :: rest) pos) ρ1 T else T false ρ1) : DW X W (.BoolOp .And (a :: b :: rest) pos) ρ T := fun O σ B H rep ws R k =>
  ww_of (pw_and pt_wt pw_ww) (h O σ B H rep ws _ fun x ρ1 B1 H1 q rep1 g1 => by
    cases x with
    | true => exact q O σ B1 H1 rep1 ws R fun y ρ2 B2 H2 q2 rep2 g2 => k y ρ2 B2 H2 q2 rep2 (g1.trans g2)
    | false => exact k false ρ1 B1 H1 q rep1 g1)
theorem dw_or (h : DT X W a ρ fun k ρ1 => if k = true then T true ρ1 else DW X W (.BoolOp .Or (b :: rest) pos) ρ1 T) : DW X W (.BoolOp .Or (a :: b :: rest) pos) ρ T := fun O σ B H rep ws R k =>
  ww_of (pw_or pt_wt pw_ww) (h O σ B H rep ws _ fun x ρ1 B1 H1 q rep1 g1 => by
    cases x with
    | false => exact q O σ B1 H1 rep1 ws R fun y ρ2 B2 H2 q2 rep2 g2 => k y ρ2 B2 H2 q2 rep2 (g1.trans g2)
    | true => exact k true ρ1 B1 H1 q rep1 g1)
theorem dt_w (h : DW X W e ρ T) : DT X W e ρ T := fun O σ B H rep ws R k => wt_of (PW.pt pw_ww) (h O σ B H rep ws R k)
/-! and, or as values (truths) -/
theorem de_one {op : BoolOp} (h : DE X W a ρ Q) : DE X W (.BoolOp op [a] pos) ρ Q := fun O σ B H rep ws R k => we_of (pe_one pe_we) (h O σ B H rep ws R k)
theorem de_and (h : DE X W a ρ fun x ρ1 => ∃ k, x = .bool k ∧ if k = true then DE X W (.BoolOp .And (b :: rest) pos) ρ1 Q else Q (.bool false) ρ1) : DE X W (.BoolOp .And (a :: b :: rest) pos) ρ Q := fun O σ B H rep ws R k =>
  we_of (pe_and pe_we pe_we) (h O σ B H rep ws _ fun x ρ1 v B1 H1 ⟨y, ex, q⟩ rep1 g1 dv => by
    subst ex; cases dv
    refine ⟨y, rfl, ?_⟩
    cases y with
    | true => exact q O σ B1 H1 rep1 ws R fun z ρ2 v2 B2 H2 q2 rep2 g2 d2 => k z ρ2 v2 B2 H2 q2 rep2 (g1.trans g2) d2
    | false => exact k _ ρ1 _ B1 H1 q rep1 g1 (.bl false))
theorem de_or (h : DE X W a ρ fun x ρ1 => ∃ k, x = .bool k ∧ if k = true then Q (.bool true) ρ1 else DE X W (.BoolOp .Or (b :: rest) pos) ρ1 Q) : DE X W (.BoolOp .Or (a :: b :: rest) pos) ρ Q := fun O σ B H rep ws R k =>
  we_of (pe_or pe_we pe_we) (h O σ B H rep ws _ fun x ρ1 v B1 H1 ⟨y, ex, q⟩ rep1 g1 dv => by
    subst ex; cases dv
    refine ⟨y, rfl, ?_⟩
    cases y with
    | false => exact q O σ B1 H1 rep1 ws R fun z ρ2 v2 B2 H2 q2 rep2 g2 d2 => k z ρ2 v2 B2 H2 q2 rep2 (g1.trans g2) d2
    | true => exact k _ ρ1 _ B1 H1 q rep1 g1 (.bl true))
theorem de_not (h : DE X W a ρ fun x ρ1 => ∃ k, x = .bool k ∧ Q (.bool (!k)) ρ1) : DE X W (.UnaryOp .Not a pos) ρ Q := fun O σ B H rep ws R k =>
  we_of (pe_not pe_we) (h O σ B H rep ws _ fun x ρ1 v B1 H1 ⟨y, ex, q⟩ rep1 g1 dv => by
    subst ex; cases dv
    exact ⟨y, rfl, k _ ρ1 _ B1 H1 q rep1 g1 (.bl _)⟩)
theorem de_if (h : DT X W c ρ fun k ρ1 => if k = true then DE X W a ρ1 Q else DE X W b ρ1 Q) : DE X W (.IfExp c a b pos) ρ Q := fun O σ B H rep ws R k =>
  we_of (pe_ifExp pt_wt pe_we pe_we) (h O σ B H rep ws _ fun x ρ1 B1 H1 q rep1 g1 => by
    cases x with
    | true => exact q O σ B1 H1 rep1 ws R fun z ρ2 v2 B2 H2 q2 rep2 g2 d2 => k z ρ2 v2 B2 H2 q2 rep2 (g1.trans g2) d2
    | false => exact q O σ B1 H1 rep1 ws R fun z ρ2 v2 B2 H2 q2 rep2 g2 d2 => k z ρ2 v2 B2 H2 q2 rep2 (g1.trans g2) d2)

/-! ### argument lists, displays -/
theorem da_nil (k : QA [] ρ) : DA X W [] ρ QA := fun O σ B H rep ws R q => wa_of pa_nil (q _ _ _ B H k rep (Stp.refl rep) .nil)
theorem da_cons (h : DE X W e ρ fun x ρ1 => DA X W es ρ1 fun xs ρ2 => QA (x :: xs) ρ2) (hs : starEach (e :: es) X.env = (false, eval e X.env) :: starEach es X.env := by rfl) : DA X W (e :: es) ρ QA := fun O σ B H rep ws R k =>
  wa_of (pa_cons pe_we pa_wa hs) (h O σ B H rep ws _ fun x ρ1 v B1 H1 ha rep1 g1 dv => ha O σ B1 H1 rep1 ws _ fun xs ρ2 vs B2 H2 q rep2 g2 dvs =>
    k _ ρ2 _ B2 H2 q rep2 (g1.trans g2) (.cons (dp_up g2.b _ _ dv) dvs))
theorem de_tup {x1} (h : DA X W es ρ fun ds ρ1 => ds.length ≤ sizeLine ∧ Q (.tuple ds) ρ1) : DE X W (.Tuple es x1 pos) ρ Q := fun O σ B H rep ws R k =>
  we_of (pe_tup pa_wa) (h O σ B H rep ws _ fun ds ρ1 vs B1 H1 ⟨hl, q⟩ rep1 g1 dvs => ⟨by rw [dpa_len dvs]; exact hl, fun p hp => by
    have g := gr_new (o := .tup vs) rep1.sub hp
    exact k _ ρ1 _ _ _ q (rep1.grow g) (g1.gro g) (.tup upd_same (dpAll_up g.b _ _ dvs))⟩)
/-- the fresh list's place -/
theorem dl_new {O : Og} {σ : L2.St} {ρ' : Ev} {B H B' H' : Hp} {QL : List PyData → Ev → Prop} {R : VK} {ds : List PyData} {vs : List V}
    (k : ∀ ds ρ' l vs B' H', QL ds ρ' → Rep X.K O σ ρ' B' H' → Stp σ ρ B H ρ' B' H' → H l = none → B' l = none → H' l = some (.lst vs) → DtAll X.K B' vs ds →
    (∀ (j : Nat) (ej : Ent), ρ'[j]? = some (some ej) → ej.mu → σ[j]? ≠ some (some (.ref l))) → R (.ref l) H') (rep : Rep X.K O σ ρ' B' H') (g : Stp σ ρ B H ρ' B' H') (d : DtAll X.K B' vs ds) (q : QL ds ρ') {p : Addr} (hp : H' p = none) : R (.ref p) (upd H' p (.lst vs)) := by
  have gr := gr_newM (o := .lst vs) rep.sub hp
  refine k ds ρ' p vs B' _ q (rep.grow gr) (g.gro gr) ?_ (rep.sub.free hp) upd_same d fun j ej hj mj hs => ?_
  · cases e : H p with
    | none => rfl
    | some o => exact absurd hp (g.gr.dom p (by rw [e]; exact fun z => nomatch z))
  · obtain ⟨v, h1, h2, _⟩ := rep.ent j ej hj
    obtain ⟨l, el, _, hl⟩ := entIs_mu h2 mj
    rw [hs] at h1; cases h1
    cases el
    exact hl hp
theorem Rep.freshO {O : Og} {σ : L2.St} {B H : Hp} {K : PySem.W.Frag} (rep : Rep K O σ ρ B H) {l : Addr} (h : H l = none) : O.H l = none := by
  cases e : O.H l with
  | none => rfl
  | some o => exact absurd h (rep.gr.dom l (by rw [e]; exact fun z => nomatch z))
variable {QL : List PyData → Ev → Prop}
theorem dl_lst (h : DA X W es ρ fun ds ρ1 => ds.length ≤ sizeLine ∧ QL ds ρ1) : DL X W (.List es pos) ρ QL := fun O σ B H rep ws R k =>
  we_of (pe_lst pa_wa) (h O σ B H rep ws _ fun ds ρ1 vs B1 H1 ⟨hl, q⟩ rep1 g1 dvs => ⟨by rw [dpa_len dvs]; exact hl, fun p hp => dl_new k rep1 g1 dvs q hp⟩)
/-- a new list, kept as a value -/
theorem de_new (h : DL X W e ρ fun ds ρ1 => Q (.list ds) ρ1) : DE X W e ρ Q := fun O σ B H rep ws R k =>
  h O σ B H rep ws R fun ds ρ' l vs B' H' q rep1 g1 o1 b1 h1 d1 n1 => by
    have g2 := gr_free (o := .lst vs) rep1.sub h1 b1
    have hO := rep.freshO o1
    refine k _ ρ' _ (upd B' l (.lst vs)) H' q ⟨rep1.gr.trans' g2 (fun c e => .inl (by rw [e]; exact hO)), rep1.len, fun i ei hi => ?_, rep1.sep⟩ ⟨g1.gr.trans' g2 (fun c e => .inl (by rw [e]; exact o1)), g1.mu⟩ (.lst upd_same (dpAll_up g2.b _ _ d1))
    obtain ⟨v, s1, s2, s3⟩ := rep1.ent i ei hi
    refine ⟨v, s1, entIs_up g2 s2 (fun m me ev z => ?_), s3⟩
    subst z
    exact n1 i ei hi me (by rw [s1, ev])

/-! ### lists and tuples that stand -/
theorem dp_list (h : DE X W e ρ fun x ρ1 => ∃ ds, x = .list ds ∧ QL ds ρ1) : DP X W e ρ QL := fun O σ B H rep ws R k =>
  h O σ B H rep ws R fun x ρ1 v B1 H1 ⟨ds, ex, q⟩ rep1 g1 dv => by
    subst ex
    cases dv with
    | lst hb hd => exact k ds ρ1 _ _ B1 H1 q rep1 g1 (.inl (SqL.of hb)) hd
theorem dp_tup (h : DE X W e ρ fun x ρ1 => ∃ ds, x = .tuple ds ∧ QL ds ρ1) : DP X W e ρ QL := fun O σ B H rep ws R k =>
  h O σ B H rep ws R fun x ρ1 v B1 H1 ⟨ds, ex, q⟩ rep1 g1 dv => by
    subst ex
    cases dv with
    | tup hb hd => exact k ds ρ1 _ _ B1 H1 q rep1 g1 (.inr (SqT.of hb)) hd
theorem scrD_inj {ns ms : List Int} (h : scrD ns = scrD ms) : ns = ms := by
  have e : (ns.map fun n => (PyData.int n, PyData.none)) = ms.map fun n => (PyData.int n, PyData.none) := PyData.dict.inj h
  have := congrArg (List.map fun p : PyData × PyData => match p.1 with | .int i => i | _ => 0) e
  simpa [List.map_map, Function.comp_def] using this
theorem scr_exc {ns : List Int} {C : Addr} {fs : List (Str × Int)} (h : scrD ns = excD C fs) : False := by
  have e := PyData.dict.inj h
  cases ns with
  | nil => cases e
  | cons n ns => cases (List.cons.inj e).1
theorem dp_scr (h : DE X W e ρ fun x ρ1 => ∃ ns, x = scrD ns ∧ QL (ns.map .int) ρ1) : DP X W e ρ QL := fun O σ B H rep ws R k =>
  h O σ B H rep ws R fun x ρ1 v B1 H1 ⟨ns, ex, q⟩ rep1 g1 dv => by
    generalize ey : x = y at dv
    cases dv with
    | @scr a ms hs =>
      obtain rfl := scrD_inj (ex.symm.trans ey)
      exact k _ ρ1 _ _ B1 H1 q rep1 g1 (.inl hs) dpa_ints
    | exc a b => exact (scr_exc (ex.symm.trans ey)).elim
    | _ => rw [ex] at ey; cases ey
theorem atI_dt {K : PySem.W.Frag} {B : Hp} {vs : List V} {ds : List PyData} {i : Int} {d : PyData} (h : DtAll K B vs ds) (e : atI ds i = some d) : ∃ v, atI vs i = some v ∧ Dt K B v d := by
  unfold atI at e ⊢
  rw [dpa_len h]
  cases q : ixN ds.length i with
  | none => rw [q] at e; cases e
  | some j =>
    rw [q] at e
    exact dpa_get h e
theorem seq_up {K : PySem.W.Frag} {B B' : Hp} {a : Addr} {vs : List V} (g : Same B B') (h : SqL K B a vs ∨ SqT K B a vs) : SqL K B' a vs ∨ SqT K B' a vs := h.imp (sqL_up g) (sqT_up g)
theorem de_ix (h : DP X W a ρ fun ds ρ1 => DE X W b ρ1 fun y ρ2 => ∃ i d, y = .int i ∧ atI ds i = some d ∧ Q d ρ2) (hs : PlainIx b := by exact fun _ _ => rfl) : DE X W (.Subscript a b pos) ρ Q := fun O σ B H rep ws R k =>
  we_of (pe_ix ix_seq pe_we pe_we hs) (h O σ B H rep ws _ fun ds ρ1 p vs B1 H1 hb rep1 g1 sq dvs => hb O σ B1 H1 rep1 ws _ fun y ρ2 u B2 H2 ⟨i, d, ey, ea, q⟩ rep2 g2 du => by
    subst ey; cases du
    obtain ⟨v, e1, dv⟩ := atI_dt (dpAll_up g2.b _ _ dvs) ea
    have fin := k d ρ2 v B2 H2 q rep2 (g1.trans g2) dv
    rcases seq_up (g2.b.trans rep2.sub) sq with z | z
    · exact .inl ⟨p, vs, i, v, rfl, rfl, z, e1, fin⟩
    · exact .inr (.inl ⟨p, vs, i, v, rfl, rfl, z, e1, fin⟩))
theorem de_ixS (h : DE X W a ρ fun x ρ1 => DE X W b ρ1 fun y ρ2 => ∃ z i c, x = .str z ∧ y = .int i ∧ z.length ≤ sizeLine ∧ atI z.cps.toList i = some c ∧ Q (.str ⟨#[c]⟩) ρ2) (hs : PlainIx b := by exact fun _ _ => rfl) : DE X W (.Subscript a b pos) ρ Q := fun O σ B H rep ws R k =>
  we_of (pe_ix ix_seq pe_we pe_we hs) (h O σ B H rep ws _ fun x ρ1 v B1 H1 hb rep1 g1 dv => hb O σ B1 H1 rep1 ws _ fun y ρ2 u B2 H2 ⟨z, i, c, ex, ey, hz, ea, q⟩ rep2 g2 du => by
    subst ex; subst ey; cases dv; cases du
    exact .inr (.inr ⟨z, i, c, rfl, rfl, hz, ea, k _ ρ2 _ B2 H2 q rep2 (g1.trans g2) (.str _)⟩))
/-- an item of a list that a name owns -/
theorem de_ixO (i : Nat) {x : Str} {ds : List PyData} {p1 : Pos} (h : ρ[i]? = some (some (.own ds))) (hb : DE X W b ρ fun y ρ2 => ρ2 = ρ ∧ ∃ j d, y = .int j ∧ atI ds j = some d ∧ Q d ρ) (hN : X.N[i]? = some x := by rfl) (hv : Vis X.env.scope x := by first | exact Or.inl rfl | exact Or.inr (Or.inl rfl) | exact Or.inr (Or.inr rfl))
    (hd : (x == ("__debug__" : Str)) = false := by decide) (hcd : (x == ("__classdict__" : Str)) = false := by decide) (hs : PlainIx b := by exact fun _ _ => rfl) : DE X W (.Subscript (.Name x p1) b pos) ρ Q := fun O σ B H r w R q => by
  obtain ⟨v, h1, ⟨l, vs, rfl, _, hl, hd'⟩, _⟩ := r.ent i _ h
  refine we_of (pe_ix ix_list (pe_var hN hv hd hcd) pe_we hs) ⟨_, h1, hb O σ B H r w _ fun y ρ2 u B2 H2 ⟨er, j, d, ey, ea, k⟩ rep2 g2 du => ?_⟩
  subst er; subst ey; cases du
  obtain ⟨v', h1', ⟨l', vs', rfl, _, hl', hd2⟩, _⟩ := rep2.ent i _ h
  rw [h1] at h1'; cases h1'
  obtain ⟨u, e1, dv⟩ := atI_dt hd2 ea
  exact ⟨l, vs', j, u, rfl, rfl, SqL.of hl', e1, q d _ u B2 H2 k rep2 g2 dv⟩

/-! ### slices -/
def DO (X : Cx) (W : Wx) (e : Option Expr) (ρ : Ev) (QO : Option Int → Ev → Prop) : Prop := match e with
  | none => QO none ρ
  | some e => DE X W e ρ fun x ρ1 => ∃ i, x = .int i ∧ QO (some i) ρ1
def tO (X : Cx) : Option Expr → TO
  | none => tNoPart
  | some e => tPart (WE X e)
theorem po_tO : ∀ {o : Option Expr}, PO X o (tO X o)
  | none => po_none
  | some _ => po_some pe_we
theorem do_run {o : Option Expr} {QO : Option Int → Ev → Prop} (h : DO X W o ρ QO) {O : Og} {σ : L2.St} {B H : Hp} (rep : Rep X.K O σ ρ B H) (ws : Wsh O X W) {R : Option Int → Hp → Prop}
    (k : ∀ i ρ' B' H', QO i ρ' → Rep X.K O σ ρ' B' H' → Stp σ ρ B H ρ' B' H' → R i H') : tO X o σ H R := by
  cases o with
  | none => exact k _ _ B H h rep (Stp.refl rep)
  | some e =>
    refine h O σ B H rep ws _ fun x ρ1 v B1 H1 hq rep1 g1 dv => ?_
    obtain ⟨i, ex, q⟩ := hq
    subst ex; cases dv
    exact ⟨i, rfl, k _ ρ1 B1 H1 q rep1 g1⟩
variable {lo hi : Option Expr} {p2 : Pos}
def cutD (ds : List PyData) (lo hi : Option Int) : List PyData := (ds.drop (HT.sIx ds.length 0 lo)).take (HT.sIx ds.length ds.length hi - HT.sIx ds.length 0 lo)
theorem cut_dt {K : PySem.W.Frag} {B : Hp} {vs : List V} {ds : List PyData} (h : DtAll K B vs ds) (lo hi : Option Int) : DtAll K B (cutV vs lo hi) (cutD ds lo hi) := by
  unfold cutV cutD
  rw [dpa_len h]
  exact dpa_take _ (dpa_drop _ h)
theorem dl_sl (h : DE X W e ρ fun x ρ1 => DO X W lo ρ1 fun i ρ2 => DO X W hi ρ2 fun j ρ3 => ∃ ds, x = .list ds ∧ QL (cutD ds i j) ρ3) : DL X W (.Subscript e (.Slice lo hi none p2) pos) ρ QL := fun O σ B H rep ws R k =>
  we_of (pe_slice sl_list pe_we po_tO po_tO) (h O σ B H rep ws _ fun x ρ1 v B1 H1 h1 rep1 g1 dv => do_run h1 rep1 ws fun i ρ2 B2 H2 h2 rep2 g2 => do_run h2 rep2 ws fun j ρ3 B3 H3 ⟨ds, ex, q⟩ rep3 g3 => by
    subst ex
    cases dv with
    | lst hb hd => exact ⟨_, _, rfl, SqL.of (rep3.sub _ _ (g3.b _ _ (g2.b _ _ hb))), fun p hp => dl_new k rep3 ((g1.trans g2).trans g3) (cut_dt (dpAll_up (g2.trans g3).b _ _ hd) i j) q hp⟩)
theorem dl_slO (i : Nat) {x : Str} {ds : List PyData} {p1 : Pos} (h : ρ[i]? = some (some (.own ds))) (hb : DO X W lo ρ fun i ρ2 => DO X W hi ρ2 fun j ρ3 => ρ3 = ρ ∧ QL (cutD ds i j) ρ3) (hN : X.N[i]? = some x := by rfl) (hv : Vis X.env.scope x := by first | exact Or.inl rfl | exact Or.inr (Or.inl rfl) | exact Or.inr (Or.inr rfl))
    (hd : (x == ("__debug__" : Str)) = false := by decide) (hcd : (x == ("__classdict__" : Str)) = false := by decide) : DL X W (.Subscript (.Name x p1) (.Slice lo hi none p2) pos) ρ QL := fun O σ B H r w R q => by
  obtain ⟨v, h1, ⟨l, vs, rfl, _, hl, hd'⟩, _⟩ := r.ent i _ h
  refine we_of (pe_slice sl_list (pe_var hN hv hd hcd) po_tO po_tO) ⟨_, h1, do_run hb r w fun i1 ρ2 B2 H2 h2 rep2 g2 => do_run h2 rep2 w fun j ρ3 B3 H3 ⟨er, k⟩ rep3 g3 => ?_⟩
  subst er
  obtain ⟨v', h1', ⟨l', vs', rfl, _, hl', hd2⟩, _⟩ := rep3.ent i _ h
  rw [h1] at h1'; cases h1'
  exact ⟨l, vs', rfl, SqL.of hl', fun p hp => dl_new q rep3 (g2.trans g3) (cut_dt hd2 i1 j) k hp⟩
theorem de_slS (h : DE X W e ρ fun x ρ1 => DO X W lo ρ1 fun i ρ2 => DO X W hi ρ2 fun j ρ3 => ∃ z : Str, x = .str z ∧ z.length ≤ sizeLine ∧ Q (.str (cutS z i j)) ρ3) : DE X W (.Subscript e (.Slice lo hi none p2) pos) ρ Q := fun O σ B H rep ws R k =>
  we_of (pe_slice sl_str pe_we po_tO po_tO) (h O σ B H rep ws _ fun x ρ1 v B1 H1 h1 rep1 g1 dv => do_run h1 rep1 ws fun i ρ2 B2 H2 h2 rep2 g2 => do_run h2 rep2 ws fun j ρ3 B3 H3 ⟨z, ex, hz, q⟩ rep3 g3 => by
    subst ex; cases dv
    exact ⟨z, rfl, hz, k _ ρ3 _ B3 H3 q rep3 ((g1.trans g2).trans g3) (.str _)⟩)
/-! list + list, list * int -/
theorem dl_cat (h : DE X W a ρ fun x ρ1 => DE X W b ρ1 fun y ρ2 => ∃ ds es, x = .list ds ∧ y = .list es ∧ ds.length + es.length ≤ sizeLine ∧ QL (ds ++ es) ρ2) : DL X W (.BinOp a .Add b pos) ρ QL := fun O σ B H rep ws R k =>
  we_of (pe_op op_cat pe_we pe_we) (h O σ B H rep ws _ fun x ρ1 v B1 H1 hb rep1 g1 dv => hb O σ B1 H1 rep1 ws _ fun y ρ2 u B2 H2 ⟨ds, es, ex, ey, hl, q⟩ rep2 g2 du => by
    subst ex; subst ey
    cases dv with
    | lst hb1 hd1 =>
      cases du with
      | lst hb2 hd2 => exact ⟨_, _, _, _, rfl, rfl, rep2.sub _ _ (g2.b _ _ hb1), rep2.sub _ _ hb2, by rw [dpa_len hd1, dpa_len hd2]; exact hl, fun p hp => dl_new k rep2 (g1.trans g2) (dpa_app (dpAll_up g2.b _ _ hd1) hd2) q hp⟩)
theorem dpa_rep {K : PySem.W.Frag} {B : Hp} {vs : List V} {ds : List PyData} (h : DtAll K B vs ds) : ∀ k : Nat, DtAll K B (List.replicate k vs).flatten (List.replicate k ds).flatten
  | 0 => .nil
  | k + 1 => by rw [List.replicate_succ, List.replicate_succ, List.flatten_cons, List.flatten_cons]; exact dpa_app h (dpa_rep h k)
theorem dl_rep (h : DE X W a ρ fun x ρ1 => DE X W b ρ1 fun y ρ2 => ∃ ds n, x = .list ds ∧ y = .int n ∧ -(2 ^ 63) ≤ n ∧ n < 2 ^ 63 ∧ ds.length * n.toNat ≤ sizeLine ∧ QL (List.replicate n.toNat ds).flatten ρ2) : DL X W (.BinOp a .Mult b pos) ρ QL := fun O σ B H rep ws R k =>
  we_of (pe_op op_rep pe_we pe_we) (h O σ B H rep ws _ fun x ρ1 v B1 H1 hb rep1 g1 dv => hb O σ B1 H1 rep1 ws _ fun y ρ2 u B2 H2 ⟨ds, n, ex, ey, n1, n2, hl, q⟩ rep2 g2 du => by
    subst ex; subst ey; cases du
    cases dv with
    | lst hb1 hd1 => exact ⟨_, _, _, rfl, rfl, rep2.sub _ _ (g2.b _ _ hb1), n1, n2, by rw [dpa_len hd1]; exact hl, fun p hp => dl_new k rep2 (g1.trans g2) (dpa_rep (dpAll_up g2.b _ _ hd1) _) q hp⟩)
end
end Pw
namespace Pw
open PySem PySem.Spec PyProof.Rows L2

/-! ### promises over data -/
inductive Out where
  | ret (d : PyData)
  | exc (cls : Value) (xs : Fs)
inductive OutO where
  | ret (d : PyData) (fs : Fs)
  | exc (cls : Value) (xs : Fs)
def PostP (K : PySem.W.Frag) (B H : Hp) (Q : VK) (E : XK) : Out → Prop
  | .ret d => ∀ (v : V) (B' H' : Hp), Gr (fun _ => False) B H B' H' → Dt K B' v d → Q v H'
  | .exc cls xs => ∀ (d : Option Addr) (B' H' : Hp), Gr (fun _ => False) B H B' H' → XdIs K H B' H' d xs → E cls d H'
def PostO (K : PySem.W.Frag) (C p dx : Addr) (B H : Hp) (Q : VK) (E : XK) : OutO → Prop
  | .ret d fs => ∀ (v : V) (B' H' : Hp) (gs : List (Str × V)), Gr (fun a => a = p) B H B' H' → B' p = none → H' p = some (.ins C dx gs) → FsIs K B' gs fs → Dt K B' v d → Q v H'
  | .exc cls xs => ∀ (d : Option Addr) (B' H' : Hp), Gr (fun a => a = p) B H B' H' → XdIs K H B' H' d xs → E cls d H'
/-- a def over data: n arguments, R says how they end -/
def spP (K : PySem.W.Frag) (n : Nat) (R : List PyData → Out → Prop) : Sp := fun vs H Q E => ∃ (B : Hp) (ds : List PyData) (out : Out), Same B H ∧ DtAll K B vs ds ∧ ds.length = n ∧ R ds out ∧ PostP K B H Q E out
/-- a def (a method) that changes its first argument, an instance of the class at C -/
def spO (K : PySem.W.Frag) (C : Addr) (n : Nat) (R : Fs → List PyData → OutO → Prop) : Sp := fun vs H Q E => ∃ (p dx : Addr) (gs : List (Str × V)) (vs' : List V) (B : Hp) (fs : Fs) (ds : List PyData) (out : OutO),
  vs = .ref p :: vs' ∧ Same B H ∧ B p = none ∧ H p = some (.ins C dx gs) ∧ FsIs K B gs fs ∧ DtAll K B vs' ds ∧ ds.length = n ∧ R fs ds out ∧ PostO K C p dx B H Q E out
/-- a def that is known by its name -/
structure Kn (P : Program) (w : World) (K : PySem.W.Frag) (mg : Str → Option Value) (base : Heap) (x : Str) (k : Nat) (sp : Sp) : Prop where
  ex : ∃ (f : Addr) (fd : FuncData) (ps : List Str), FnOk P w K mg base (L2.CX P w) k f fd ps sp ∧ mg x = some (.ref f) ∧ PySem.W.keepIn K (.ref f) = true ∧ Binds K fd ps []
/-- a method -/
structure KnM (P : Program) (w : World) (K : PySem.W.Frag) (mg : Str → Option Value) (base : Heap) (C : Addr) (m : Str) (k : Nat) (sp : Sp) : Prop where
  ex : ∃ (f : Addr) (fd : FuncData) (ps : List Str), FnOk P w K mg base (L2.CX P w) k f fd ps sp ∧ Meth K C m f ∧ Binds K fd ps []
  cl : Cls K C
/-- a class with its __init__ -/
structure KnC (P : Program) (w : World) (K : PySem.W.Frag) (mg : Str → Option Value) (base : Heap) (x : Str) (C : Addr) (k : Nat) (sp : Sp) : Prop where
  ex : ∃ (f : Addr) (fd : FuncData) (ps : List Str), FnOk P w K mg base (L2.CX P w) k f fd ps sp ∧ Mk K C f ∧ mg x = some (.ref C) ∧ Binds K fd ps []

section
variable {X : Cx} {W : Wx} {a b c e o : Expr} {es : List Expr} {ρ : Ev} {p pos apos : Pos} {Q : PyData → Ev → Prop} {QL : List PyData → Ev → Prop} {x m : Str} {k n : Nat} {C : Addr}
def OutQ (W : Wx) (Q : PyData → Ev → Prop) (ρ : Ev) : Out → Prop
  | .ret d => Q d ρ
  | .exc c xs => W c xs
theorem de_call {R : List PyData → Out → Prop} (F : Kn X.prog X.w X.K X.mg X.base x k (spP X.K n R)) (hr : Room k X.A) (h : DA X W (e :: es) ρ fun ds ρ1 => ds.length = n ∧ ∃ out, R ds out ∧ OutQ W Q ρ1 out) (hg : Gl X x := by rfl)
    (hdb : (x == ("__debug__" : Str)) = false := by decide) (he : starEach (e :: es) X.env = (false, eval e X.env) :: starEach es X.env := by rfl) (hpl : (backTo pos (starEach es X.env)).any (·.1) = false := by rfl) : DE X W (.Call (.Name x p) (e :: es) [] pos) ρ Q := fun O σ B H rep ws R' q => by
  obtain ⟨f, fd, ps, G, hm, hk, hb⟩ := F.ex
  refine we_of (pe_call (E := O.E) G hr hg hm hk hb .nil (passes_call ws.tk fun _ _ _ _ h => h) pa_wa hdb he hpl) (h O σ B H rep ws _ fun ds ρ1 vs B1 H1 hq rep1 g1 dvs => ?_)
  obtain ⟨hl, out, hR, ho⟩ := hq
  rw [List.append_nil]
  refine ⟨B1, ds, out, rep1.sub, dvs, hl, hR, ?_⟩
  cases out with
  | ret d => exact fun v B2 H2 g2 dv => q d ρ1 v B2 H2 ho (rep1.grow g2) (g1.gro g2) dv
  | exc cls xs => exact fun d B2 H2 g2 dx => ws.ok cls xs d B2 H2 ho (rep1.gr.trans' g2 fun _ z => z.elim) (dx.old rep1.gr)
/-- behind a call that had slot i's object -/
theorem Rep.objAfter {O : Og} {σ : L2.St} {B H B' H' : Hp} {K : PySem.W.Frag} {c : Ob} (r : Rep K O σ ρ B H) {i : Nat} {fs fs' : Fs} {gs : List (Str × V)} (hi : ρ[i]? = some (some (.obj c fs))) (hs : σ[i]? = some (some (.ref c.a))) (g : Gr (fun a => a = c.a) B H B' H') (bp : B' c.a = none)
    (h' : H' c.a = some (.ins c.C c.dx gs)) (f' : FsIs K B' gs fs') : Rep K O σ (ρ.set i (some (.obj c fs'))) B' H' :=
  r.wr hi trivial hs g ⟨gs, rfl, bp, h', f'⟩ fun _ => trivial
def OutQO (W : Wx) (Q : PyData → Ev → Prop) (ρ : Ev) (c : Ob) (i : Nat) : OutO → Prop
  | .ret d fs => Q d (ρ.set i (some (.obj c fs)))
  | .exc cl xs => W cl xs
/-- the licence of a callee at slot i's object is within ours -/
theorem Rep.lic {O : Og} {σ : L2.St} {B H : Hp} {K : PySem.W.Frag} (r : Rep K O σ ρ B H) {i : Nat} {ei : Ent} {p : Addr} (hi : ρ[i]? = some (some ei)) (mi : ei.mu) (hs : σ[i]? = some (some (.ref p))) : ∀ c, c = p → O.H c = none ∨ O.M c := fun c e => by
  obtain ⟨v, h1, _, h3⟩ := r.ent i ei hi
  rw [hs] at h1; cases h1
  obtain ⟨l, el, hl⟩ := h3 mi
  cases el
  subst e
  exact hl.imp id (·.1)
theorem run_objpost {O : Og} {σ : L2.St} {B H B1 H1 : Hp} {ρ1 : Ev} {i : Nat} {fs : Fs} {c : Ob} {R' : VK} (ws : Wsh O X W) (q : ∀ d ρ' v B' H', Q d ρ' → Rep X.K O σ ρ' B' H' → Stp σ ρ B H ρ' B' H' → Dt X.K B' v d → R' v H')
    (rep1 : Rep X.K O σ ρ1 B1 H1) (g1 : Stp σ ρ B H ρ1 B1 H1) (hi : ρ1[i]? = some (some (.obj c fs))) (hs : σ[i]? = some (some (.ref c.a))) (out : OutO) (ho : OutQO W Q ρ1 c i out) :
    PostO X.K c.C c.a c.dx B1 H1 R' O.E out := by
  cases out with
  | ret d fs' => exact fun v B2 H2 gs2 g2 b2 h2 f2 dv => q d _ v B2 H2 ho (rep1.objAfter hi hs g2 b2 h2 f2) (g1.wr hi trivial hs g2) dv
  | exc cls xs => exact fun d B2 H2 g2 dx => ws.ok cls xs d B2 H2 ho (rep1.gr.trans' g2 (rep1.lic hi trivial hs)) (dx.old rep1.gr)
/-- f(o, ..), o the object in slot i -/
theorem de_callO (i : Nat) {y : Str} {py : Pos} {R : Fs → List PyData → OutO → Prop} {c : Ob} (F : Kn X.prog X.w X.K X.mg X.base x k (spO X.K c.C n R)) (hr : Room k X.A)
    (h : DA X W es ρ fun ds ρ1 => ds.length = n ∧ ∃ fs, ρ1[i]? = some (some (.obj c fs)) ∧ ∃ out, R fs ds out ∧ OutQO W Q ρ1 c i out) (hi : ∃ fs, ρ[i]? = some (some (.obj c fs))) (hg : Gl X x := by rfl)
    (hN : X.N[i]? = some y := by rfl) (hv : Vis X.env.scope y := by first | exact Or.inl rfl | exact Or.inr (Or.inl rfl) | exact Or.inr (Or.inr rfl)) (hd : (y == ("__debug__" : Str)) = false := by decide) (hcd : (y == ("__classdict__" : Str)) = false := by decide)
    (hdb : (x == ("__debug__" : Str)) = false := by decide) (he : starEach (.Name y py :: es) X.env = (false, eval (.Name y py) X.env) :: starEach es X.env := by rfl) (hpl : (backTo pos (starEach es X.env)).any (·.1) = false := by rfl) : DE X W (.Call (.Name x p) (.Name y py :: es) [] pos) ρ Q := fun O σ B H rep ws R' q => by
  obtain ⟨f, fd, ps, G, hm, hk, hb⟩ := F.ex
  obtain ⟨fs0, hi⟩ := hi
  obtain ⟨v0, h1, ⟨gs0, ev, _⟩, _⟩ := rep.ent i _ hi
  refine we_of (pe_call (E := O.E) G hr hg hm hk hb .nil (passes_call ws.tk fun _ _ _ _ h => h) (pa_cons (pe_var hN hv hd hcd) pa_wa he) hdb he hpl) ⟨v0, h1, h O σ B H rep ws _ fun ds ρ1 vs B1 H1 hq rep1 g1 dvs => ?_⟩
  obtain ⟨hl, fs, hi1, out, hR, ho⟩ := hq
  obtain ⟨v1, h2, ⟨gs, ev1, bp, hp, hf⟩, _⟩ := rep1.ent i _ hi1
  subst ev1
  rw [h1] at h2; cases h2
  show spO X.K c.C n R (.ref c.a :: vs ++ []) _ _ _
  rw [List.append_nil]
  exact ⟨c.a, c.dx, gs, vs, B1, fs, ds, out, rfl, rep1.sub, bp, hp, hf, dvs, hl, hR, run_objpost ws q rep1 g1 hi1 h1 out ho⟩
theorem fsIs_none {K : PySem.W.Frag} {B : Hp} {f : Str} : ∀ {gs : List (Str × V)} {fs : Fs}, FsIs K B gs fs → fs.lookup f = none → gs.lookup f = none
  | _, _, .nil, _ => rfl
  | (g, v) :: gs, (g', d) :: fs, .cons ⟨e, _⟩ t, h => by
    have e' : g = g' := e
    subst e'
    rw [List.lookup_cons] at h ⊢
    cases q : f == g with
    | true => rw [q] at h; cases h
    | false => rw [q] at h; exact fsIs_none t h
theorem fsIs_some {K : PySem.W.Frag} {B : Hp} {f : Str} {d : PyData} : ∀ {gs : List (Str × V)} {fs : Fs}, FsIs K B gs fs → fs.lookup f = some d → ∃ v, gs.lookup f = some v ∧ Dt K B v d
  | _, _, .nil, h => by cases h
  | (g, v) :: gs, (g', d') :: fs, .cons ⟨e, r⟩ t, h => by
    have e' : g = g' := e
    subst e'
    rw [List.lookup_cons] at h ⊢
    cases q : f == g with
    | true => rw [q] at h; cases h; exact ⟨v, rfl, r⟩
    | false => rw [q] at h; exact fsIs_some t h
/-- o.m(..), o the object in slot i -/
theorem de_meth (i : Nat) {y : Str} {py : Pos} {R : Fs → List PyData → OutO → Prop} {c : Ob} (F : KnM X.prog X.w X.K X.mg X.base c.C m k (spO X.K c.C n R)) (hr : Room k X.A) {fs0 : Fs} (hi : ρ[i]? = some (some (.obj c fs0))) (hno : fs0.lookup m = none)
    (h : DA X W (e :: es) ρ fun ds ρ1 => ds.length = n ∧ ∃ fs, ρ1[i]? = some (some (.obj c fs)) ∧ ∃ out, R fs ds out ∧ OutQO W Q ρ1 c i out) {pl : Sem Bool}
    (hN : X.N[i]? = some y := by rfl) (hv : Vis X.env.scope y := by first | exact Or.inl rfl | exact Or.inr (Or.inl rfl) | exact Or.inr (Or.inr rfl)) (hd : (y == ("__debug__" : Str)) = false := by decide) (hcd : (y == ("__classdict__" : Str)) = false := by decide)
    (hst : starEach (e :: es) X.env = (false, eval e X.env) :: starEach es X.env := by rfl) (hpl : (backTo pos (starEach es X.env)).any (·.1) = false := by rfl)
    (ht : eval (.Call (.Attribute (.Name y py) m apos) (e :: es) [] pos) X.env = (do
      let ov ← eval (.Name y py) X.env
      standAt apos.atName
      let (f, first) ← holding [ov] (getMethod ov m pl)
      callWith pos f first (backTo pos (starEach (e :: es) X.env)) (backToKw pos (keywordEach [] X.env))) := by rfl) : DE X W (.Call (.Attribute (.Name y py) m apos) (e :: es) [] pos) ρ Q := fun O σ B H rep ws R' q => by
  obtain ⟨f, fd, ps, G, hm, hb⟩ := F.ex
  obtain ⟨v0, h1, ⟨gs0, ev, _, hp0, hf0⟩, _⟩ := rep.ent i _ hi
  subst ev
  refine we_of (pe_meth (E := O.E) (pe_var hN hv hd hcd) F.cl hm G hr hb .nil (passes_call ws.tk fun _ _ _ _ h => h) pa_wa hst hpl ht) ⟨_, h1, c.a, c.dx, gs0, rfl, hp0, fsIs_none hf0 hno, h O σ B H rep ws _ fun ds ρ1 vs B1 H1 hq rep1 g1 dvs => ?_⟩
  obtain ⟨hl, fs, hi1, out, hR, ho⟩ := hq
  obtain ⟨v1, h2, ⟨gs, ev1, bp, hp, hf⟩, _⟩ := rep1.ent i _ hi1
  subst ev1
  rw [h1] at h2; cases h2
  rw [List.append_nil]
  exact ⟨_, c.dx, gs, vs, B1, fs, ds, out, rfl, rep1.sub, bp, hp, hf, dvs, hl, hR, run_objpost ws q rep1 g1 hi1 h1 out ho⟩
theorem de_meth0 (i : Nat) {y : Str} {py : Pos} {R : Fs → List PyData → OutO → Prop} {c : Ob} (F : KnM X.prog X.w X.K X.mg X.base c.C m k (spO X.K c.C 0 R)) (hr : Room k X.A) {fs0 : Fs} (hi : ρ[i]? = some (some (.obj c fs0))) (hno : fs0.lookup m = none)
    (h : ∃ out, R fs0 [] out ∧ OutQO W Q ρ c i out) {pl : Sem Bool}
    (hN : X.N[i]? = some y := by rfl) (hv : Vis X.env.scope y := by first | exact Or.inl rfl | exact Or.inr (Or.inl rfl) | exact Or.inr (Or.inr rfl)) (hd : (y == ("__debug__" : Str)) = false := by decide) (hcd : (y == ("__classdict__" : Str)) = false := by decide)
    (ht : eval (.Call (.Attribute (.Name y py) m apos) [] [] pos) X.env = (do
      let ov ← eval (.Name y py) X.env
      standAt apos.atName
      let (f, first) ← holding [ov] (getMethod ov m pl)
      callWith pos f first (backTo pos (starEach [] X.env)) (backToKw pos (keywordEach [] X.env))) := by rfl) : DE X W (.Call (.Attribute (.Name y py) m apos) [] [] pos) ρ Q := fun O σ B H rep ws R' q => by
  obtain ⟨f, fd, ps, G, hm, hb⟩ := F.ex
  obtain ⟨out, hR, ho⟩ := h
  obtain ⟨v0, h1, ⟨gs0, ev, bp, hp0, hf0⟩, _⟩ := rep.ent i _ hi
  subst ev
  exact we_of (pe_meth0 (E := O.E) (pe_var hN hv hd hcd) F.cl hm G hr hb .nil (passes_call ws.tk fun _ _ _ _ h => h) ht) ⟨_, h1, c.a, c.dx, gs0, rfl, hp0, fsIs_none hf0 hno,
    ⟨c.a, c.dx, gs0, [], B, fs0, [], out, rfl, rep.sub, bp, hp0, hf0, .nil, rfl, hR, run_objpost ws q rep (Stp.refl rep) hi h1 out ho⟩⟩
/-- o.f, o the object in slot i -/
theorem de_fld (i : Nat) {y f : Str} {py : Pos} {fs : Fs} {d : PyData} {c : Ob} (hi : ρ[i]? = some (some (.obj c fs))) (hl : fs.lookup f = some d) (hc : Cls X.K c.C) (hno : NoAttr X.K c.C f) (k : Q d ρ)
    (hN : X.N[i]? = some y := by rfl) (hv : Vis X.env.scope y := by first | exact Or.inl rfl | exact Or.inr (Or.inl rfl) | exact Or.inr (Or.inr rfl)) (hd : (y == ("__debug__" : Str)) = false := by decide) (hcd : (y == ("__classdict__" : Str)) = false := by decide)
    (hb : attributeBase (.Name y py) f X.env (eval (.Name y py) X.env) = eval (.Name y py) X.env := by rfl) : DE X W (.Attribute (.Name y py) f pos) ρ Q := fun O σ B H rep ws R' q => by
  obtain ⟨v0, h1, ⟨gs0, ev, bp, hp0, hf0⟩, _⟩ := rep.ent i _ hi
  subst ev
  obtain ⟨v, hg, dv⟩ := fsIs_some hf0 hl
  exact we_of (pe_fld (pe_var hN hv hd hcd) hb) ⟨_, h1, c.a, c.C, c.dx, gs0, v, rfl, hp0, hc, hno, hg, q d ρ v B H k rep (Stp.refl rep) dv⟩

/-! ### built-in functions -/
def CallD (X : Cx) (r : List V → Hp → VK → Prop) (ds : List PyData) (z : PyData) : Prop := ∀ (B H : Hp) (vs : List V) (R : VK), Same B H → DtAll X.K B vs ds → (∀ w B' H', Gr (fun _ => False) B H B' H' → Dt X.K B' w z → R w H') → r vs H R
theorem de_cb {id : String} {r : List V → Hp → VK → Prop} (hc : CallR X (.builtin id) r) (hm : X.mg x = none) (hv : bootBuiltins x = some (.builtin id)) (h : DA X W (e :: es) ρ fun ds ρ1 => ∃ z, CallD X r ds z ∧ Q z ρ1) (hg : Gl X x := by rfl) (hn : x ≠ "__name__" := by decide) (hdb : (x == ("__debug__" : Str)) = false := by decide)
    (he : starEach (e :: es) X.env = (false, eval e X.env) :: starEach es X.env := by rfl) (hpl : (backTo pos (starEach es X.env)).any (·.1) = false := by rfl) : DE X W (.Call (.Name x p) (e :: es) [] pos) ρ Q := fun O σ B H rep ws R' q =>
  we_of (pe_callB hc hg hm hv pa_wa hn hdb he hpl) (h O σ B H rep ws _ fun ds ρ1 vs B1 H1 ⟨z, hz, hq⟩ rep1 g1 dvs => hz B1 H1 vs R' rep1.sub dvs fun w B2 H2 g2 dw => q z ρ1 w B2 H2 hq (rep1.grow g2) (g1.gro g2) dw)
theorem de_ct {T : String} {r : List V → Hp → VK → Prop} (hc : CallR X (.type T) r) (hm : X.mg x = none) (hv : bootBuiltins x = some (.type T)) (h : DA X W (e :: es) ρ fun ds ρ1 => ∃ z, CallD X r ds z ∧ Q z ρ1) (hg : Gl X x := by rfl) (hn : x ≠ "__name__" := by decide) (hdb : (x == ("__debug__" : Str)) = false := by decide)
    (he : starEach (e :: es) X.env = (false, eval e X.env) :: starEach es X.env := by rfl) (hpl : (backTo pos (starEach es X.env)).any (·.1) = false := by rfl) : DE X W (.Call (.Name x p) (e :: es) [] pos) ρ Q := fun O σ B H rep ws R' q =>
  we_of (pe_callTy hc hg hm hv pa_wa hn hdb he hpl) (h O σ B H rep ws _ fun ds ρ1 vs B1 H1 ⟨z, hz, hq⟩ rep1 g1 dvs => hz B1 H1 vs R' rep1.sub dvs fun w B2 H2 g2 dw => q z ρ1 w B2 H2 hq (rep1.grow g2) (g1.gro g2) dw)
/-- len -/
def rLen (K : PySem.W.Frag) : List V → Hp → VK → Prop := fun xs H Q => ∃ x n, xs = [x] ∧ LenV K x H n ∧ Q (.int n) H
theorem call_lenR : CallR X (.builtin "len") (rLen X.K) := call_len
def lenD : PyData → Option Nat
  | .str x => if decide (x.length ≤ sizeLine) = true then some x.length else none
  | .list ds => some ds.length
  | .tuple ds => some ds.length
  | .dict ((.str _, _) :: _) => none
  | .dict kvs => some kvs.length
  | _ => none
theorem lenD_scr {ns : List Int} : lenD (scrD ns) = some ns.length := by
  cases ns with
  | nil => rfl
  | cons n ns => show some (List.length (_ :: ns.map _)) = _; rw [List.length_cons, List.length_map, List.length_cons]
theorem cd_len {d : PyData} {n : Nat} (h : lenD d = some n) : CallD X (rLen X.K) [d] (.int n) := fun B H vs R g dvs k => by
  cases dvs with
  | cons dv t =>
    cases t
    refine ⟨_, n, rfl, ?_, k _ B H (Gr.refl g) (.int _)⟩
    cases dv with
    | str x =>
      have h' : (if decide (x.length ≤ sizeLine) = true then some x.length else none) = some n := h
      by_cases z : x.length ≤ sizeLine
      · rw [if_pos (decide_eq_true z)] at h'; cases h'; exact ⟨z, rfl⟩
      · rw [if_neg (by rw [decide_eq_false z]; exact Bool.false_ne_true)] at h'; cases h'
    | lst a b => cases h; exact .inl ⟨_, SqL.of (g _ _ a), (dpa_len b).symm⟩
    | tup a b => cases h; exact .inr ⟨_, SqT.of (g _ _ a), (dpa_len b).symm⟩
    | @scr a ns hs =>
      rw [lenD_scr] at h
      cases h
      exact .inl ⟨_, sqL_up g hs, by rw [List.length_map]⟩
    | _ => cases h
theorem cd_lenS {z : Str} (h : z.length ≤ sizeLine) : CallD X (rLen X.K) [.str z] (.int z.length) := cd_len (by show (if decide (z.length ≤ sizeLine) = true then some z.length else none) = _; rw [if_pos (decide_eq_true h)])
theorem de_globS {z : Str} {t : Tok} (hm : X.mg x = some (.str z t)) (k : Q (.str z) ρ) (hg : Gl X x := by rfl) (hdb : (x == ("__debug__" : Str)) = false := by decide) : DE X W (.Name x pos) ρ Q := de_glob (v := .str z) hm ⟨t, rfl⟩ (fun B => .str z) k hg hdb
theorem de_globI {z : Int} {t : Tok} (hm : X.mg x = some (.int z t)) (k : Q (.int z) ρ) (hg : Gl X x := by rfl) (hdb : (x == ("__debug__" : Str)) = false := by decide) : DE X W (.Name x pos) ρ Q := de_glob (v := .int z) hm ⟨t, rfl⟩ (fun B => .int z) k hg hdb
/-- len of a list that a name owns -/
theorem de_lenO (i : Nat) {y : Str} {py : Pos} {ds : List PyData} (hm : X.mg "len" = none) (h : ρ[i]? = some (some (.own ds))) (k : Q (.int ds.length) ρ) (hg : Gl X "len" := by rfl)
    (hN : X.N[i]? = some y := by rfl) (hv : Vis X.env.scope y := by first | exact Or.inl rfl | exact Or.inr (Or.inl rfl) | exact Or.inr (Or.inr rfl)) (hd : (y == ("__debug__" : Str)) = false := by decide) (hcd : (y == ("__classdict__" : Str)) = false := by decide)
    (he : starEach [.Name y py] X.env = (false, eval (.Name y py) X.env) :: starEach [] X.env := by rfl) (hpl : (backTo pos (starEach [] X.env)).any (·.1) = false := by rfl) : DE X W (.Call (.Name "len" p) [.Name y py] [] pos) ρ Q := fun O σ B H r w R q => by
  obtain ⟨v, h1, ⟨l, vs, rfl, _, hl, hd'⟩, _⟩ := r.ent i _ h
  exact we_of (pe_callB call_lenR hg hm boot_len (pa_cons (pe_var hN hv hd hcd) pa_nil he) (by decide) (by decide) he hpl) ⟨_, h1, _, _, rfl, .inl ⟨_, SqL.of hl, (dpa_len hd').symm⟩, q _ _ _ B H k r (Stp.refl r) (.int _)⟩
/-- int of a truth, str of a number, of a text -/
def rInt1 : List V → Hp → VK → Prop := fun xs H Q => (∃ i, xs = [.int i] ∧ Q (.int i) H) ∨ ∃ k, xs = [.bl k] ∧ Q (.int (if k then 1 else 0)) H
theorem call_intR : CallR X (.type "int") rInt1 := call_int1
theorem cd_intB {b : Bool} : CallD X rInt1 [.bool b] (.int (if b then 1 else 0)) := fun B H vs R g dvs k => by
  cases dvs with
  | cons dv t => cases t; cases dv; exact .inr ⟨b, rfl, k _ B H (Gr.refl g) (.int _)⟩
def rIntS : List V → Hp → VK → Prop := fun xs H Q => ∃ a n, xs = [.str a] ∧ PySem.intText? a = some n ∧ a.length ≤ 640 ∧ Q (.int n) H
theorem call_intSR : CallR X (.type "int") rIntS := call_int_str
theorem cd_intS {a : Str} {n : Int} (h : PySem.intText? a = some n) (hl : a.length ≤ 640) : CallD X rIntS [.str a] (.int n) := fun B H vs R g dvs k => by
  cases dvs with
  | cons dv t => cases t; cases dv; exact ⟨a, n, rfl, h, hl, k _ B H (Gr.refl g) (.int _)⟩
def rStr1 : List V → Hp → VK → Prop := fun xs H Q => (∃ i : Int, xs = [.int i] ∧ i.natAbs.log2 < 1920 ∧ Q (.str (toString i)) H) ∨ ∃ a, xs = [.str a] ∧ Q (.str a) H
theorem call_strR : CallR X (.type "str") rStr1 := call_str_int.or SkE.call_str_str
theorem cd_strI {i : Int} (h : i.natAbs.log2 < 1920) : CallD X rStr1 [.int i] (.str (toString i)) := fun B H vs R g dvs k => by
  cases dvs with
  | cons dv t => cases t; cases dv; exact .inl ⟨i, rfl, h, k _ B H (Gr.refl g) (.str _)⟩
theorem cd_strS {a : Str} : CallD X rStr1 [.str a] (.str a) := fun B H vs R g dvs k => by
  cases dvs with
  | cons dv t => cases t; cases dv; exact .inr ⟨a, rfl, k _ B H (Gr.refl g) (.str _)⟩
def rMax2 : List V → Hp → VK → Prop := fun xs H Q => ∃ i j, xs = [.int i, .int j] ∧ Q (.int (if j > i then j else i)) H
theorem call_maxR (hc : X.calm = true) : CallR X (.builtin "max") rMax2 := call_max2 hc
theorem cd_max {i j : Int} : CallD X rMax2 [.int i, .int j] (.int (if j > i then j else i)) := fun B H vs R g dvs k => by
  cases dvs with
  | cons dv t =>
    cases t with
    | cons du t => cases t; cases dv; cases du; exact ⟨i, j, rfl, k _ B H (Gr.refl g) (.int _)⟩
theorem dts_ints {K : PySem.W.Frag} {B : Hp} : ∀ {ns : List Int} {vs : List V}, DtAll K B vs (ns.map .int) → vs = ns.map V.int
  | [], _, h => by cases h; rfl
  | n :: ns, _, h => by
    cases h with
    | cons a t => cases a; rw [dts_ints t]; rfl
theorem cd_sum {ns : List Int} : CallD X (rSum X.K) [.list (ns.map .int)] (.int ns.sum) := fun B H vs R g dvs k => by
  cases dvs with
  | cons dv t =>
    cases t
    cases dv with
    | lst a b =>
      obtain rfl := dts_ints b
      exact ⟨_, ns, rfl, SqL.of (g _ _ a), k _ B H (Gr.refl g) (.int _)⟩
/-- list(x), a new list -/
def rListOf (K : PySem.W.Frag) : List V → Hp → VK → Prop := fun xs H Q => ∃ p ys, xs = [.ref p] ∧ (SqL K H p ys ∨ SqT K H p ys) ∧ ∀ l, H l = none → Q (.ref l) (upd H l (.lst ys))
theorem call_listR : CallR X (.type "list") (rListOf X.K) := call_list_of
theorem dl_list (hm : X.mg "list" = none) (h : DP X W e ρ QL) (hg : Gl X "list" := by rfl) (hv : bootBuiltins "list" = some (.type "list") := by decide +kernel)
    (he : starEach [e] X.env = (false, eval e X.env) :: starEach [] X.env := by rfl) (hpl : (backTo pos (starEach [] X.env)).any (·.1) = false := by rfl) : DL X W (.Call (.Name "list" p) [e] [] pos) ρ QL := fun O σ B H rep ws R' q =>
  we_of (pe_callTy call_listR hg hm hv (pa_cons pe_we pa_nil he) (by decide) (by decide) he hpl) (h O σ B H rep ws _ fun ds ρ1 a vs B1 H1 hq rep1 g1 sq dvs => ⟨a, vs, rfl, seq_up rep1.sub sq, fun l hl => dl_new q rep1 g1 dvs hq hl⟩)
/-- list(x), x a name that owns a list -/
theorem dl_listO (i : Nat) {y : Str} {py : Pos} {ds : List PyData} (hm : X.mg "list" = none) (h : ρ[i]? = some (some (.own ds))) (k : QL ds ρ) (hg : Gl X "list" := by rfl) (hv2 : bootBuiltins "list" = some (.type "list") := by decide +kernel)
    (hN : X.N[i]? = some y := by rfl) (hv : Vis X.env.scope y := by first | exact Or.inl rfl | exact Or.inr (Or.inl rfl) | exact Or.inr (Or.inr rfl)) (hd : (y == ("__debug__" : Str)) = false := by decide) (hcd : (y == ("__classdict__" : Str)) = false := by decide)
    (he : starEach [.Name y py] X.env = (false, eval (.Name y py) X.env) :: starEach [] X.env := by rfl) (hpl : (backTo pos (starEach [] X.env)).any (·.1) = false := by rfl) : DL X W (.Call (.Name "list" p) [.Name y py] [] pos) ρ QL := fun O σ B H r w R q => by
  obtain ⟨v, h1, ⟨l, vs, rfl, _, hl, hd'⟩, _⟩ := r.ent i _ h
  exact we_of (pe_callTy call_listR hg hm hv2 (pa_cons (pe_var hN hv hd hcd) pa_nil he) (by decide) (by decide) he hpl) ⟨_, h1, l, vs, rfl, .inl (SqL.of hl), fun l' hl' => dl_new q r (Stp.refl r) hd' k hl'⟩
/-- tuple(x), x a list -/
theorem de_tupleOf (hm : X.mg "tuple" = none) (h : DE X W e ρ fun d ρ1 => ∃ ds, d = .list ds ∧ Q (.tuple ds) ρ1) (hg : Gl X "tuple" := by rfl) (hv : bootBuiltins "tuple" = some (.type "tuple") := by decide +kernel)
    (he : starEach [e] X.env = (false, eval e X.env) :: starEach [] X.env := by rfl) (hpl : (backTo pos (starEach [] X.env)).any (·.1) = false := by rfl) : DE X W (.Call (.Name "tuple" p) [e] [] pos) ρ Q := fun O σ B H rep ws R' q =>
  we_of (pe_callTy call_tuple_of hg hm hv (pa_cons pe_we pa_nil he) (by decide) (by decide) he hpl) (h O σ B H rep ws _ fun d ρ1 v B1 H1 ⟨ds, ed, hq⟩ rep1 g1 dv => by
    subst ed
    cases dv with
    | @lst a vs ds a b => exact ⟨_, _, rfl, .inl ⟨SqL.of (rep1.sub _ _ a), fun l hl => by
        have g := gr_new (o := .tup vs) rep1.sub hl
        exact q _ ρ1 _ _ _ hq (rep1.grow g) (g1.gro g) (.tup upd_same (dpAll_up g.b _ _ b))⟩⟩)
/-! methods of texts -/
def MtD (X : Cx) (r : V → List V → Hp → VK → Prop) (x : PyData) (ds : List PyData) (z : PyData) : Prop := ∀ (B H : Hp) (v : V) (vs : List V) (R : VK), Same B H → Dt X.K B v x → DtAll X.K B vs ds → (∀ w B' H', Gr (fun _ => False) B H B' H' → Dt X.K B' w z → R w H') → r v vs H R
theorem de_m1 {id : String} {name : Str} {r : V → List V → Hp → VK → Prop} (slot : Slot "str" name id) (ty : typeOf (.builtin id) = pure (.type "method_descriptor")) (rule : MtR X id r) (h : DE X W o ρ fun x ρ1 => ∃ a, x = .str a ∧ DE X W e ρ1 fun y ρ2 => ∃ z, MtD X r (.str a) [y] z ∧ Q z ρ2)
    (hs : starEach [e] X.env = [(false, eval e X.env)] := by rfl) (hbase : attributeBase o name X.env (eval o X.env) = eval o X.env := by rfl) (hline : (apos.endLine == pos.line) = true := by rfl) : DE X W (.Call (.Attribute o name apos) [e] [] pos) ρ Q := fun O σ B H rep ws R' q =>
  we_of (pe_m1 slot ty rule pe_we pe_we hs hbase hline) (h O σ B H rep ws _ fun x ρ1 v B1 H1 ⟨a, ex, he⟩ rep1 g1 dv => by
    subst ex; cases dv
    exact ⟨⟨a, rfl⟩, he O σ B1 H1 rep1 ws _ fun y ρ2 u B2 H2 ⟨z, hz, hq⟩ rep2 g2 du => hz B2 H2 _ _ R' rep2.sub (.str a) (.cons du .nil) fun w B3 H3 g3 dw => q z ρ2 w B3 H3 hq (rep2.grow g3) ((g1.trans g2).gro g3) dw⟩)
/-- .. that give a new list of texts -/
theorem dl_m1 {id : String} {name : Str} {r : V → List V → Hp → VK → Prop} (slot : Slot "str" name id) (ty : typeOf (.builtin id) = pure (.type "method_descriptor")) (rule : MtR X id r) (h : DE X W o ρ fun x ρ1 => ∃ a, x = .str a ∧ DE X W e ρ1 fun y ρ2 => ∃ ss : List Str, flatD y = true ∧ (∀ (H : Hp) (R : VK), rNewStrs ss H R → r (.str a) [vOf y] H R) ∧ QL (ss.map .str) ρ2)
    (hs : starEach [e] X.env = [(false, eval e X.env)] := by rfl) (hbase : attributeBase o name X.env (eval o X.env) = eval o X.env := by rfl) (hline : (apos.endLine == pos.line) = true := by rfl) : DL X W (.Call (.Attribute o name apos) [e] [] pos) ρ QL := fun O σ B H rep ws R' q =>
  we_of (pe_m1 slot ty rule pe_we pe_we hs hbase hline) (h O σ B H rep ws _ fun x ρ1 v B1 H1 ⟨a, ex, he⟩ rep1 g1 dv => by
    subst ex; cases dv
    exact ⟨⟨a, rfl⟩, he O σ B1 H1 rep1 ws _ fun y ρ2 u B2 H2 ⟨ss, fy, hz, hq⟩ rep2 g2 du => by
      rw [dt_flat du fy]
      exact hz H2 R' fun p hp => dl_new q rep2 (g1.trans g2) dpa_strs hq hp⟩)
end
end Pw
namespace Pw
open PySem PySem.Spec PyProof.Rows L2

structure DEnds where
  nx : Ev → Prop
  rt : PyData → Ev → Prop
  bk : Ev → Prop := fun _ => False
  ct : Ev → Prop := fun _ => False
structure EOk (K : PySem.W.Frag) (O : Og) (D : DEnds) (T : Ends) (B : Hp) : Prop where
  nx : ∀ (ρ' : Ev) (σ' : L2.St) (B' H' : Hp), D.nx ρ' → Rep K O σ' ρ' B' H' → Same B B' → T.nx σ' H'
  rt : ∀ (d : PyData) (ρ' : Ev) (v : V) (σ' : L2.St) (B' H' : Hp), D.rt d ρ' → Rep K O σ' ρ' B' H' → Same B B' → Dt K B' v d → T.rt v H'
  bk : ∀ (ρ' : Ev) (σ' : L2.St) (B' H' : Hp), D.bk ρ' → Rep K O σ' ρ' B' H' → Same B B' → T.bk σ' H'
  ct : ∀ (ρ' : Ev) (σ' : L2.St) (B' H' : Hp), D.ct ρ' → Rep K O σ' ρ' B' H' → Same B B' → T.ct σ' H'
theorem EOk.up {K : PySem.W.Frag} {O : Og} {D : DEnds} {T : Ends} {B B1 : Hp} (e : EOk K O D T B) (g : Same B B1) : EOk K O D T B1 :=
  ⟨fun a b c d q r s => e.nx a b c d q r (g.trans s), fun a b c d f h q r s => e.rt a b c d f h q r (g.trans s), fun a b c d q r s => e.bk a b c d q r (g.trans s), fun a b c d q r s => e.ct a b c d q r (g.trans s)⟩
def DS (X : Cx) (W : Wx) (st : Stmt) (D : DEnds) (ρ : Ev) : Prop := ∀ (O : Og) (σ : L2.St) (B H : Hp), Rep X.K O σ ρ B H → Wsh O X W → ∀ T : Ends, EOk X.K O D T B → WS X st T σ H
def DSs (X : Cx) (W : Wx) (ss : List Stmt) (D : DEnds) (ρ : Ev) : Prop := ∀ (O : Og) (σ : L2.St) (B H : Hp), Rep X.K O σ ρ B H → Wsh O X W → ∀ T : Ends, EOk X.K O D T B → WSs X ss T σ H

section
variable {X : Cx} {W : Wx} {a b c e o : Expr} {es : List Expr} {ρ : Ev} {p pos apos : Pos} {x y m : Str} {k n : Nat} {C : Addr} {D : DEnds} {st : Stmt} {ss rest body orelse : List Stmt}
theorem dss_nil (h : D.nx ρ) : DSs X W [] D ρ := fun O σ B H r w T k => wss_of pss_nil (k.nx ρ σ B H h r (Same.refl B))
theorem dss_cons (h : DS X W st { D with nx := fun ρ' => DSs X W rest D ρ' } ρ) : DSs X W (st :: rest) D ρ := fun O σ B H r w T k =>
  wss_of (pss_cons ps_ws pss_wss) (h O σ B H r w _ ⟨fun ρ' σ' B' H' q r' s => q O σ' B' H' r' w T (k.up s), k.rt, k.bk, k.ct⟩)
/-- the last statement of a body -/
theorem dss_one (h : DS X W st D ρ) : DSs X W [st] D ρ := fun O σ B H r w T k => wss_of (pss_one ps_ws) (h O σ B H r w T k)
theorem ds_set (i : Nat) (h : DE X W e ρ fun d ρ1 => D.nx (ρ1.set i (some (.val d)))) (hnd : X.N.Nodup) (hN : X.N[i]? = some x := by rfl) (hx : Loc X.env.scope x := by first | exact Or.inl rfl | exact Or.inr rfl)
    (hs : swapsWith e (some (.Name x p)) pos.line X.env = pure false := by rfl) (hf : X.fn x = true ∨ X.env.scope.names.lookup x = some .local := by first | exact .inl rfl | exact .inr rfl) : DS X W (.Assign [.Name x p] e pos) D ρ := fun O σ B H r w T k =>
  ws_of (ps_set hnd hN hx pe_we hs hf) (h O σ B H r w _ fun d ρ1 v B1 H1 q r1 s1 dv => k.nx _ _ B1 H1 q (r1.set dv) s1.b)
theorem ds_own (i : Nat) (h : DL X W e ρ fun ds ρ1 => D.nx (ρ1.set i (some (.own ds)))) (hnd : X.N.Nodup) (hN : X.N[i]? = some x := by rfl) (hx : Loc X.env.scope x := by first | exact Or.inl rfl | exact Or.inr rfl)
    (hs : swapsWith e (some (.Name x p)) pos.line X.env = pure false := by rfl) (hf : X.fn x = true ∨ X.env.scope.names.lookup x = some .local := by first | exact .inl rfl | exact .inr rfl) : DS X W (.Assign [.Name x p] e pos) D ρ := fun O σ B H r w T k =>
  ws_of (ps_set hnd hN hx pe_we hs hf) (h O σ B H r w _ fun ds ρ1 l vs B1 H1 q r1 s1 o1 b1 h1 d1 n1 => k.nx _ _ B1 H1 q (r1.setM ⟨l, vs, rfl, b1, h1, d1⟩ (r.freshO o1) n1) s1.b)
theorem ds_ret (h : DE X W e ρ fun d ρ1 => D.rt d ρ1) : DS X W (.Return (some e) pos) D ρ := fun O σ B H r w T k =>
  ws_of (ps_ret pe_we) (h O σ B H r w _ fun d ρ1 v B1 H1 q r1 s1 dv => k.rt d ρ1 v σ B1 H1 q r1 s1.b dv)
theorem ds_retN (h : D.rt .none ρ) : DS X W (.Return none pos) D ρ := fun O σ B H r w T k => ws_of ps_retN (k.rt _ ρ _ σ B H h r (Same.refl B) .non)
theorem ds_if (h : DT X W c ρ fun b ρ1 => if b = true then DSs X W body D ρ1 else DSs X W orelse D ρ1) : DS X W (.If c body orelse pos) D ρ := fun O σ B H r w T k =>
  ws_of (ps_if pt_wt pss_wss pss_wss) (h O σ B H r w _ fun b ρ1 B1 H1 q r1 s1 => by
    cases b with
    | true => exact q O σ B1 H1 r1 w T (k.up s1.b)
    | false => exact q O σ B1 H1 r1 w T (k.up s1.b))
theorem ds_expr (h : DE X W e ρ fun _ ρ1 => D.nx ρ1) (hs : swapsWith e none pos.line X.env = pure false := by rfl) : DS X W (.Expr e pos) D ρ := fun O σ B H r w T k =>
  ws_of (ps_expr pe_we hs) (h O σ B H r w _ fun d ρ1 v B1 H1 q r1 s1 dv => k.nx ρ1 σ B1 H1 q r1 s1.b)
theorem ds_doc {s : Str} {j : Nat} {p1 : Pos} (h : D.nx ρ) : DS X W (.Expr (.Constant (.str s) j p1) pos) D ρ := fun O σ B H r w T k => ws_of ps_doc (k.nx ρ σ B H h r (Same.refl B))
theorem ds_pass (h : D.nx ρ) : DS X W (.Pass pos) D ρ := fun O σ B H r w T k => ws_of ps_pass (k.nx ρ σ B H h r (Same.refl B))
theorem ds_break (h : D.bk ρ) : DS X W (.Break pos) D ρ := fun O σ B H r w T k => ws_of ps_break (k.bk ρ σ B H h r (Same.refl B))
theorem ds_continue (h : D.ct ρ) : DS X W (.Continue pos) D ρ := fun O σ B H r w T k => ws_of ps_continue (k.ct ρ σ B H h r (Same.refl B))
/-- x.append(e), x the list of slot i -/
theorem ds_append (i : Nat) {py : Pos} {ds0 : List PyData} (h0 : ρ[i]? = some (some (.own ds0))) (h : DE X W e ρ fun d ρ1 => ∃ ds, ρ1[i]? = some (some (.own ds)) ∧ ds.length < sizeLine ∧ D.nx (ρ1.set i (some (.own (ds ++ [d])))))
    (hN : X.N[i]? = some y := by rfl) (hv : Vis X.env.scope y := by first | exact Or.inl rfl | exact Or.inr (Or.inl rfl) | exact Or.inr (Or.inr rfl)) (hd : (y == ("__debug__" : Str)) = false := by decide) (hcd : (y == ("__classdict__" : Str)) = false := by decide)
    (hs : swapsWith (.Call (.Attribute (.Name y py) "append" apos) [e] [] p) none pos.line X.env = pure false := by rfl)
    (hbase : attributeBase (.Name y py) "append" X.env (eval (.Name y py) X.env) = eval (.Name y py) X.env := by rfl)
    (hfew : ((backTo p (starEach [e] X.env)).all (fun x => !x.1) && (backToKw p (keywordEach [] X.env)).all (fun x => x.1.isSome)
      && decide (([e] : List Expr).length + ([] : List Keyword).length + (if ([] : List Keyword).isEmpty then 0 else 1) < 30)) = true := by rfl)
    (hline : (apos.endLine == p.line) = true := by rfl) (hst : starEach [e] X.env = (false, eval e X.env) :: starEach [] X.env := by rfl) (hplain : (backTo p (starEach [] X.env)).any (·.1) = false := by rfl) :
    DS X W (.Expr (.Call (.Attribute (.Name y py) "append" apos) [e] [] p) pos) D ρ := fun O σ B H r w T k => by
  obtain ⟨v, h1, ⟨l, vs, rfl, _, hl, hd'⟩, _⟩ := r.ent i _ h0
  refine ws_of (ps_expr (pe_bm PySem.F.plainAttrs_list PySem.F.slot_list_append PySem.F.type_list_append mt_append (pe_var hN hv hd hcd) (pa_cons pe_we pa_nil hst) hbase hfew hline hst hplain) hs) ⟨_, h1, .inl ⟨rfl, _, SqL.of hl⟩, h O σ B H r w _ fun d ρ1 u B1 H1 hq r1 s1 du => ?_⟩
  obtain ⟨ds, h2, hlen, q⟩ := hq
  obtain ⟨v', h1', ⟨l', vs', rfl, b2, hl2, hd2⟩, _⟩ := r1.ent i _ h2
  rw [h1] at h1'; cases h1'
  refine ⟨l, vs', u, rfl, rfl, hl2, by rw [dpa_len hd2]; exact hlen, ?_⟩
  exact k.nx _ σ _ _ q (r1.wr h2 trivial h1 (gr_wr r1.sub hl2 b2) ⟨l, _, rfl, b2, upd_same, dpa_app hd2 (.cons du .nil)⟩ fun z => z) s1.b
/-- x.extend(e), x the list of slot i -/
theorem ds_extend (i : Nat) {py : Pos} {ds0 : List PyData} (h0 : ρ[i]? = some (some (.own ds0))) (h : DE X W e ρ fun d ρ1 => ∃ ds es, d = .list es ∧ ρ1[i]? = some (some (.own ds)) ∧ ds.length + es.length ≤ sizeLine ∧ D.nx (ρ1.set i (some (.own (ds ++ es)))))
    (hN : X.N[i]? = some y := by rfl) (hv : Vis X.env.scope y := by first | exact Or.inl rfl | exact Or.inr (Or.inl rfl) | exact Or.inr (Or.inr rfl)) (hd : (y == ("__debug__" : Str)) = false := by decide) (hcd : (y == ("__classdict__" : Str)) = false := by decide)
    (hs : swapsWith (.Call (.Attribute (.Name y py) "extend" apos) [e] [] p) none pos.line X.env = pure false := by rfl)
    (hbase : attributeBase (.Name y py) "extend" X.env (eval (.Name y py) X.env) = eval (.Name y py) X.env := by rfl)
    (hfew : ((backTo p (starEach [e] X.env)).all (fun x => !x.1) && (backToKw p (keywordEach [] X.env)).all (fun x => x.1.isSome)
      && decide (([e] : List Expr).length + ([] : List Keyword).length + (if ([] : List Keyword).isEmpty then 0 else 1) < 30)) = true := by rfl)
    (hline : (apos.endLine == p.line) = true := by rfl) (hst : starEach [e] X.env = (false, eval e X.env) :: starEach [] X.env := by rfl) (hplain : (backTo p (starEach [] X.env)).any (·.1) = false := by rfl) :
    DS X W (.Expr (.Call (.Attribute (.Name y py) "extend" apos) [e] [] p) pos) D ρ := fun O σ B H r w T k => by
  obtain ⟨v, h1, ⟨l, vs, rfl, _, hl, hd'⟩, _⟩ := r.ent i _ h0
  refine ws_of (ps_expr (pe_bm PySem.F.plainAttrs_list PySem.F.slot_list_extend PySem.F.type_list_extend mt_extend (pe_var hN hv hd hcd) (pa_cons pe_we pa_nil hst) hbase hfew hline hst hplain) hs) ⟨_, h1, .inl ⟨rfl, _, SqL.of hl⟩, h O σ B H r w _ fun d ρ1 u B1 H1 hq r1 s1 du => ?_⟩
  obtain ⟨ds, es, ed, h2, hlen, q⟩ := hq
  subst ed
  obtain ⟨v', h1', ⟨l', vs', rfl, b2, hl2, hd2⟩, _⟩ := r1.ent i _ h2
  rw [h1] at h1'; cases h1'
  cases du with
  | lst ha hb =>
    refine ⟨l, _, vs', _, rfl, rfl, hl2, r1.sub _ _ ha, by rw [dpa_len hd2, dpa_len hb]; exact hlen, ?_⟩
    exact k.nx _ σ _ _ q (r1.wr h2 trivial h1 (gr_wr r1.sub hl2 b2) ⟨l, _, rfl, b2, upd_same, dpa_app hd2 hb⟩ fun z => z) s1.b
/-- x[j] = e, x the list of slot i -/
theorem ds_setIx (i : Nat) {py tp : Pos} {j : Expr} (h : DE X W e ρ fun d ρ1 => (∃ ds, ρ1[i]? = some (some (.own ds))) ∧ DE X W j ρ1 fun z ρ2 => ∃ ds q r, z = .int q ∧ ρ2[i]? = some (some (.own ds)) ∧ ixN ds.length q = some r ∧ D.nx (ρ2.set i (some (.own (ds.set r d)))))
    (hN : X.N[i]? = some y := by rfl) (hv : Vis X.env.scope y := by first | exact Or.inl rfl | exact Or.inr (Or.inl rfl) | exact Or.inr (Or.inr rfl)) (hd : (y == ("__debug__" : Str)) = false := by decide) (hcd : (y == ("__classdict__" : Str)) = false := by decide)
    (hs : swapsWithSole [.Subscript (.Name y py) j tp] e pos.line X.env = pure false := by rfl) (hw : swappedStores [.Subscript (.Name y py) j tp] e X.env = pure none := by rfl)
    (h1 : (assignEach [.Subscript (.Name y py) j tp] X.env).map (·.2) = [assign (.Subscript (.Name y py) j tp) X.env] := by rfl)
    (ha : ∀ v, assign (.Subscript (.Name y py) j tp) X.env v = (do
      let ov ← holding [v] (eval (.Name y py) X.env)
      let iv ← holding [v, ov] (eval j X.env)
      standAt tp
      holding [v, ov, iv] (setItem ov iv v)
      release [v, ov, iv] []) := by intro _; rfl) : DS X W (.Assign [.Subscript (.Name y py) j tp] e pos) D ρ := fun O σ B H r w T k => by
  refine ws_of (ps_asg pe_we (pg_sub (pe_var hN hv hd hcd) pe_we set_list ha) hs hw h1) (h O σ B H r w _ fun d ρ1 u B1 H1 hq r1 s1 du => ?_)
  obtain ⟨⟨ds1, hi⟩, hj⟩ := hq
  obtain ⟨v, h2, ⟨l, vs, rfl, _, hl, hd'⟩, _⟩ := r1.ent i _ hi
  refine ⟨_, h2, hj O σ B1 H1 r1 w _ fun z ρ2 v2 B2 H2 hq r2 s2 dz => ?_⟩
  obtain ⟨ds, q, r', ez, h3, hix, hn⟩ := hq
  subst ez; cases dz
  obtain ⟨v', h2', ⟨l', vs', rfl, b2, hl2, hd2⟩, _⟩ := r2.ent i _ h3
  rw [h2] at h2'; cases h2'
  refine ⟨l, vs', q, r', rfl, rfl, hl2, by rw [dpa_len hd2]; exact hix, ?_⟩
  exact k.nx _ σ _ _ hn (r2.wr h3 trivial h2 (gr_wr r2.sub hl2 b2) ⟨l, _, rfl, b2, upd_same, dpa_set (dp_up s2.b _ _ du) _ hd2⟩ fun z => z) (s1.b.trans s2.b)
def putD (f : Str) (v : PyData) : Fs → Fs
  | [] => [(f, v)]
  | (g, w) :: r => if g = f then (g, v) :: r else (g, w) :: putD f v r
theorem fsIs_put {K : PySem.W.Frag} {B : Hp} {f : Str} {v : V} {d : PyData} (r : Dt K B v d) : ∀ {gs : List (Str × V)} {fs : Fs}, FsIs K B gs fs → FsIs K B (putF f v gs) (putD f d fs)
  | _, _, .nil => .cons ⟨rfl, r⟩ .nil
  | (g, u) :: gs, (g', d') :: fs, .cons ⟨e, q⟩ t => by
    have e' : g = g' := e
    subst e'
    unfold putF putD
    by_cases c : g = f
    · rw [if_pos c, if_pos c]; exact .cons ⟨rfl, r⟩ t
    · rw [if_neg c, if_neg c]; exact .cons ⟨rfl, q⟩ (fsIs_put r t)
theorem fsIs_len {K : PySem.W.Frag} {B : Hp} {gs : List (Str × V)} {fs : Fs} (h : FsIs K B gs fs) : gs.length = fs.length := Paired.length h
/-- o.f = e, o the object in slot i -/
theorem ds_fld (i : Nat) {f : Str} {py tp : Pos} {c : Ob} (hc : Cls X.K c.C) (hno : NoAttr X.K c.C f) (h : DE X W e ρ fun d ρ1 => ∃ fs, ρ1[i]? = some (some (.obj c fs)) ∧ fs.length < 1000 ∧ D.nx (ρ1.set i (some (.obj c (putD f d fs)))))
    (hN : X.N[i]? = some y := by rfl) (hv : Vis X.env.scope y := by first | exact Or.inl rfl | exact Or.inr (Or.inl rfl) | exact Or.inr (Or.inr rfl)) (hd : (y == ("__debug__" : Str)) = false := by decide) (hcd : (y == ("__classdict__" : Str)) = false := by decide)
    (hs : swapsWith e (some (.Attribute (.Name y py) f tp)) pos.line X.env = pure false := by rfl) : DS X W (.Assign [.Attribute (.Name y py) f tp] e pos) D ρ := fun O σ B H r w T k => by
  refine ws_of (ps_fld (pe_var hN hv hd hcd) pe_we hs) (h O σ B H r w _ fun d ρ1 u B1 H1 hq r1 s1 du => ?_)
  obtain ⟨fs, hi, hl, q⟩ := hq
  obtain ⟨v, h2, ⟨gs, rfl, b2, hp, hf⟩, _⟩ := r1.ent i _ hi
  refine ⟨_, h2, c.a, c.C, c.dx, gs, rfl, hp, hc, hno, by rw [fsIs_len hf]; exact hl, ?_⟩
  exact k.nx _ σ _ _ q (r1.wr hi trivial h2 (gr_wr r1.sub hp b2) ⟨_, rfl, b2, upd_same, fsIs_put du hf⟩ fun z => z) s1.b
/-- x = C(..): a new object, by its __init__ -/
theorem ds_make (i : Nat) {R : Fs → List PyData → OutO → Prop} (F : KnC X.prog X.w X.K X.mg X.base y C k (spO X.K C n R)) (hr : Room (k + 1) X.A) {cp : Pos}
    (h : DA X W (a :: es) ρ fun ds ρ1 => ds.length = n ∧ ∃ out, R [] ds out ∧ match out with | .ret d fs => d = .none ∧ ∀ aa dx : Addr, D.nx (ρ1.set i (some (.obj ⟨aa, dx, C⟩ fs))) | .exc c xs => W c xs)
    (hnd : X.N.Nodup) (hN : X.N[i]? = some x := by rfl) (hx : Loc X.env.scope x := by first | exact Or.inl rfl | exact Or.inr rfl) (hg : Gl X y := by rfl)
    (hs : swapsWith (.Call (.Name y cp) (a :: es) [] apos) (some (.Name x p)) pos.line X.env = pure false := by rfl) (hf : X.fn x = true ∨ X.env.scope.names.lookup x = some .local := by first | exact .inl rfl | exact .inr rfl)
    (hdb : (y == ("__debug__" : Str)) = false := by decide) (he : starEach (a :: es) X.env = (false, eval a X.env) :: starEach es X.env := by rfl) (hpl : (backTo apos (starEach es X.env)).any (·.1) = false := by rfl) :
    DS X W (.Assign [.Name x p] (.Call (.Name y cp) (a :: es) [] apos) pos) D ρ := fun O σ B H r w T kk => by
  obtain ⟨f, fd, ps, G, hm, hmg, hb⟩ := F.ex
  refine ws_of (ps_set hnd hN hx (pe_make (E := O.E) hm G hr hg hmg hb .nil (passes_call w.tk fun _ _ _ _ h => h) pa_wa hdb he hpl) hs hf) (h O σ B H r w _ fun ds ρ1 vs B1 H1 hq r1 s1 dvs => ?_)
  obtain ⟨hl, out, hR, ho⟩ := hq
  intro xx dx nx ndx nex
  rw [List.append_nil]
  have g1 := gr_newM (o := .own xx) r1.sub ndx
  have nx' : upd H1 dx (.own xx) xx = none := by rw [upd_ne (Ne.symm nex)]; exact nx
  have g2 := g1.trans (gr_newM (o := .ins C dx []) g1.bh nx')
  have r2 := r1.grow g2
  refine ⟨xx, dx, [], vs, B1, [], ds, out, rfl, r2.sub, r1.sub.free nx, upd_same, .nil, dvs, hl, hR, ?_⟩
  cases out with
  | ret d fs =>
    obtain ⟨ed, q⟩ := ho
    intro v B2 H2 gs g3 b2 h2 f2 dv
    subst ed; cases dv
    have g4 : Gr (fun _ => False) B1 H1 B2 H2 := g2.trans' g3 fun c e => .inl (by rw [e]; exact nx)
    refine ⟨rfl, kk.nx _ _ B2 H2 (q xx dx) ((r1.grow g4).setM (e := .obj ⟨xx, dx, C⟩ fs) ⟨gs, rfl, b2, h2, f2⟩ (r1.freshO nx) fun j ej hj mj hs => ?_) (s1.b.trans g4.b)⟩
    obtain ⟨v, e1, e2, _⟩ := r1.ent j ej hj
    obtain ⟨l, el, _, hl⟩ := entIs_mu e2 mj
    rw [hs] at e1; cases e1
    cases el
    exact hl nx
  | exc cls xs =>
    intro d B2 H2 g3 dx'
    have g4 : Gr (fun _ => False) B1 H1 B2 H2 := g2.trans' g3 fun c e => .inl (by rw [e]; exact nx)
    exact w.ok cls xs d B2 H2 ho (r1.gr.trans' g4 fun _ z => z.elim) (dx'.old (r1.gr.trans' g2 fun _ z => z.elim))
end
end Pw
namespace Pw
open PySem PySem.Spec PyProof.Rows L2

/-! ### what is walked -/
structure YOk (K : PySem.W.Frag) (B : Hp) (J : It) (ds : List PyData) : Prop where
  go : ∀ (i : Nat) (H : Hp), Same B H → i < ds.length → J.go i H
  yl : ∀ (i : Nat) (H : Hp) (x : V) (H' : Hp), Same B H → i < ds.length → J.yld i H x H' → H' = H ∧ ∃ d, ds[i]? = some d ∧ Dt K B x d
  st : ∀ (H : Hp), Same B H → J.stop ds.length H
def DI (X : Cx) (W : Wx) (tg iter : Expr) (ρ : Ev) (QI : List PyData → Ev → Prop) : Prop :=
  ∀ (O : Og) (σ : L2.St) (B H : Hp), Rep X.K O σ ρ B H → Wsh O X W → ∀ R : It → Hp → Prop, (∀ ds ρ' J B' H', QI ds ρ' → Rep X.K O σ ρ' B' H' → Stp σ ρ B H ρ' B' H' → YOk X.K B' J ds → R J H') → ∃ wi : TI, PI X tg iter wi ∧ wi σ H R
section
variable {X : Cx} {W : Wx} {a b c e o tg iter elt : Expr} {es : List Expr} {ρ : Ev} {p pos apos : Pos} {x y m : Str} {k n : Nat} {C : Addr} {D : DEnds} {st : Stmt} {ss rest body orelse : List Stmt} {QI QL : List PyData → Ev → Prop}
theorem di_list (h : DE X W e ρ fun d ρ' => ∃ ds, d = .list ds ∧ QI ds ρ') : DI X W tg e ρ QI := fun O σ B H r w R k => by
  refine ⟨_, pi_list pe_we, h O σ B H r w _ fun d ρ1 v B1 H1 hq r1 s1 dv => ?_⟩
  obtain ⟨ds, ed, q⟩ := hq
  subst ed
  cases dv with
  | @lst a vs ds hb hd =>
    refine ⟨a, rfl, ⟨vs, SqL.of (r1.sub _ _ hb)⟩, k ds ρ1 _ B1 H1 q r1 s1 ⟨fun i H g hi => ?_, fun i H x H' g hi y => ?_, fun H g => ⟨vs, SqL.of (g _ _ hb), by rw [dpa_len hd]; exact Nat.le_refl _⟩⟩⟩
    · obtain ⟨v, h1, _⟩ := dpa_get hd (List.getElem?_eq_getElem hi)
      exact ⟨vs, v, SqL.of (g _ _ hb), h1⟩
    · obtain ⟨e1, y⟩ := y
      obtain ⟨v, h1, h2⟩ := dpa_get hd (List.getElem?_eq_getElem hi)
      have h3 := y vs (SqL.of (g _ _ hb))
      rw [h1] at h3; cases h3
      exact ⟨e1, _, List.getElem?_eq_getElem hi, h2⟩
theorem di_rev (hm : X.mg "reversed" = none) (h : DE X W e ρ fun d ρ' => ∃ ds, d = .list ds ∧ QI ds.reverse ρ') (hg : Gl X "reversed" := by rfl) (hs : starEach [e] X.env = [(false, eval e X.env)] := by rfl) : DI X W tg (.Call (.Name "reversed" p) [e] [] pos) ρ QI := fun O σ B H r w R k => by
  refine ⟨_, pi_reversed hg hm (pa_cons pe_we pa_nil hs) hs, h O σ B H r w _ fun d ρ1 v B1 H1 hq r1 s1 dv => ?_⟩
  obtain ⟨ds, ed, q⟩ := hq
  subst ed
  cases dv with
  | @lst a vs ds hb hd =>
    have el := dpa_len hd
    refine ⟨a, vs, rfl, SqL.of (r1.sub _ _ hb), k ds.reverse ρ1 _ B1 H1 q r1 s1 ⟨fun i H g hi => ?_, fun i H x H' g hi y => ?_, fun H g => by show vs.length ≤ _; rw [List.length_reverse, el]; exact Nat.le_refl _⟩⟩
    · rw [List.length_reverse] at hi
      obtain ⟨v, h1, _⟩ := dpa_get hd (List.getElem?_eq_getElem (show ds.length - 1 - i < ds.length by omega))
      exact ⟨by omega, vs, v, SqL.of (g _ _ hb), by rw [el]; exact h1⟩
    · rw [List.length_reverse] at hi
      obtain ⟨e1, y⟩ := y
      have hi2 : ds.length - 1 - i < ds.length := by omega
      obtain ⟨v, h1, h2⟩ := dpa_get hd (List.getElem?_eq_getElem hi2)
      have h3 := y vs (SqL.of (g _ _ hb))
      rw [el, h1] at h3; cases h3
      exact ⟨e1, _, by rw [List.getElem?_reverse hi, List.getElem?_eq_getElem hi2], h2⟩
def rangeD (lo : Int) (n : Nat) : List PyData := (List.range n).map fun (i : Nat) => .int (lo + (i : Int))
theorem yok_range {K : PySem.W.Frag} {B : Hp} (lo : Int) (n : Nat) : YOk K B (Itr lo n) (rangeD lo n) := by
  have hl : (rangeD lo n).length = n := by unfold rangeD; rw [List.length_map, List.length_range]
  refine ⟨fun i H g hi => ?_, fun i H x H' g hi y => ?_, fun H g => ?_⟩
  · rw [hl] at hi; exact hi
  · rw [hl] at hi
    obtain ⟨e1, e2⟩ := y
    subst e2
    exact ⟨e1, _, by unfold rangeD; rw [List.getElem?_map, List.getElem?_range hi]; rfl, .int _⟩
  · show n ≤ _
    rw [hl]; exact Nat.le_refl _
theorem di_range (hm : X.mg "range" = none) (h : DE X W e ρ fun d ρ' => ∃ n : Int, d = .int n ∧ -(2 ^ 62) ≤ n ∧ n < 2 ^ 62 ∧ QI (rangeD 0 n.toNat) ρ') (hg : Gl X "range" := by rfl) (hs : starEach [e] X.env = [(false, eval e X.env)] := by rfl) : DI X W tg (.Call (.Name "range" p) [e] [] pos) ρ QI := fun O σ B H r w R k => by
  refine ⟨_, pi_range1 hg hm (pa_cons pe_we pa_nil hs) hs, h O σ B H r w _ fun d ρ1 v B1 H1 hq r1 s1 dv => ?_⟩
  obtain ⟨n, ed, n1, n2, q⟩ := hq
  subst ed; cases dv
  exact ⟨n, rfl, n1, n2, k _ ρ1 _ B1 H1 q r1 s1 (yok_range 0 n.toNat)⟩

/-! ### loops -/
theorem ds_for (j : Nat) (h : DI X W (.Name x p) iter ρ fun ds ρ1 => ∃ I : Nat → Ev → Prop, I 0 ρ1 ∧ (∀ (i : Nat) (d : PyData) (ρ' : Ev), ds[i]? = some d → I i ρ' → DSs X W body { D with nx := I (i + 1), ct := I (i + 1), bk := D.nx } (ρ'.set j (some (.val d)))) ∧ ∀ ρ', I ds.length ρ' → D.nx ρ')
    (hnd : X.N.Nodup) (hc : X.calm = true := by rfl) (hp : PassesOwn (model X.prog X.w) X.A X.env X.xe := by exact passes_of rfl) (hN : X.N[j]? = some x := by rfl) (hx : Loc X.env.scope x := by first | exact Or.inl rfl | exact Or.inr rfl)
    (hf : X.fn x = true ∨ X.env.scope.names.lookup x = some .local := by first | exact .inl rfl | exact .inr rfl) (hs : ∀ v, foldedSetIterable iter X.env v = pure v := by intro _; rfl) : DS X W (.For (.Name x p) iter body [] pos) D ρ := fun O σ B H r w T k => by
  obtain ⟨wi, hpi, hw⟩ := h O σ B H r w (fun J H1 => ∃ W' : Nat → Nat → L2.St → Hp → Prop, (∃ m, W' 0 m σ H1) ∧ ∀ i m σ H, W' i m σ H → (J.stop i H ∧ T.nx σ H) ∨ (J.go i H ∧ ∃ N : L2.St → Hp → Prop, (∀ σ' H', N σ' H' → ∃ m', m' < m ∧ W' (i + 1) m' σ' H') ∧
    ∀ x H', J.yld i H x H' → gName j x σ H' fun σ2 H2 => WSs X body { T with nx := N, ct := N, bk := T.nx } σ2 H2)) (fun ds ρ1 J B1 H1 hq r1 s1 y => by
    obtain ⟨I, h0, hI, hd⟩ := hq
    refine ⟨fun i m σ' H' => m = ds.length - i ∧ i ≤ ds.length ∧ ∃ ρ' B', I i ρ' ∧ Rep X.K O σ' ρ' B' H' ∧ Same B1 B', ⟨_, rfl, Nat.zero_le _, ρ1, B1, h0, r1, Same.refl B1⟩, ?_⟩
    rintro i m σ' H' ⟨rfl, hi, ρ', B', hIi, r', g'⟩
    by_cases hlt : i < ds.length
    · refine .inr ⟨y.go i H' (g'.trans r'.sub) hlt, fun σ2 H2 => ∃ ρ2 B2, I (i + 1) ρ2 ∧ Rep X.K O σ2 ρ2 B2 H2 ∧ Same B1 B2, fun σ2 H2 ⟨ρ2, B2, q1, q2, q3⟩ => ⟨ds.length - (i + 1), by omega, rfl, hlt, ρ2, B2, q1, q2, q3⟩, fun v H2 hy => ?_⟩
      obtain ⟨e1, d, hd1, dv⟩ := y.yl i H' v H2 (g'.trans r'.sub) hlt hy
      subst e1
      show WSs X body _ (σ'.set j (some v)) H2
      exact hI i d ρ' hd1 hIi O _ B' H2 (r'.set (dp_up g' _ _ dv)) w _ ⟨fun ρ3 σ3 B3 H3 q r3 g3 => ⟨ρ3, B3, q, r3, g'.trans g3⟩, fun d3 ρ3 v3 σ3 B3 H3 q r3 g3 dv3 => k.rt d3 ρ3 v3 σ3 B3 H3 q r3 ((s1.b.trans g').trans g3) dv3, fun ρ3 σ3 B3 H3 q r3 g3 => k.nx ρ3 σ3 B3 H3 q r3 ((s1.b.trans g').trans g3), fun ρ3 σ3 B3 H3 q r3 g3 => ⟨ρ3, B3, q, r3, g'.trans g3⟩⟩
    · have e : i = ds.length := by omega
      subst e
      exact .inl ⟨y.st H' (g'.trans r'.sub), k.nx ρ' σ' B' H' (hd ρ' hIi) r' (s1.b.trans g')⟩)
  exact ws_of (ps_for hp hc hpi (pg_name hnd hN hx hf) pss_wss hs) hw
theorem ds_while (I : Nat → Ev → Prop) (m0 : Nat) (h0 : I m0 ρ) (h : ∀ (m : Nat) (ρ' : Ev), I m ρ' → DT X W c ρ' fun b ρ2 => if b = true then DSs X W body { D with nx := fun ρ3 => ∃ m', m' < m ∧ I m' ρ3, ct := fun ρ3 => ∃ m', m' < m ∧ I m' ρ3, bk := D.nx } ρ2 else D.nx ρ2)
    (hp : PassesOwn (model X.prog X.w) X.A X.env X.xe := by exact passes_of rfl) : DS X W (.While c body [] pos) D ρ := fun O σ B H r w T k => by
  refine ws_of (ps_while hp pt_wt pss_wss) ⟨fun m σ' H' => ∃ ρ' B', I m ρ' ∧ Rep X.K O σ' ρ' B' H' ∧ Same B B', ⟨m0, ρ, B, h0, r, Same.refl B⟩, ?_⟩
  rintro m σ' H' ⟨ρ', B', hI, r', g'⟩
  refine h m ρ' hI O σ' B' H' r' w _ fun b ρ2 B2 H2 q r2 s2 => ?_
  cases b with
  | true =>
    rw [if_pos rfl] at q ⊢
    refine ⟨fun σ3 H3 => ∃ m', m' < m ∧ ∃ ρ3 B3, I m' ρ3 ∧ Rep X.K O σ3 ρ3 B3 H3 ∧ Same B B3, fun σ3 H3 ⟨m', l, z⟩ => ⟨m', l, z⟩, q O σ' B2 H2 r2 w _ ⟨fun ρ3 σ3 B3 H3 q3 r3 g3 => ?_, fun d3 ρ3 v3 σ3 B3 H3 q3 r3 g3 dv3 => k.rt d3 ρ3 v3 σ3 B3 H3 q3 r3 ((g'.trans s2.b).trans g3) dv3, fun ρ3 σ3 B3 H3 q3 r3 g3 => k.nx ρ3 σ3 B3 H3 q3 r3 ((g'.trans s2.b).trans g3), fun ρ3 σ3 B3 H3 q3 r3 g3 => ?_⟩⟩
    · obtain ⟨m', l, hI'⟩ := q3
      exact ⟨m', l, ρ3, B3, hI', r3, (g'.trans s2.b).trans g3⟩
    · obtain ⟨m', l, hI'⟩ := q3
      exact ⟨m', l, ρ3, B3, hI', r3, (g'.trans s2.b).trans g3⟩
  | false =>
    rw [if_neg Bool.false_ne_true] at q ⊢
    exact k.nx ρ2 σ' B2 H2 q r2 (g'.trans s2.b)

/-! ### list comprehensions -/
section
variable {K : PySem.W.Frag} {O : Og} {σ : L2.St} {B H B' H' : Hp}
/-- a thing that no slot holds is written -/
theorem Rep.other (r : Rep K O σ ρ B H) {q : Addr} (g : Gr (fun a => a = q) B H B' H') (n : ¬ Mu σ ρ q) (hO : O.H q = none) : Rep K O σ ρ B' H' where
  gr := r.gr.trans' g fun c e => .inl (by rw [e]; exact hO)
  len := r.len
  ent := fun i e h => by
    obtain ⟨v, h1, h2, h3⟩ := r.ent i e h
    refine ⟨v, h1, entIs_up g h2 (fun l me ev z => ?_), h3⟩
    subst z
    exact n ⟨i, e, h, me, by rw [h1, ev]⟩
  sep := r.sep
/-- a slot's value is taken back -/
theorem Rep.unset {i : Nat} {v : Option V} {d : PyData} (r0 : σ.length = ρ.length) (hi : ρ[i]? = some none) (r : Rep K O (σ.set i v) (ρ.set i (some (.val d))) B H) : Rep K O σ ρ B H where
  gr := r.gr
  len := r0
  ent := fun j e h => by
    have nj : j ≠ i := fun z => by rw [z, hi] at h; cases h
    obtain ⟨u, h1, h2, h3⟩ := r.ent j e (by rw [List.getElem?_set_ne (Ne.symm nj)]; exact h)
    exact ⟨u, by rw [List.getElem?_set_ne (Ne.symm nj)] at h1; exact h1, h2, h3⟩
  sep := fun j k ej ek u hj hk mj mk sj sk => by
    have nj : j ≠ i := fun z => by rw [z, hi] at hj; cases hj
    have nk : k ≠ i := fun z => by rw [z, hi] at hk; cases hk
    exact r.sep j k ej ek u (by rw [List.getElem?_set_ne (Ne.symm nj)]; exact hj) (by rw [List.getElem?_set_ne (Ne.symm nk)]; exact hk) mj mk (by rw [List.getElem?_set_ne (Ne.symm nj)]; exact sj) (by rw [List.getElem?_set_ne (Ne.symm nk)]; exact sk)
theorem mu_set {i : Nat} {v : Option V} {d : PyData} {a : Addr} (h : Mu (σ.set i v) (ρ.set i (some (.val d))) a) : Mu σ ρ a := by
  obtain ⟨j, e, hj, me, hs⟩ := h
  rcases set_some (e' := none) hj with ⟨rfl, e1⟩ | ⟨nj, hj'⟩
  · cases e1; exact me.elim
  · exact ⟨j, e, hj', me, by rw [List.getElem?_set_ne (Ne.symm nj)] at hs; exact hs⟩
theorem mu_there (r : Rep K O σ ρ B H) {a : Addr} (h : Mu σ ρ a) : H a ≠ none := by
  obtain ⟨j, e, hj, me, hs⟩ := h
  obtain ⟨v, h1, h2, _⟩ := r.ent j e hj
  obtain ⟨l, el, _, hl⟩ := entIs_mu h2 me
  rw [hs] at h1; cases h1; cases el
  exact hl
theorem Rep.noE (r : Rep K O σ ρ B H) : Rep K { O with E := fun _ _ _ => False } σ ρ B H := ⟨r.gr, r.len, r.ent, r.sep⟩
theorem Rep.withE (r : Rep K { O with E := fun _ _ _ => False } σ ρ B H) : Rep K O σ ρ B H := ⟨r.gr, r.len, r.ent, r.sep⟩
theorem dpa_snoc {vs : List V} {fs : List PyData} {i : Nat} {v : V} {d : PyData} (h : DtAll K B vs (fs.take i)) (hv : Dt K B v d) (hd : fs[i]? = some d) : DtAll K B (vs ++ [v]) (fs.take (i + 1)) := by
  obtain ⟨hi, e⟩ := List.getElem?_eq_some_iff.mp hd
  rw [List.take_add_one, hd]
  exact dpa_app h (.cons hv .nil)
end
/-- the block's reading -/
def teB (X : Cx) (scope : Scope) (elt : Expr) : TE := fun σ H Q => ∀ (s : Shared) (H0 : Hp) (C : Addr) (cl : List (Str × Addr)) (fp : List Addr), WE (X.blk s H0 scope (compEnvC scope cl C X.env) fp) elt σ H Q
theorem lc_run (i : Nat) {scope : Scope} (hw : ∀ O σ B H, Rep X.K O σ ρ B H → Wsh O X W → ∀ R : It → Hp → Prop, (∀ ds ρ' J B' H', (ρ'[i]? = some none ∧ ∃ fs : List PyData, fs.length = ds.length ∧ fs.length ≤ sizeLine ∧ (∀ (s : Shared) (H0 : Hp) (C : Addr) (cl : List (Str × Addr)) (fp : List Addr) (j : Nat) (d r : PyData), ds[j]? = some d → fs[j]? = some r →
      DE (X.blk s H0 scope (compEnvC scope cl C X.env) fp) (fun _ _ => False) elt (ρ'.set i (some (.val d))) fun r' ρ2 => r' = r ∧ ρ2 = ρ'.set i (some (.val d))) ∧ QL fs ρ') → Rep X.K O σ ρ' B' H' → Stp σ ρ B H ρ' B' H' → YOk X.K B' J ds → R J H') → ∃ wi : TI, PI X tg iter wi ∧ wi σ H R)
    {O : Og} {σ : L2.St} {B H : Hp} (rep : Rep X.K O σ ρ B H) (ws : Wsh O X W) {R : VK} (k : ∀ ds ρ' l vs B' H', QL ds ρ' → Rep X.K O σ ρ' B' H' → Stp σ ρ B H ρ' B' H' → H l = none → B' l = none → H' l = some (.lst vs) → DtAll X.K B' vs ds →
    (∀ (j : Nat) (ej : Ent), ρ'[j]? = some (some ej) → ej.mu → σ[j]? ≠ some (some (.ref l))) → R (.ref l) H') : ∃ wi : TI, PI X tg iter wi ∧ tLc wi (gName i) tYes (teB X scope elt) [i] σ H R := by
  obtain ⟨wi, hpi, hq⟩ := hw O σ B H rep ws (fun J H1 => ∀ D, H1 D = none → ∃ W' : Nat → Nat → Hp → Prop, (∃ m, W' 0 m (upd H1 D (.lst []))) ∧ ∀ i' m H, W' i' m H →
    (J.stop i' H ∧ R (.ref D) H) ∨ (J.go i' H ∧ ∃ Nx : Hp → Prop, (∀ H', Nx H' → ∃ m', m' < m ∧ W' (i' + 1) m' H') ∧ ∀ x H', J.yld i' H x H' → gName i x (wipe σ [i]) H' fun σ2 H2 => wipe σ2 [i] = wipe σ [i] ∧ tYes σ2 H2 fun b H3 =>
      if b = true then teB X scope elt σ2 H3 fun y H4 => ∃ acc, H4 D = some (.lst acc) ∧ acc.length < sizeLine ∧ Nx (upd H4 D (.lst (acc ++ [y]))) else Nx H3)) (fun ds ρ1 J B1 H1 hh r1 s1 y => by
  obtain ⟨hi, fs, hfl, hfz, hel, hQ⟩ := hh
  intro D hD
  have nD : ¬ Mu σ ρ1 D := fun z => mu_there r1 z hD
  have oD : O.H D = none := r1.freshO hD
  have g0 := gr_newM (o := .lst []) r1.sub hD
  refine ⟨fun i' m H' => m = ds.length - i' ∧ i' ≤ ds.length ∧ ∃ B' vs, Rep X.K O σ ρ1 B' H' ∧ Stp σ ρ1 B1 H1 ρ1 B' H' ∧ H' D = some (.lst vs) ∧ B' D = none ∧ DtAll X.K B' vs (fs.take i'), ⟨_, rfl, Nat.zero_le _, B1, [], r1.grow g0, (Stp.refl r1).gro g0, upd_same, r1.sub.free hD, .nil⟩, ?_⟩
  rintro i' m H' ⟨rfl, hi', B', vs, r', s', hH, hB, hvs⟩
  have gg : Same B1 H' := s'.b.trans r'.sub
  by_cases hlt : i' < ds.length
  · refine .inr ⟨y.go i' H' gg hlt, fun H2 => i' + 1 ≤ ds.length ∧ ∃ B2 vs2, Rep X.K O σ ρ1 B2 H2 ∧ Stp σ ρ1 B1 H1 ρ1 B2 H2 ∧ H2 D = some (.lst vs2) ∧ B2 D = none ∧ DtAll X.K B2 vs2 (fs.take (i' + 1)), fun H2 z => ⟨ds.length - (i' + 1), by omega, rfl, z⟩, fun v H2 hy => ?_⟩
    obtain ⟨e1, d, hd1, dv⟩ := y.yl i' H' v H2 gg hlt hy
    subst e1
    have e2 : (wipe σ [i]).set i (some v) = σ.set i (some v) := by
      show ((σ.set i none).set i (some v)) = _
      rw [List.set_set]
    show wipe ((wipe σ [i]).set i (some v)) [i] = wipe σ [i] ∧ _
    refine ⟨by rw [e2]; show (σ.set i (some v)).set i none = σ.set i none; rw [List.set_set], ?_⟩
    unfold tYes
    refine iteT ?_
    rw [e2]
    have hlt2 : i' < fs.length := by omega
    intro s0 H0 C cl fp
    have rb : Rep X.K O (σ.set i (some v)) (ρ1.set i (some (.val d))) B' H2 := r'.set (dp_up s'.b _ _ dv)
    refine hel s0 H0 C cl fp i' d fs[i'] hd1 (List.getElem?_eq_getElem hlt2) { O with E := fun _ _ _ => False } _ B' H2 rb.noE ⟨takes0, fun _ _ _ _ _ z => z.elim⟩ _ fun r ρ2 u B3 H3 hr r3 s3 du => ?_
    obtain ⟨er, eρ⟩ := hr
    subst er; subst eρ
    have nD2 : ¬ Mu (σ.set i (some v)) (ρ1.set i (some (.val d))) D := fun z => nD (mu_set z)
    have hH3 : H3 D = some (.lst vs) := s3.gr.h D _ nD2 hH
    have hB3 : B3 D = none := (s3.gr.nw D nD2 (by rw [hH]; exact fun z => nomatch z)).trans hB
    have r4 : Rep X.K O σ ρ1 B3 H3 := Rep.unset (v := some v) (d := d) r1.len hi r3.withE
    have g4 := gr_wr (o := .lst (vs ++ [u])) r4.sub hH3 hB3
    refine ⟨vs, hH3, ?_, hlt, B3, vs ++ [u], r4.other g4 nD oD, ⟨(s'.gr.trans' s3.gr fun c z => .inr (mu_set z)).trans' g4 fun c e => .inl (by rw [e]; exact hD), fun _ z => z⟩, upd_same, hB3, dpa_snoc (dpAll_up s3.b _ _ hvs) du (List.getElem?_eq_getElem hlt2)⟩
    have hl := dpa_len hvs
    rw [List.length_take] at hl
    omega
  · have e : i' = ds.length := by omega
    subst e
    refine .inl ⟨y.st H' gg, k fs ρ1 D vs B' H' hQ r' (s1.trans s') ?_ hB hH (by rw [← hfl, List.take_length] at hvs; exact hvs) fun j ej hj mj hs => nD ⟨j, ej, hj, mj, hs⟩⟩
    cases z : H D with
    | none => rfl
    | some o => exact absurd hD (s1.gr.dom D (by rw [z]; exact fun q => nomatch q)))
  exact ⟨wi, hpi, hq⟩
theorem pe_teB {scope : Scope} (s : Shared) (H : Hp) (C : Addr) (cl : List (Str × Addr)) (fp : List Addr) : PE (X.blk s H scope (compEnvC scope cl C X.env) fp) elt (teB X scope elt) := ⟨fun pins s0 σ H1 Q I h => h s H C cl fp pins s0 I⟩
/-- [elt for x in iter] -/
theorem dl_lc (i : Nat) {scope : Scope} (h : DI X W (.Name x p) iter ρ fun ds ρ' => ρ'[i]? = some none ∧ ∃ fs : List PyData, fs.length = ds.length ∧ fs.length ≤ sizeLine ∧ (∀ (s : Shared) (H0 : Hp) (C : Addr) (cl : List (Str × Addr)) (fp : List Addr) (j : Nat) (d r : PyData), ds[j]? = some d → fs[j]? = some r →
      DE (X.blk s H0 scope (compEnvC scope cl C X.env) fp) (fun _ _ => False) elt (ρ'.set i (some (.val d))) fun r' ρ2 => r' = r ∧ ρ2 = ρ'.set i (some (.val d))) ∧ QL fs ρ') (hnd : X.N.Nodup) (hc : X.calm = true := by rfl) (ok : BlkOk X.N X.env.scope scope [(x, i)] := by exact blkOk_by (by decide +kernel))
    (hg : ∀ (s : Shared) (H : Hp) (C : Addr) (cl : List (Str × Addr)) (fp : List Addr), PG (X.blk s H scope (compEnvC scope cl C X.env) fp) (.Name x p) (gName i) := by exact fun _ _ _ _ _ => pg_name (by assumption) rfl (Or.inl rfl))
    (hs : ∀ x, foldedSetIterable iter X.env x = pure x := by intro _; rfl) : DL X W (.ListComp elt [⟨.Name x p, iter, [], 0⟩] scope pos) ρ QL := fun O σ B H r w R k => by
  obtain ⟨wi, hpi, hq⟩ := lc_run i h r w k
  exact we_of (pe_lc (own := [(x, i)]) hc hnd hpi ok hg (fun _ _ _ _ _ => pts_nil) pe_teB hs) hq
/-- y = [elt for x in iter], y a local name -/
theorem ds_lc (i j : Nat) {scope : Scope} {py : Pos} (h : DI X W (.Name x p) iter ρ fun ds ρ' => ρ'[i]? = some none ∧ ∃ fs : List PyData, fs.length = ds.length ∧ fs.length ≤ sizeLine ∧ (∀ (s : Shared) (H0 : Hp) (C : Addr) (cl : List (Str × Addr)) (fp : List Addr) (j : Nat) (d r : PyData), ds[j]? = some d → fs[j]? = some r →
      DE (X.blk s H0 scope (compEnvC scope cl C X.env) fp) (fun _ _ => False) elt (ρ'.set i (some (.val d))) fun r' ρ2 => r' = r ∧ ρ2 = ρ'.set i (some (.val d))) ∧ D.nx (ρ'.set j (some (.val (.list fs))))) (hnd : X.N.Nodup) (hN : X.N[j]? = some y := by rfl) (hyl : X.env.scope.names.lookup y = some .local := by rfl)
    (hsw : swapsWith (.ListComp elt [⟨.Name x p, iter, [], 0⟩] scope apos) (some (.Name y py)) pos.line X.env = pure true := by exact sw_true rfl rfl rfl (by decide +kernel)) (hc : X.calm = true := by rfl) (ok : BlkOk X.N X.env.scope scope [(x, i)] := by exact blkOk_by (by decide +kernel))
    (hg : ∀ (s : Shared) (H : Hp) (C : Addr) (cl : List (Str × Addr)) (fp : List Addr), PG (X.blk s H scope (compEnvC scope cl C X.env) fp) (.Name x p) (gName i) := by exact fun _ _ _ _ _ => pg_name (by assumption) rfl (Or.inl rfl))
    (hs : ∀ x, foldedSetIterable iter X.env x = pure x := by intro _; rfl) : DS X W (.Assign [.Name y py] (.ListComp elt [⟨.Name x p, iter, [], 0⟩] scope apos) pos) D ρ := fun O σ B H r w T k => by
  obtain ⟨wi, hpi, hq⟩ := lc_run (QL := fun fs ρ' => D.nx (ρ'.set j (some (.val (.list fs))))) i h r w (R := fun v H' => T.nx (σ.set j (some v)) H') fun fs ρ' l vs B' H' q r' s' o' b' h' d' n' => by
    have g2 := gr_free (o := .lst vs) r'.sub h' b'
    refine k.nx _ _ _ H' q (Rep.set (r'.other g2 (fun ⟨j', ej, hj, mj, hs'⟩ => n' j' ej hj mj hs') (r.freshO o')) (.lst upd_same (dpAll_up g2.b _ _ d'))) (s'.b.trans g2.b)
  exact ws_of (ps_setLc (own := [(x, i)]) hc hnd hN hyl hsw hpi ok hg (fun _ _ _ _ _ => pts_nil) pe_teB hs) hq
end
end Pw
namespace Pw
open PySem PySem.Spec PyProof.Rows L2

def startE (N : List Str) (ds : List PyData) : Ev := ds.map (fun d => some (Ent.val d)) ++ List.replicate (N.length - ds.length) none
def startO (N : List Str) (c : Ob) (fs : Fs) (ds : List PyData) : Ev := some (Ent.obj c fs) :: ds.map (fun d => some (Ent.val d)) ++ List.replicate (N.length - (ds.length + 1)) none
section
variable {P : Program} {w : World} {K : PySem.W.Frag} {mg : Str → Option Value} {base : Heap}
theorem ev_val {ds : List PyData} {n i : Nat} {e : Ent} (h : (ds.map (fun d => some (Ent.val d)) ++ List.replicate n none)[i]? = some (some e)) : ∃ d, ds[i]? = some d ∧ e = .val d := by
  by_cases c : i < ds.length
  · rw [List.getElem?_append_left (by simpa using c), List.getElem?_map, List.getElem?_eq_getElem c] at h
    exact ⟨ds[i], List.getElem?_eq_getElem c, (Option.some.inj (Option.some.inj h)).symm⟩
  · rw [List.getElem?_append_right (by simpa using c), List.getElem?_replicate] at h
    split at h
    · cases h
    · cases h
theorem st_val {vs : List V} {n i : Nat} {v : V} (h : vs[i]? = some v) : (vs.map some ++ List.replicate n (none : Option V))[i]? = some (some v) := by
  have c := (List.getElem?_eq_some_iff.mp h).1
  rw [List.getElem?_append_left (by simpa using c), List.getElem?_map, h]; rfl
theorem rep_start {N : List Str} {B H : Hp} {vs : List V} {ds : List PyData} {E : XK} (g : Same B H) (d : DtAll K B vs ds) : Rep K ⟨B, H, fun _ => False, E⟩ (L2.start N vs) (startE N ds) B H where
  gr := Gr.refl g
  len := by unfold L2.start startE; rw [List.length_append, List.length_append, List.length_map, List.length_map, List.length_replicate, List.length_replicate, dpa_len d]
  ent := fun i e h => by
    obtain ⟨x, hx, rfl⟩ := ev_val h
    obtain ⟨v, h1, h2⟩ := dpa_get d hx
    exact ⟨v, st_val h1, h2, fun z => z.elim⟩
  sep := fun i j ei ej v hi hj mi => by
    obtain ⟨x, hx, rfl⟩ := ev_val hi
    exact mi.elim
theorem rep_startO {N : List Str} {B H : Hp} {c : Ob} {gs : List (Str × V)} {fs : Fs} {vs : List V} {ds : List PyData} {E : XK} (g : Same B H) (bp : B c.a = none) (hp : H c.a = some (.ins c.C c.dx gs)) (hf : FsIs K B gs fs) (d : DtAll K B vs ds) :
    Rep K ⟨B, H, fun a => a = c.a, E⟩ (L2.start N (.ref c.a :: vs)) (startO N c fs ds) B H where
  gr := Gr.refl g
  len := by simp [L2.start, startO, dpa_len d]
  ent := fun i e h => by
    cases i with
    | zero => cases h; exact ⟨_, rfl, ⟨gs, rfl, bp, hp, hf⟩, fun _ => ⟨c.a, rfl, .inr ⟨rfl, trivial⟩⟩⟩
    | succ i =>
      obtain ⟨x, hx, rfl⟩ := ev_val (i := i) (n := N.length - (ds.length + 1)) (by simpa [startO] using h)
      obtain ⟨v, h1, h2⟩ := dpa_get d hx
      exact ⟨v, by have := st_val (n := N.length - (V.ref c.a :: vs).length) h1; simpa [L2.start] using this, h2, fun z => z.elim⟩
  sep := fun i j ei ej v hi hj mi mj si sj => by
    have z : ∀ {i : Nat} {ei : Ent}, (startO N c fs ds)[i]? = some (some ei) → ei.mu → i = 0 := fun {i ei} hi mi => by
      cases i with
      | zero => rfl
      | succ i =>
        obtain ⟨x, hx, rfl⟩ := ev_val (i := i) (n := N.length - (ds.length + 1)) (by simpa [startO] using hi)
        exact mi.elim
    rw [z hi mi, z hj mj]
/-- a def of the text over data -/
theorem kn_def {x qual : Str} {st : Stmt} {f : Addr} {fd : FuncData} {N ps : List Str} {k n : Nat} {R : List PyData → Out → Prop} (F : Fun K x qual st f fd) (S : FnScope N ps (defScope st)) (hm : mg x = some (.ref f)) (hb : L2.Binds K fd ps []) (hn : ps.length = n)
    (body : ∀ (cdv : Value) (A : Around) (outer : List Env) (s : Shared) (H : Hp) (E : XK), Room k (A.deeper (envOfC qual (defScope st) s.heap.objs.size f cdv)) → ∀ (ds : List PyData) (out : Out), ds.length = n → R ds out →
      DSs (cxOf (L2.CX P w) P w K mg base N qual (defScope st) f cdv A outer s H E) (fun c xs => out = .exc c xs) (defBody st) { nx := fun _ => out = .ret .none, rt := fun d _ => out = .ret d } (startE N ds)) :
    Kn P w K mg base x (k + 1) (spP K n R) := by
  refine ⟨f, fd, ps, F.okX S (fun vs H Q E h => ?_) (fun cdv A outer s H vs Q E hr h => ⟨_, pss_wss, ?_⟩), hm, F.kp, hb⟩
  · obtain ⟨B, ds, out, _, d, hl, _⟩ := h
    rw [dpa_len d, hl, hn]
  · obtain ⟨B, ds, out, g, d, hl, hR, post⟩ := h
    refine body cdv A outer s H E hr ds out hl hR ⟨B, H, fun _ => False, E⟩ _ B H (rep_start g d) ⟨takes_of rfl rfl rfl rfl, fun cls xs d B' H' e g' x => ?_⟩ _ ⟨fun ρ' σ' B' H' e r' _ => ?_, fun d ρ' v σ' B' H' e r' _ dv => ?_, fun _ _ _ _ z => z.elim, fun _ _ _ _ z => z.elim⟩
    · subst e; exact post d B' H' g' x
    · subst e; exact post .non B' H' r'.gr .non
    · subst e; exact post v B' H' r'.gr dv
/-- a def that changes its first argument -/
theorem okO_def {x qual : Str} {st : Stmt} {f C : Addr} {fd : FuncData} {N ps : List Str} {k n : Nat} {R : Fs → List PyData → OutO → Prop} (F : Fun K x qual st f fd) (S : FnScope N ps (defScope st)) (hn : ps.length = n + 1)
    (body : ∀ (cdv : Value) (A : Around) (outer : List Env) (s : Shared) (H : Hp) (E : XK), Room k (A.deeper (envOfC qual (defScope st) s.heap.objs.size f cdv)) → ∀ (c : Ob) (fs : Fs) (ds : List PyData) (out : OutO), c.C = C → ds.length = n → R fs ds out →
      DSs (cxOf (L2.CX P w) P w K mg base N qual (defScope st) f cdv A outer s H E) (fun cl xs => out = .exc cl xs) (defBody st) { nx := fun ρ => ∃ fs', ρ[0]? = some (some (.obj c fs')) ∧ out = .ret .none fs', rt := fun d ρ => ∃ fs', ρ[0]? = some (some (.obj c fs')) ∧ out = .ret d fs' } (startO N c fs ds)) :
    FnOk P w K mg base (L2.CX P w) (k + 1) f fd ps (spO K C n R) := by
  refine F.okX S (fun vs H Q E h => ?_) (fun cdv A outer s H vs Q E hr h => ⟨_, pss_wss, ?_⟩)
  · obtain ⟨p, dx, gs, vs', B, fs, ds, out, rfl, _, _, _, _, d, hl, _⟩ := h
    rw [List.length_cons, dpa_len d, hl, hn]
  · obtain ⟨p, dx, gs, vs', B, fs, ds, out, rfl, g, bp, hp, hf, d, hl, hR, post⟩ := h
    have fin : ∀ (d : PyData) (fs' : Fs) (v : V) (σ' : L2.St) (ρ' : Ev) (B' H' : Hp), out = .ret d fs' → ρ'[0]? = some (some (.obj ⟨p, dx, C⟩ fs')) → Rep K ⟨B, H, fun a => a = p, E⟩ σ' ρ' B' H' → Dt K B' v d → Q v H' := fun d fs' v σ' ρ' B' H' e h0 r' dv => by
      subst e
      obtain ⟨v', _, ⟨gs', _, b', h', f'⟩, _⟩ := r'.ent 0 _ h0
      exact post v B' H' gs' r'.gr b' h' f' dv
    refine body cdv A outer s H E hr ⟨p, dx, C⟩ fs ds out rfl hl hR ⟨B, H, fun a => a = p, E⟩ _ B H (rep_startO (c := ⟨p, dx, C⟩) g bp hp hf d) ⟨takes_of rfl rfl rfl rfl, fun cls xs d B' H' e g' x => ?_⟩ _ ⟨fun ρ' σ' B' H' e r' _ => ?_, fun d ρ' v σ' B' H' e r' _ dv => ?_, fun _ _ _ _ z => z.elim, fun _ _ _ _ z => z.elim⟩
    · subst e; exact post d B' H' g' x
    · obtain ⟨fs', h0, e⟩ := e; exact fin _ fs' .non σ' ρ' B' H' e h0 r' .non
    · obtain ⟨fs', h0, e⟩ := e; exact fin d fs' v σ' ρ' B' H' e h0 r' dv
theorem knO_def {x qual : Str} {st : Stmt} {f C : Addr} {fd : FuncData} {N ps : List Str} {k n : Nat} {R : Fs → List PyData → OutO → Prop} (F : Fun K x qual st f fd) (S : FnScope N ps (defScope st)) (hm : mg x = some (.ref f)) (hb : L2.Binds K fd ps []) (hn : ps.length = n + 1)
    (body : ∀ (cdv : Value) (A : Around) (outer : List Env) (s : Shared) (H : Hp) (E : XK), Room k (A.deeper (envOfC qual (defScope st) s.heap.objs.size f cdv)) → ∀ (c : Ob) (fs : Fs) (ds : List PyData) (out : OutO), c.C = C → ds.length = n → R fs ds out →
      DSs (cxOf (L2.CX P w) P w K mg base N qual (defScope st) f cdv A outer s H E) (fun cl xs => out = .exc cl xs) (defBody st) { nx := fun ρ => ∃ fs', ρ[0]? = some (some (.obj c fs')) ∧ out = .ret .none fs', rt := fun d ρ => ∃ fs', ρ[0]? = some (some (.obj c fs')) ∧ out = .ret d fs' } (startO N c fs ds)) :
    Kn P w K mg base x (k + 1) (spO K C n R) := ⟨f, fd, ps, okO_def F S hn body, hm, F.kp, hb⟩
/-- nothing is asked of it -/
theorem kn_none {x qual : Str} {st : Stmt} {f : Addr} {fd : FuncData} {ps : List Str} {k : Nat} {sp : Sp} (F : Fun K x qual st f fd) (hm : mg x = some (.ref f)) (hb : L2.Binds K fd ps []) (no : ∀ vs H Q E, ¬ sp vs H Q E) : Kn P w K mg base x k sp :=
  ⟨f, fd, ps, ⟨fun vs H Q E h => absurd h (no vs H Q E), fun A outer s H args us vs Q E _ _ _ _ h => absurd h (no vs H Q E)⟩, hm, F.kp, hb⟩
theorem Kn.mono {x : Str} {j k : Nat} {sp : Sp} (F : Kn P w K mg base x j sp) (h : j ≤ k) : Kn P w K mg base x k sp := let ⟨f, fd, ps, G, a, b, c⟩ := F.ex; ⟨f, fd, ps, G.mono h, a, b, c⟩
theorem KnM.mono {C : Addr} {x : Str} {j k : Nat} {sp : Sp} (F : KnM P w K mg base C x j sp) (h : j ≤ k) : KnM P w K mg base C x k sp := let ⟨f, fd, ps, G, a, b⟩ := F.ex; ⟨⟨f, fd, ps, G.mono h, a, b⟩, F.cl⟩
end

/-! ### raise -/
section
variable {X : Cx} {W : Wx} {a b c e o : Expr} {es : List Expr} {ρ : Ev} {p pos apos : Pos} {x : Str} {C : Addr} {D : DEnds}
/-- raise X('..'), X an own class without __init__ -/
theorem ds_raise0 {m : Str} {j : Nat} {p2 : Pos} {bmB : List Value} {B newId initId : String} (F : ExcBaseFacts B newId initId bmB) (q : PySem.W.excIn X.K C bmB newId = true) (gC : X.mg x = some (.ref C)) (kC : PySem.W.keepIn X.K (.ref C) = true) (r : Raises X (.ref C)) (h : W (.ref C) [])
    (hg : Gl X x := by rfl) (hc : X.calm = true := by rfl) (hdb : (x == ("__debug__" : Str)) = false := by decide) : DS X W (.Raise (some (.Call (.Name x p) [.Constant (.str m) j p2] [] apos)) none pos) D ρ := fun O σ B H rep w T k =>
  ws_of (ps_raise hc w.tk (pmk_own F q gC kC r hg hdb)) (w.ok _ _ _ B H h rep.gr (.inl ⟨rfl, rfl⟩))
end
end Pw
namespace Pw
open PySem PySem.Spec PyProof.Rows L2

/-! ### an own exception whose __init__ stores its one argument in a field -/
def spXI (C : Addr) (f : Str) : Sp := fun vs H Q _ => ∃ (a : Addr) (v : V), vs = [.ref a, v] ∧ H a = some (exo a C none) ∧ ∀ dx : Addr, H dx = none → dx ≠ a → Q .non (upd (upd H dx (exd dx [(f, v)])) a (exo a C (some dx)))
section
variable {P : Program} {w : World} {K : PySem.W.Frag} {mg : Str → Option Value} {base : Heap}
/-- def __init__(self, f): self.f = f -/
theorem ok_xinit {qual f y : Str} {st : Stmt} {fI C : Addr} {fd : FuncData} {N : List Str} {p1 p2 p3 p4 : Pos} (F : Fun K "__init__" qual st fI fd) (S : FnScope N ["self", f] (defScope st)) (T : OexC K C) (hno : PySem.W.findIn K (.ref C) f = some none)
    (hb : defBody st = [.Assign [.Attribute (.Name "self" p1) f p2] (.Name f p3) p4])
    (hv : ∀ X : Cx, X.N = N → X.env.scope = defScope st → PE X (.Name "self" p1) (tVar 0) ∧ PE X (.Name f p3) (tVar 1)) (hs : ∀ env : Env, swapsWith (.Name f p3) (some (.Attribute (.Name "self" p1) f p2)) p4.line env = pure false := by intro _; rfl) :
    FnOk P w K mg base (L2.CX P w) 1 fI fd ["self", f] (spXI C f) := by
  refine F.okX S (fun vs H Q E h => ?_) (fun cdv A outer s H vs Q E hr h => ?_)
  · obtain ⟨a, v, rfl, _⟩ := h; rfl
  · obtain ⟨a, v, rfl, ha, k⟩ := h
    obtain ⟨h1, h2⟩ := hv (cxOf (L2.CX P w) P w K mg base N qual (defScope st) fI cdv A outer s H E) rfl rfl
    refine ⟨_, by rw [hb]; exact pss_one (ps_ost h1 h2 (hs _)), ?_⟩
    exact ⟨v, rfl, _, rfl, a, C, rfl, T, hno, .inl ⟨ha, fun dx n ne => k dx n ne⟩⟩
end
section
variable {X : Cx} {W : Wx} {a b c e o : Expr} {es : List Expr} {ρ : Ev} {p pos apos : Pos} {x f : Str} {C : Addr} {D : DEnds}
/-- raise X(e) of such a class -/
theorem ds_raise1 {fI : Addr} {fd : FuncData} {ps : List Str} (T : OexC X.K C) (iC : PySem.W.findIn X.K (.ref C) "__init__" = some (some (.ref fI))) (tI : PySem.W.typeIn X.K (.ref fI) = some (.type "function"))
    (F1 : FnOk X.prog X.w X.K X.mg X.base (L2.CX X.prog X.w) 1 fI fd ps (spXI C f)) (hr : Room 2 X.A) (hb : L2.Binds X.K fd ps []) (hm : X.mg x = some (.ref C)) (h : DE X W e ρ fun d ρ1 => W (.ref C) [(f, d)])
    (hg : Gl X x := by rfl) (hc : X.calm = true := by rfl) (hdb : (x == ("__debug__" : Str)) = false := by decide) (he : starEach [e] X.env = (false, eval e X.env) :: starEach [] X.env := by rfl) (hpl : (backTo apos (starEach [] X.env)).any (·.1) = false := by rfl) :
    DS X W (.Raise (some (.Call (.Name x p) [e] [] apos)) none pos) D ρ := fun O σ B H rep w T' k =>
  ws_of (ps_raise hc w.tk (pmk_oex T iC tI F1 hr hb .nil passL hg hm (pa_cons pe_we pa_nil he) hdb he hpl)) (h O σ B H rep w _ fun d ρ1 v B1 H1 q rep1 s1 dv => by
    refine ⟨by show 1 ≤ 1000; decide, fun a ha => ?_⟩
    refine ⟨a, v, rfl, upd_same, fun dx n ne => ⟨rfl, dx, [(f, v)], upd_same, ?_, ?_, ?_⟩⟩
    · rw [upd_ne ne, upd_same]
    · rw [upd_ne ne] at n; exact n
    · have n1 : H1 dx = none := by rw [upd_ne ne] at n; exact n
      have eH : upd (del (upd (upd (upd H1 a (exo a C none)) dx (exd dx [(f, v)])) a (exo a C (some dx))) a) dx (.xd [(f, v)]) = upd H1 dx (.xd [(f, v)]) := by
        funext b
        by_cases eb : b = dx
        · subst eb; rw [upd_same, upd_same]
        · rw [upd_ne eb, upd_ne eb]
          unfold del
          by_cases ea : b = a
          · subst ea; rw [if_pos rfl]; exact ha.symm
          · rw [if_neg ea, upd_ne ea, upd_ne eb, upd_ne ea]
      rw [eH]
      have g := gr_newM (o := .xd [(f, v)]) rep1.sub n1
      exact w.ok _ _ (some dx) _ _ q (rep1.gr.trans' g fun _ z => z.elim) (.inr ⟨dx, _, rfl, rep1.freshO n1, upd_same, .cons ⟨rfl, dv⟩ .nil⟩))
end
end Pw
namespace Pw
open PySem PySem.Spec PyProof.Rows L2
/-- a def of the text over data, at its place -/
theorem ok_def {P : Program} {w : World} {K : PySem.W.Frag} {mg : Str → Option Value} {base : Heap} {x qual : Str} {st : Stmt} {f : Addr} {fd : FuncData} {N ps : List Str} {k n : Nat} {R : List PyData → Out → Prop} (F : Fun K x qual st f fd) (S : FnScope N ps (defScope st)) (hn : ps.length = n)
    (body : ∀ (cdv : Value) (A : Around) (outer : List Env) (s : Shared) (H : Hp) (E : XK), Room k (A.deeper (envOfC qual (defScope st) s.heap.objs.size f cdv)) → ∀ (ds : List PyData) (out : Out), ds.length = n → R ds out →
      DSs (cxOf (L2.CX P w) P w K mg base N qual (defScope st) f cdv A outer s H E) (fun c xs => out = .exc c xs) (defBody st) { nx := fun _ => out = .ret .none, rt := fun d _ => out = .ret d } (startE N ds)) :
    FnOk P w K mg base (L2.CX P w) (k + 1) f fd ps (spP K n R) := by
  refine F.okX S (fun vs H Q E h => ?_) (fun cdv A outer s H vs Q E hr h => ⟨_, pss_wss, ?_⟩)
  · obtain ⟨B, ds, out, _, d, hl, _⟩ := h
    rw [dpa_len d, hl, hn]
  · obtain ⟨B, ds, out, g, d, hl, hR, post⟩ := h
    refine body cdv A outer s H E hr ds out hl hR ⟨B, H, fun _ => False, E⟩ _ B H (rep_start g d) ⟨takes_of rfl rfl rfl rfl, fun cls xs d B' H' e g' x => ?_⟩ _ ⟨fun ρ' σ' B' H' e r' _ => ?_, fun d ρ' v σ' B' H' e r' _ dv => ?_, fun _ _ _ _ z => z.elim, fun _ _ _ _ z => z.elim⟩
    · subst e; exact post d B' H' g' x
    · subst e; exact post .non B' H' r'.gr .non
    · subst e; exact post v B' H' r'.gr dv
/-- what every law promises: at every script, true -/
def RLaw (ds : List PyData) (out : Out) : Prop := ∃ ns : List Int, ns.length ≤ 1000000 ∧ ds = [scrD ns] ∧ out = .ret (.bool true)
theorem law_walk {l : PySem.W.OpenLaw} {n k : Nat} {q : Program} {loose : List Str} {XP : (Str → Option Value) → Heap → Prop} {YP : World → Heap → Prop} {d : DefRec} {K : Params → PySem.W.Frag} {x : Str} (hn : l.most = some n) (hn2 : n ≤ 1000000) (hdf : d.params.defaults = []) (hr : Room k callerA)
    (hY : ∀ (w : World) (h : Heap), YP w h → (K w.params).In h)
    (F : ∀ (w : World) (mg : Str → Option Value) (fa : Addr) (h : Heap), (K w.params).In h → h.Ns mainGlobals mg → mg d.name = some (.ref fa) →
      ∃ fd : FuncData, (∀ (s : Shared) (u : Value), BindsTo s fd ⟨[u], []⟩ [(x, u)]) ∧
        ∀ base : Heap, (K w.params).In base → base.Ns mainGlobals mg → FnOk l.prog w (K w.params) mg base (L2.CX l.prog w) k fa fd [x] (spP (K w.params) 1 RLaw)) :
    PySem.W.WalkO q loose XP YP l.row.toRowW d [] (fun f vs => PySem.call f vs) :=
  L2.walk_of (CX := fun w => L2.CX l.prog w) (sp := fun w => spP (K w.params) 1 RLaw) hn (Nat.le_trans hn2 (by decide)) hdf hr hY F
    (fun w H a ns hl _ hS => ⟨H, [scrD ns], .ret (.bool true), Same.refl H, .cons (.scr hS) .nil, rfl, ⟨ns, Nat.le_trans hl hn2, rfl, rfl⟩, fun v B' H' g dv => by cases dv; rfl⟩)
    fun w H s e s' z => by
      obtain ⟨a, B, H', cls, d, _, _, _, _, _, _, _, hE⟩ := z
      exact hE
/-! ### isinstance(x, T), T a built-in type -/
def tyD : PyData → Option String
  | .none => some "NoneType"
  | .bool _ => some "bool"
  | .int _ => some "int"
  | .str _ => some "str"
  | .list _ => some "list"
  | .tuple _ => some "tuple"
  | .dict _ => none
theorem ty_of {K : PySem.W.Frag} {B H : Hp} {v : V} {d : PyData} {s : String} (g : Same B H) (h : Dt K B v d) (e : tyD d = some s) : TyX K H v (.type s) := by
  cases h with
  | non => cases e; exact .base .non
  | bl b => cases e; exact .base (.bl b)
  | int i => cases e; exact .base (.int i)
  | str x => cases e; exact .base (.str x)
  | lst a b => cases e; exact .base (.lst (g _ _ a))
  | tup a b => cases e; exact .base (.tup (g _ _ a))
  | scr a => cases e
  | exc a b => cases e
theorem boot_isinstance : bootBuiltins "isinstance" = some (.builtin "isinstance") := by decide +kernel
section
variable {X : Cx} {W : Wx} {e : Expr} {ρ : Ev} {p p2 pos : Pos} {Q : PyData → Ev → Prop} {y : Str} {T : String}
theorem de_isi (hm : X.mg "isinstance" = none) (hmT : X.mg y = none) (hv : bootBuiltins y = some (.type T)) (h : DE X W e ρ fun d ρ1 => ∃ (s : String) (b : Bool), tyD d = some s ∧ kitB s T = some b ∧ Q (.bool b) ρ1) (hg : Gl X "isinstance" := by rfl) (hg2 : Gl X y := by rfl)
    (hn : y ≠ "__name__" := by decide) (hd : (y == ("__debug__" : Str)) = false := by decide)
    (he : starEach [e, .Name y p2] X.env = (false, eval e X.env) :: starEach [.Name y p2] X.env := by rfl) (hpl : (backTo pos (starEach [.Name y p2] X.env)).any (·.1) = false := by rfl) : DE X W (.Call (.Name "isinstance" p) [e, .Name y p2] [] pos) ρ Q := fun O σ B H rep ws R k =>
  we_of (pe_callB call_isi hg hm boot_isinstance (pa_cons pe_we (pa_cons (pe_bltn (v := .ty T) hg2 hmT hv rfl hn hd) pa_nil rfl) he) (by decide) (by decide) he hpl) (h O σ B H rep ws _ fun d ρ1 v B1 H1 ⟨s, b, ht, hk, q⟩ rep1 g1 dv => ⟨v, .ty T, _, _, b, rfl, .ty T, ty_of rep1.sub dv ht, kit_ty hk, k _ ρ1 _ B1 H1 q rep1 g1 (.bl _)⟩)
end
end Pw
namespace Pw
open PySem PySem.Spec PyProof.Rows L2
/-! ### what the laws have in common -/
theorem cut_tail (x : PyData) (xs : List PyData) : cutD (x :: xs) (some 1) none = xs := by
  unfold cutD
  rw [show HT.sIx (x :: xs).length 0 (some 1) = 1 from by rw [show ((1 : Int)) = ((1 : Nat) : Int) from rfl, HT.sIx_nat, List.length_cons]; omega]
  show List.take ((x :: xs).length - 1) xs = xs
  rw [List.length_cons, Nat.add_sub_cancel, List.take_length]
section
variable {X : Cx}
theorem md_rfind {a b : Str} : MtD X (fun x xs H Q => ∃ a b, x = .str a ∧ xs = [.str b] ∧ Q (.int (Txt.rfind a b)) H) (.str a) [.str b] (.int (Txt.rfind a b)) := fun B H v vs R g dv dvs k => by
  cases dv
  cases dvs with
  | cons d t =>
    cases t; cases d
    exact ⟨a, b, rfl, rfl, k _ B H (Gr.refl g) (.int _)⟩
theorem md_count {a b : Str} : MtD X (fun x xs H Q => ∃ a b, x = .str a ∧ xs = [.str b] ∧ Q (.int (Txt.count a b)) H) (.str a) [.str b] (.int (Txt.count a b)) := fun B H v vs R g dv dvs k => by
  cases dv
  cases dvs with
  | cons d t =>
    cases t; cases d
    exact ⟨a, b, rfl, rfl, k _ B H (Gr.refl g) (.int _)⟩
end
theorem room_un {k : Nat} {A : Around} (r : Room k A) : A.units + 64 < cLine := by have := r.un; omega
theorem len_cps (T : Str) : T.length = T.cps.toList.length := by simp [Str.length]
theorem app_list (a b : Str) : (a ++ b).cps.toList = a.cps.toList ++ b.cps.toList := by
  show (a.cps ++ b.cps).toList = _
  rw [Array.toList_append]
theorem app_len (a b : Str) : (a ++ b).length = a.length + b.length := by rw [len_cps, app_list, List.length_append, ← len_cps, ← len_cps]
theorem str_ext {a b : Str} (h : a.cps.toList = b.cps.toList) : a = b := by
  cases a; cases b
  exact congrArg Str.mk (Array.toList_inj.mp h)
theorem at_in {α : Type} (f : α → PyData) (l : List α) (dflt : α) (i : Int) (h0 : 0 ≤ i) (h : i < (l.length : Int)) : atI (l.map f) i = some (f (l.getD i.toNat dflt)) := by
  have e : i = ((i.toNat : Nat) : Int) := by omega
  have h2 : i.toNat < l.length := by omega
  rw [e]
  refine atI_nat ?_
  rw [List.getElem?_map, List.getElem?_eq_getElem h2, Int.toNat_natCast, List.getD_eq_getElem?_getD, List.getElem?_eq_getElem h2]; rfl
theorem at_mod {α : Type} (f : α → PyData) (l : List α) (dflt : α) (m b : Int) (hb : b = (l.length : Int)) (h : 0 < b) : atI (l.map f) (m % b) = some (f (l.getD (m % b).toNat dflt)) :=
  at_in f l dflt _ (Int.emod_nonneg _ (by omega)) (by rw [← hb]; exact Int.emod_lt_of_pos _ h)
theorem dec_iff {p : Prop} [Decidable p] {A B : Prop} (hy : p → A) (hn : ¬ p → B) : if decide p = true then A else B := by
  by_cases h : p
  · rw [decide_eq_true h]; exact hy h
  · rw [decide_eq_false h]; exact hn h
theorem eqi {x y : Int} {A B : Prop} (hy : x = y → A) (hn : x ≠ y → B) : if decide (V.int x = V.int y) = true then A else B := by
  by_cases h : x = y
  · rw [decide_eq_true (congrArg V.int h)]; exact hy h
  · rw [decide_eq_false fun z => h (V.int.inj z)]; exact hn h
theorem eqs {x y : Str} {A B : Prop} (hy : x = y → A) (hn : x ≠ y → B) : if decide (V.str x = V.str y) = true then A else B := by
  by_cases h : x = y
  · rw [decide_eq_true (congrArg V.str h)]; exact hy h
  · rw [decide_eq_false fun z => h (V.str.inj z)]; exact hn h
theorem eqs_yes {x y : Str} {A B : Prop} (h : x = y) (k : A) : if decide (V.str x = V.str y) = true then A else B := eqs (fun _ => k) fun z => absurd h z
theorem eqs_no {x y : Str} {A B : Prop} (h : ¬ x = y) (k : B) : if decide (V.str x = V.str y) = true then A else B := eqs (fun z => absurd z h) fun _ => k
theorem inV_strs (z : Str) : ∀ ks : List Str, inV (V.str z) ((ks.map PyData.str).map vOf) = decide (z ∈ ks)
  | [] => by rw [decide_eq_false (by simp)]; rfl
  | a :: ks => by
    show (eqV (V.str a) (V.str z) || inV (V.str z) ((ks.map PyData.str).map vOf)) = _
    rw [inV_strs z ks]
    have e : eqV (V.str a) (V.str z) = decide (z = a) := by
      show decide (a = z) = decide (z = a)
      exact decide_eq_decide.mpr ⟨Eq.symm, Eq.symm⟩
    rw [e]
    by_cases h1 : z = a
    · subst h1; simp
    · by_cases h2 : z ∈ ks <;> simp [h1, h2]
theorem flat_strs : ∀ ks : List Str, (ks.map PyData.str).all flatD = true
  | [] => rfl
  | a :: ks => by show (flatD (.str a) && (ks.map PyData.str).all flatD) = true; rw [flat_strs ks]; rfl
theorem in_strs {z : Str} (ks : List Str) {ds : List PyData} (e : ds = ks.map PyData.str) {A B : Prop} (hy : z ∈ ks → A) (hn : z ∉ ks → B) : if (if false = true then !inV (vOf (.str z)) (ds.map vOf) else inV (vOf (.str z)) (ds.map vOf)) = true then A else B := by
  subst e
  rw [if_neg Bool.false_ne_true, show vOf (.str z) = V.str z from rfl, inV_strs]
  by_cases h : z ∈ ks
  · rw [decide_eq_true h]; exact hy h
  · rw [decide_eq_false h]; exact hn h
def strsD (l : List Str) : PyData := .list (l.map .str)
theorem range_get {n i : Nat} {d : PyData} (h : (rangeD 0 n)[i]? = some d) : i < n ∧ d = .int (i : Nat) := by
  unfold rangeD at h
  rw [List.getElem?_map] at h
  have hi : i < n := by
    apply Decidable.byContradiction; intro z
    rw [List.getElem?_eq_none (by rw [List.length_range]; omega)] at h; cases h
  rw [List.getElem?_eq_getElem (by rw [List.length_range]; exact hi), List.getElem_range] at h
  cases h
  refine ⟨hi, ?_⟩
  show PyData.int (0 + (i : Int)) = _
  rw [Int.zero_add]
theorem range_len (n : Nat) : (rangeD 0 n).length = n := by unfold rangeD; rw [List.length_map, List.length_range]
def cellI (ns : List Int) (k : Int) : Int := if ns = [] then 0 else ns.getD (k % (ns.length : Int)).toNat 0
def mixI (ns : List Int) (k : Int) : Int :=
  let n1 := (cellI ns k + 104729 * (k + 1)) % 4294967291
  let n2 := n1 * 48271 % 4294967279
  (n2 / 64 * 69621 + n2) % 4294967231
theorem mix_lo (ns : List Int) (k : Int) : 0 ≤ mixI ns k := Int.emod_nonneg _ (by decide)
theorem mix_hi (ns : List Int) (k : Int) : mixI ns k < 4294967231 := Int.emod_lt_of_pos _ (by decide)
def RCell (ds : List PyData) (out : Out) : Prop := ∃ ns k, ds = [scrD ns, .int k] ∧ out = .ret (.int (cellI ns k))
def RMix (ds : List PyData) (out : Out) : Prop := ∃ ns k, ds = [scrD ns, .int k] ∧ out = .ret (.int (mixI ns k))
end Pw
namespace Pw
open PySem PySem.Spec PyProof.Rows L2
theorem nei {x y : Int} {A B : Prop} (hy : x ≠ y → A) (hn : x = y → B) : if (!decide (V.int x = V.int y)) = true then A else B := by
  by_cases h : x = y
  · rw [decide_eq_true (congrArg V.int h)]; exact hn h
  · rw [decide_eq_false fun z => h (V.int.inj z)]; exact hy h
theorem at_back (x : PyData) (xs : List PyData) : atI (xs ++ [x]) (-1) = some x := by
  have e : ixN (xs ++ [x]).length (-1) = some xs.length := by
    unfold ixN
    rw [if_neg (by decide), List.length_append, List.length_singleton, if_pos (by omega)]
    congr 1
    omega
  unfold atI
  rw [e]
  show (xs ++ [x])[xs.length]? = some x
  rw [List.getElem?_append_right (Nat.le_refl _), Nat.sub_self]
  rfl
theorem cut_init (x : PyData) (xs : List PyData) : cutD (xs ++ [x]) none (some (-1)) = xs := by
  unfold cutD
  have e : HT.sIx (xs ++ [x]).length (xs ++ [x]).length (some (-1)) = xs.length := by
    show (if (-1 : Int) < 0 then ((-1 : Int) + ((xs ++ [x]).length : Int)).toNat else min (-1 : Int).toNat (xs ++ [x]).length) = _
    rw [if_pos (by decide), List.length_append, List.length_singleton]
    omega
  rw [e]
  show List.take (xs.length - 0) (List.drop 0 (xs ++ [x])) = xs
  rw [List.drop_zero, Nat.sub_zero, List.take_left]
section
variable {X : Cx}
theorem call_sumR (hc : X.calm = true) : CallR X (.builtin "sum") (rSum X.K) := cr_sum hc
theorem dts_strs {K : PySem.W.Frag} {B : Hp} : ∀ {ss : List Str} {vs : List V}, DtAll K B vs (ss.map .str) → vs = ss.map V.str
  | [], _, h => by cases h; rfl
  | n :: ns, _, h => by
    cases h with
    | cons a t => cases a; rw [dts_strs t]; rfl
theorem md_join {a : Str} {ys : List Str} (h : (ys.map (·.length)).sum + ys.length * a.length ≤ 16777216) : MtD X (fun x xs H Q => ∃ a p, ∃ ys : List Str, x = .str a ∧ xs = [.ref p] ∧ (SqL X.K H p (ys.map V.str) ∨ SqT X.K H p (ys.map V.str)) ∧ (ys.map (·.length)).sum + ys.length * a.length ≤ 16777216 ∧ Q (.str (Txt.join a ys)) H) (.str a) [.list (ys.map .str)] (.str (Txt.join a ys)) := fun B H v vs R g dv dvs k => by
  cases dv
  cases dvs with
  | cons d t =>
    cases t
    cases d with
    | lst e f =>
      obtain rfl := dts_strs f
      exact ⟨a, _, ys, rfl, rfl, .inl (SqL.of (g _ _ e)), h, k _ B H (Gr.refl g) (.str _)⟩
end
end Pw
namespace Pw
open PySem PySem.Spec PyProof.Rows L2
/-! ### a caught exception that is kept -/
theorem kx_ok {P : Program} {w : World} {H : Hp} {h : Heap} {a C : Addr} {d : Option Addr} {oe : Obj} {vs : Array Value} (e : h.get? a = some oe) (z : Zc (.ref C) d oe) (f : oe.data = .fields vs) : ObjOk P w H h a (kxO a C d) :=
  ⟨⟨oe, vs, e, z, f⟩, ⟨oe, e⟩, fun h1 h2 ⟨o, ws, e1, z1, f1⟩ k => ⟨o, ws, k _ e1, z1, f1⟩⟩
theorem kx_at {P : Program} {w : World} {H : Hp} {h : Heap} {a C : Addr} {d : Option Addr} (hok : HOk P w H h) (e : H a = some (kxO a C d)) : ∃ oe vs, h.get? a = some oe ∧ Zc (.ref C) d oe ∧ oe.data = .fields vs := by
  have x : ObjOk P w H h a (kxO a C d) := hok a _ e
  exact x.1
section
variable {X : Cx} {pins : List (Addr × Obj)} {σ : L2.St} {H : Hp} {s0 s : Shared}
/-- from the ground on which it is not: it is tracked -/
theorem inv_hold (G : Inv X pins σ H s0) (I : Inv X pins σ H s) {a C : Addr} {d : Option Addr} {oe : Obj} {vs : Array Value} (n : s0.heap.get? a = none) (e : s.heap.get? a = some oe) (z : Zc (.ref C) d oe) (f : oe.data = .fields vs) (na : H a = none) : Inv X pins σ (upd H a (kxO a C d)) s := by
  have off : ∀ {b : Addr} {o : Obj}, s0.heap.get? b = some o → b ≠ a := fun q y => by rw [y, n] at q; cases q
  have on : ∀ {b : Addr} {o : HO}, H b = some o → b ≠ a := fun q y => by rw [y, na] at q; cases q
  refine ⟨I.ok, I.os, I.bare, ⟨I.base.keep, I.base.slot, fun b o q h0 hx => ?_, I.base.there, fun b xs q => ?_, fun b o u q => ?_, fun b ps q => ?_⟩, I.loc, I.cell, ?_, fun x c q => ?_, fun p hp => ?_, fun b o q => ?_, I.len⟩
  · obtain ⟨o', q'⟩ := G.base.there b o q hx
    rw [upd_ne (off q')]; exact I.base.free b o q h0 hx
  · have q' := I.base.tups b xs q
    rw [upd_ne (on q')]; exact q'
  · have q' := I.base.frzs b o u q
    rw [upd_ne (on q')]; exact q'
  · obtain ⟨more, q'⟩ := I.base.tbls b ps q
    exact ⟨more, by rw [upd_ne (on q')]; exact q'⟩
  · obtain ⟨m, hn, _⟩ := G.loc
    obtain ⟨oL, _, _, q, _⟩ := hn
    rw [upd_ne (off q)]; exact I.free
  · obtain ⟨v, hc⟩ := G.cell x c q
    obtain ⟨_, _, oc, q', _⟩ : ∃ (u : Unit) (t : Unit) (oc : Obj), s0.heap.get? c = some oc ∧ True := by
      cases q2 : s0.heap.get? c with
      | some oc => exact ⟨(), (), oc, rfl, trivial⟩
      | none =>
        exfalso
        have := hc
        unfold Heap.IsCell at this
        simp [q2] at this
    rw [upd_ne (off q')]; exact I.freeC x c q
  · obtain ⟨q1, q2, q3, q4, q5⟩ := I.pin p hp
    have g1 := (G.pin p hp).1
    exact ⟨q1, by rw [upd_ne (off g1)]; exact q2, q3, q4, q5⟩
  · by_cases y : b = a
    · subst y
      rw [upd_same] at q
      cases q
      exact kx_ok e z f
    · rw [upd_ne y] at q
      exact (I.hok b o q).stay (fun _ _ _ r => r) (fun c r => by rw [upd_ne (on r)]; exact r) fun c xs r => by rw [upd_ne (on r)]; exact r
end
/-- the context of an except suite whose exception is tracked -/
abbrev Cx.held (X : Cx) (a : Addr) (pn : List (Addr × Obj)) : Cx := { X with A := X.A.mark (some (.ref a)), calm := false, pn := pn, xe := fun _ _ => False }
section
variable {X : Cx} {pins : List (Addr × Obj)} {σ : L2.St} {H : Hp} {s : Shared}
theorem held_ok {X : Cx} (ok : X.Ok) (a : Addr) (pn : List (Addr × Obj)) : (Pw.Cx.held X a pn).Ok := Cx.Ok.suite ok a pn
theorem inv_held (I : Inv X pins σ H s) (a : Addr) : Inv (Pw.Cx.held X a (X.pn ++ pins)) [] σ H s :=
  ⟨held_ok I.ok a _, I.os, I.bare, I.base, I.loc, I.cell, I.free, I.freeC, fun p hp => I.pin p (by rwa [List.append_nil] at hp), I.hok, I.len⟩
theorem inv_unheld {a : Addr} {qs : List (Addr × Obj)} (I : Inv (Pw.Cx.held X a (X.pn ++ pins)) qs σ H s) (ok : X.Ok) : Inv X pins σ H s :=
  ⟨ok, I.os, I.bare, I.base, I.loc, I.cell, I.free, I.freeC, fun p hp => I.pin p (List.mem_append.mpr (.inl hp)), I.hok, I.len⟩
end
/-- what the clause wishes: an own exception of a class that it names; the suite runs with the exception tracked -/
def wKept (K : PySem.W.Frag) (c : Value) (i : Nat) (ts : TS) (D : Ends) : WX := fun cls d σ H => ∃ C : Addr, cls = .ref C ∧ PySem.W.exmOne K cls c = some true ∧
  ∀ a, H a = none → ts { nx := fun σ' H' => D.nx (σ'.set i none) H', rt := D.rt, bk := fun σ' H' => D.bk (σ'.set i none) H', ct := fun σ' H' => D.ct (σ'.set i none) H' } (σ.set i (some (.ref a))) (upd H a (kxO a C d))
section
variable {X : Cx} {x n : Str} {c : Value} {i : Nat} {body rest : List Stmt} {st₀ : Stmt} {np pos hpos : Pos} {tb : WX → TS} {ts : TS}
theorem ps_try_kept (hstk : X.stack = X.env :: X.outer) (hfm : X.env.frame = some X.env.locals) (hnd : X.N.Nodup) (hix : X.N[i]? = some n) (hloc : X.env.kindOf n = some .local) (hcl : Names X x c)
    (hbody : ∀ (W : WX) (pn : List (Addr × Obj)) (xe : Value → Shared → Prop), Takes (X.tr pn xe) W → PassesOwn (model X.prog X.w) X.A X.env xe → PSs (X.tr pn xe) body (tb W))
    (hsuite : ∀ (a : Addr) (pn : List (Addr × Obj)), PSs (Pw.Cx.held X a pn) (st₀ :: rest) ts) :
    PS X (.Try body [.ExceptHandler (some (.Name x np)) (some n) (st₀ :: rest) hpos] [] [] pos) (fun D σ H => tb (wKept X.K c i ts D) D σ H) := by
  refine ⟨fun pins s σ H D I hw => wpAny_Try_except ?_⟩
  have okX := I.ok
  have frA : X.A.frames = some (X.env :: X.outer) := okX.frames.trans (congrArg some hstk)
  refine wpAny_mono ((hbody (wKept X.K c i ts D) (X.pn ++ pins) (fun e s₁ => wpAny (model X.prog X.w) X.A (noteFrame e X.env) (fun _ s₂ => wpAny (model X.prog X.w) X.A (setFlight e none)
    (fun _ s₃ => wpAny (model X.prog X.w) X.A (handleBy e X.env [.ExceptHandler (some (.Name x np)) (some n) (st₀ :: rest) hpos]) (SP X pins D) X.xe s₃) X.xe s₂) X.xe s₁) (fun u s1 thrown => ?_) PassesOwn.looking).run [] s σ H D (I.toTry _) hw)
    (fun fl s1 hsp => ?_) fun _ _ z => z
  · obtain ⟨a, B, sG, pinsG, σ1, H1, cls, d, rfl, JG, notB, upS, sky, fresh, hos, bare, C, rfl, hmatch, hgo⟩ := thrown
    have J := JG.ofTry okX
    show wpAny (model X.prog X.w) X.A (noteFrame (.ref a) X.env) _ _ _
    refine Sky.land Zc.steady frA hfm (hstk ▸ sky) fun hA flA upA => ?_
    have JA : Inv X pins σ1 H1 { s1 with heap := hA } := J.landed notB flA.1 (upS.trans upA) hos bare
    obtain ⟨oA, vsA, atA, clsA, datA⟩ := flA.there
    have offFrames : a ∉ frs (X.env :: X.outer) := fun hm => by
      obtain ⟨_, o2, at2, nodata⟩ := flA.2.2.1.mem hm
      rw [atA] at at2
      cases at2
      exact nodata _ datA
    have ground : sG.heap.get? a = none := by
      cases q : sG.heap.get? a with
      | none => rfl
      | some o =>
        have inB := notB a o q (by rw [hstk]; exact offFrames)
        rw [flA.2.1] at inB
        cases inB
    have SA := inv_held JA a
    refine wpAny_handleBy_cons (codeAny_handlers_test ?_) fun q => nomatch q
    have looksT : PySem.W.Looks (model X.prog X.w) hA (typeOf (.ref a)) (.ref C) := fun _ _ _ _ k q => wpAny_typeOf_ref (k _ _ atA) (by rw [clsA.1]; exact q)
    have looksM := PySem.W.exm_one (M := model X.prog X.w) JA.kIn looksT hmatch
    have named : ∀ {Q : Value → Shared → Prop} {E : Value → Shared → Prop}, Q c { s1 with heap := hA } → wpAny (model X.prog X.w) (X.A.mark (some (.ref a))) (eval (.Name x np) X.env) Q E { s1 with heap := hA } := fun {Q E} q => by
      obtain ⟨gl, nodbg, hm | ⟨hm, hv, hnn⟩⟩ := hcl
      · exact ld_glob (X := Pw.Cx.held X a (X.pn ++ pins)) SA gl hm q nodbg
      · exact ld_blt (X := Pw.Cx.held X a (X.pn ++ pins)) SA gl hm hv q hnn nodbg
    refine named (looksM.here (codeAny_handlers_suite_as ?_))
    refine HandSPX.lands_againZ flA fun hB flB upB => ?_
    have JB : Inv X pins σ1 H1 { s1 with heap := hB } := J.landed notB flB.1 ((upS.trans upA).trans upB) hos bare
    obtain ⟨oB, vsB, atB, clsB, datB⟩ := flB.there
    have SB := inv_held (inv_hold J JB ground atB clsB datB fresh) a
    refine store_ok (X := Pw.Cx.held X a (X.pn ++ pins)) (v := .ref a) SB hnd hix (.inl hloc) rfl (fun s5 S5 => ?_) (.inr hloc)
    refine wpAny_mono ((hsuite a (X.pn ++ pins)).run [] s5 _ _ _ S5 (hgo a fresh)) (fun fl s6 hsp => ?_) fun _ _ z => z.elim
    have leave : ∀ {σ6 : L2.St} {H6 : Hp} {Q : Shared → Prop}, Inv (Pw.Cx.held X a (X.pn ++ pins)) [] σ6 H6 s6 → (∀ s7, Inv X pins (σ6.set i none) H6 s7 → Q s7) →
        wpAny (model X.prog X.w) X.A (do bindName X.env n .none; unbindBehindTheSuite X.env n hpos) (fun _ s7 => Q s7) X.xe s6 := fun {σ6 H6 Q} S6 hq => gone_ok (inv_unheld S6 okX) hnd hix hloc hq
    cases fl with
    | next => obtain ⟨σ6, H6, S6, q6⟩ := hsp; exact leave S6 fun s7 J7 => ⟨_, _, J7, q6⟩
    | brk => obtain ⟨σ6, H6, S6, q6⟩ := hsp; exact leave S6 fun s7 J7 => ⟨_, _, J7, q6⟩
    | cont => obtain ⟨σ6, H6, S6, q6⟩ := hsp; exact leave S6 fun s7 J7 => ⟨_, _, J7, q6⟩
    | ret u => obtain ⟨v6, σ6, H6, S6, r6, q6⟩ := hsp; exact leave S6 fun s7 J7 => ⟨_, _, _, J7, r6, q6⟩
  · cases fl with
    | next => obtain ⟨σ1, H1, J1, q⟩ := hsp; exact wpAny_execs_nil ⟨σ1, H1, J1.ofTry okX, q⟩
    | brk => obtain ⟨σ1, H1, J1, q⟩ := hsp; exact ⟨σ1, H1, J1.ofTry okX, q⟩
    | cont => obtain ⟨σ1, H1, J1, q⟩ := hsp; exact ⟨σ1, H1, J1.ofTry okX, q⟩
    | ret u => obtain ⟨v, σ1, H1, J1, r, q⟩ := hsp; exact ⟨v, σ1, H1, J1.ofTry okX, r, q⟩
end
end Pw
namespace Pw
open PySem PySem.Spec PyProof.Rows L2
/-- what a class must say, so that a kept exception of it may be asked -/
structure KxC (K : PySem.W.Frag) (D : Addr) : Prop where
  e : ExcC K D
def dictAt (H : Hp) (d : Option Addr) : Prop := d = none ∨ ∃ dx fs, d = some dx ∧ H dx = some (.xd fs)
section
variable {X : Cx}
theorem kx_inst {pins : List (Addr × Obj)} {σ : L2.St} {H : Hp} {s : Shared} (I : Inv X pins σ H s) {a D : Addr} {d : Option Addr} (h : H a = some (kxO a D d)) (hd : dictAt H d) : ∃ oe od, PySem.W.InstAt s.heap a oe D od := by
  obtain ⟨oe, vs, e1, z, f⟩ := kx_at I.hok h
  have nc : PySem.W.notCls oe = true := by unfold PySem.W.notCls; rw [f] <;> rfl
  rcases hd with rfl | ⟨dx, fs, rfl, hx⟩
  · exact ⟨oe, none, e1, z.1, nc, by rw [z.2]; trivial⟩
  · have hx' : ObjOk X.prog X.w H s.heap dx (.xd fs) := I.hok dx _ hx
    obtain ⟨mA, hns, hr⟩ := hx'
    obtain ⟨od, ho, hl⟩ := lookIn_ns hns
    exact ⟨oe, some od, e1, z.1, nc, by rw [z.2]; exact ho⟩
def rIsK (K : PySem.W.Frag) : List V → Hp → VK → Prop := fun xs H Q => ∃ (a D : Addr) (d : Option Addr) (c : V) (cv : Value) (b : Bool), xs = [.ref a, c] ∧ H a = some (kxO a D d) ∧ dictAt H d ∧ ExcC K D ∧ ClsV c cv ∧ PySem.W.kitOne K (.ref D) cv = some b ∧ Q (.bl b) H
theorem call_isK : CallR X (.builtin "isinstance") (rIsK X.K) := by
  intro pins s σ H xs us Q I r h
  obtain ⟨a, D, d, c, cv, b, rfl, ha, hd, C, hc, e, q⟩ := h
  obtain ⟨u1, u2, rfl, r1, r2⟩ := vals2 r
  cases r1
  have ec := hc.eq r2
  subst ec
  obtain ⟨oe, od, J⟩ := kx_inst I ha hd
  have hcl : (PySem.W.clsIn X.K D).isSome = true := by
    obtain ⟨cd, q2, _⟩ := PySem.W.any_some C.hd
    rw [q2]; rfl
  exact PySem.W.kia_one (PySem.W.kitx_exc (ox := oe) (od := od) hcl C.hg C.hk C.hs C.ha C.hn C.ht C.hm) I.kIn J e (fun z => nomatch z) fun tk => ⟨.bl b, H, I.kept (t' := tk) fun _ _ z => z, rfl, q⟩
/-- its field -/
def tKf (C : Addr) (f : Str) (te : TE) : TE := fun σ H Q => te σ H fun x H1 => ∃ (a dd : Addr) (fs : List (Str × V)) (v : V), x = .ref a ∧ H1 a = some (kxO a C (some dd)) ∧ H1 dd = some (.xd fs) ∧ fs.lookup f = some v ∧ Q v H1
theorem pe_kf {C : Addr} {e : Expr} {te : TE} {pos : Pos} {n : Str} (T : XfC X.K C) (hno : PySem.W.findIn X.K (.ref C) n = some none) (he : PE X e te) (hb : attributeBase e n X.env (eval e X.env) = eval e X.env := by rfl) : PE X (.Attribute e n pos) (tKf C n te) := by
  refine ⟨fun pins s σ H Q I h => attr_of hb (thn (he.run pins s σ H _ I h) fun u s1 hh => ?_)⟩
  obtain ⟨x, H1, I1, rx, a, dd, fs, v, rfl, ha, hdd, l, q⟩ := hh
  obtain rfl : u = Value.ref a := rx
  obtain ⟨oe, vs, at1, z, dat⟩ := kx_at I1.hok ha
  have hx : ObjOk X.prog X.w H1 s1.heap dd (.xd fs) := I1.hok dd _ hdd
  obtain ⟨mA, hns, hr⟩ := hx
  obtain ⟨od, ho, hl⟩ := lookIn_ns hns
  obtain ⟨u, hu, ru⟩ := RelO.some_of (v := v) (o := mA n) (by rw [← l]; exact hr n)
  have nc : PySem.W.notCls oe = true := by unfold PySem.W.notCls; rw [dat] <;> rfl
  have J : PySem.W.InstAt s1.heap a oe C (some od) := ⟨at1, z.1, nc, by rw [z.2]; exact ho⟩
  exact HandSPX.exc_get I1.kIn J T.ga T.gg T.exC (PySem.W.findObj_own T.hdC hno rfl (by rw [hl, hu])) (handed_of ru) ⟨v, H1, I1.tok _, ru, q⟩
end
end Pw
namespace Pw
open PySem PySem.Spec PyProof.Rows L2
section
variable {K : PySem.W.Frag} {O : Og} {σ : L2.St} {ρ : Ev} {B H : Hp}
/-- a slot's name goes -/
theorem Rep.gone (r : Rep K O σ ρ B H) (i : Nat) : Rep K O (σ.set i none) (ρ.set i none) B H where
  gr := r.gr
  len := by rw [List.length_set, List.length_set]; exact r.len
  ent := fun j e h => by
    by_cases c : j = i
    · subst c
      by_cases hl : j < ρ.length
      · rw [List.getElem?_set_self hl] at h; cases h
      · rw [List.getElem?_eq_none (by rw [List.length_set]; omega)] at h; cases h
    · rw [List.getElem?_set_ne (Ne.symm c)] at h
      obtain ⟨v, h1, h2⟩ := r.ent j e h
      exact ⟨v, by rw [List.getElem?_set_ne (Ne.symm c)]; exact h1, h2⟩
  sep := fun j k ej ek v hj hk mj mk sj sk => by
    have ne : ∀ {j : Nat} {e : Ent}, (ρ.set i none)[j]? = some (some e) → j ≠ i ∧ ρ[j]? = some (some e) := fun {j e} h => by
      by_cases c : j = i
      · subst c
        by_cases hl : j < ρ.length
        · rw [List.getElem?_set_self hl] at h; cases h
        · rw [List.getElem?_eq_none (by rw [List.length_set]; omega)] at h; cases h
      · rw [List.getElem?_set_ne (Ne.symm c)] at h
        exact ⟨c, h⟩
    obtain ⟨cj, hj⟩ := ne hj
    obtain ⟨ck, hk⟩ := ne hk
    rw [List.getElem?_set_ne (Ne.symm cj)] at sj
    rw [List.getElem?_set_ne (Ne.symm ck)] at sk
    exact r.sep j k ej ek v hj hk mj mk sj sk
/-- a thing that no slot changes is from now on part of what stands -/
theorem gr_keep {M : Addr → Prop} {a : Addr} {o : HO} (g : Same B H) (h : H a = some o) (m : M a) : Gr M B H (upd B a o) H := by
  refine ⟨fun b u e => ?_, fun b u e => ?_, fun _ _ _ e => e, fun _ n => n, fun b nb _ => ?_⟩
  · by_cases c : b = a
    · subst c
      have := g _ _ e
      rw [h] at this; cases this
      exact upd_same
    · rw [upd_ne c]; exact e
  · by_cases c : b = a
    · subst c; rw [upd_same] at e; cases e; exact h
    · rw [upd_ne c] at e; exact g _ _ e
  · have c : b ≠ a := fun z => nb (z ▸ m)
    exact upd_ne c
theorem ints_fs : ∀ {gs : List (Str × V)} {fs : List (Str × Int)}, FsIs K B gs (fs.map fun p => (p.1, .int p.2)) → gs = fs.map fun p => (p.1, V.int p.2)
  | _, [], h => by cases h; rfl
  | _, p :: fs, h => by
    cases h with
    | cons a t =>
      rename_i q gs
      obtain ⟨e1, e2⟩ := a
      obtain ⟨q1, q2⟩ := q
      rw [ints_fs t]
      cases e2
      have e1 : q1 = p.1 := e1
      rw [e1]; rfl
end
/-- what comes of an exception that the clause names -/
def KeptQ (X : Cx) (c : Value) (i j : Nat) (D : DEnds) (ρ : Ev) (cls : Value) (xs : Fs) : Prop := ∃ (C : Addr) (fs : List (Str × Int)), cls = .ref C ∧ xs = fs.map (fun p => (p.1, PyData.int p.2)) ∧ PySem.W.exmOne X.K (.ref C) c = some true ∧ D.nx ((ρ.set j (some (.val (excD C fs)))).set i none)
theorem kept_run {X : Cx} {c : Value} {i j : Nat} {D : DEnds} {ρ : Ev} {O : Og} {σ : L2.St} {B H : Hp} {T : Ends} {cls : Value} {xs : Fs} (hij : i ≠ j) (hi : i < σ.length) (r : Rep X.K O σ ρ B H) (k : EOk X.K O D T B) (q : KeptQ X c i j D ρ cls xs) {d : Option Addr} {B' H' : Hp} (g : Gr (fun _ => False) B H B' H') (x : XdIs X.K H B' H' d xs)
    {ts : TS} (hts : ∀ (E : Ends) (σ' : L2.St) (H1 : Hp) (v : V), σ'[i]? = some (some v) → E.nx (σ'.set j (some v)) H1 → ts E σ' H1) : wKept X.K c i ts T cls d σ H' := by
  obtain ⟨C, fs, rfl, rfl, hm, hq⟩ := q
  refine ⟨C, rfl, hm, fun a na => ?_⟩
  have r1 := r.grow g
  have r2 := r1.grow (gr_new (o := kxO a C d) r1.sub na)
  have fin : ∀ B2 : Hp, Same B B2 → Rep X.K O σ ρ B2 (upd H' a (kxO a C d)) → Dt X.K B2 (.ref a) (excD C fs) → T.nx ((((σ.set i (some (.ref a))).set j (some (.ref a)))).set i none) (upd H' a (kxO a C d)) := fun B2 s2 r3 dv => by
    have es : (((σ.set i (some (V.ref a))).set j (some (V.ref a)))).set i none = ((σ.set j (some (V.ref a))).set i none) := by
      rw [List.set_comm _ _ hij, List.set_set]
    rw [es]
    exact k.nx _ _ _ _ hq ((r3.set dv).gone i) s2
  refine hts _ _ _ (.ref a) (List.getElem?_set_self hi) ?_
  have sa : Same B (upd B' a (kxO a C d)) := g.b.trans (gr_new (o := kxO a C d) r1.sub na).b
  rcases x with ⟨rfl, e⟩ | ⟨dx, gs, rfl, n0, hx, hf⟩
  · have ef : fs = [] := by cases fs with
      | nil => rfl
      | cons p fs => cases e
    subst ef
    exact fin _ sa r2 (.exc upd_same (.inl ⟨rfl, rfl⟩))
  · obtain rfl := ints_fs hf
    have ne : dx ≠ a := fun z => by rw [z, na] at hx; cases hx
    have hx2 : upd H' a (kxO a C (some dx)) dx = some (.xd (fs.map fun p => (p.1, V.int p.2))) := by rw [upd_ne ne]; exact hx
    have g3 := gr_keep (M := fun c => c = dx) r2.sub hx2 rfl
    have r3 := r2.other g3 (fun z => mu_there r z n0) (r.freshO n0)
    refine fin _ (sa.trans g3.b) r3 (.exc ?_ (.inr ⟨dx, rfl, upd_same⟩))
    rw [upd_ne (Ne.symm ne)]; exact upd_same
section
variable {X : Cx} {W : Wx} {ρ : Ev} {D : DEnds} {f x y n cx : Str} {c : Value} {fp xp yp zp np np2 cp ep ap hpos pos tp : Pos} {k : Nat}
/-- try: f(x) / except C as n: y = n -/
theorem ds_try1 (b i j : Nat) {d1 : PyData} {R : List PyData → Out → Prop} (F : Kn X.prog X.w X.K X.mg X.base f k (spP X.K 1 R)) (hr : Room k X.A) (hcl : Names X cx c) (hb : ρ[b]? = some (some (.val d1))) (hir : ρ[i]? = some none)
    (h : ∃ out, R [d1] out ∧ match out with | .ret _ => D.nx ρ | .exc cls xs => KeptQ X c i j D ρ cls xs)
    (hij : i ≠ j) (hnd : X.N.Nodup) (hstk : X.stack = X.env :: X.outer := by rfl) (hfm : X.env.frame = some X.env.locals := by rfl) (hix : X.N[i]? = some n := by rfl) (hloc : X.env.kindOf n = some .local := by rfl) (hbx : X.N[b]? = some x := by rfl) (hjx : X.N[j]? = some y := by rfl)
    (hvx : Vis X.env.scope x := by first | exact Or.inl rfl | exact Or.inr (Or.inl rfl) | exact Or.inr (Or.inr rfl)) (hvn : Vis X.env.scope n := by first | exact Or.inl rfl | exact Or.inr (Or.inl rfl) | exact Or.inr (Or.inr rfl)) (hly : Loc X.env.scope y := by first | exact Or.inl rfl | exact Or.inr rfl)
    (hg : Gl X f := by rfl) (hdx : (x == ("__debug__" : Str)) = false := by decide) (hcx : (x == ("__classdict__" : Str)) = false := by decide) (hdn : (n == ("__debug__" : Str)) = false := by decide) (hcn : (n == ("__classdict__" : Str)) = false := by decide) (hdb : (f == ("__debug__" : Str)) = false := by decide)
    (he : starEach [.Name x xp] X.env = (false, eval (.Name x xp) X.env) :: starEach [] X.env := by rfl) (hpl : (backTo cp (starEach [] X.env)).any (·.1) = false := by rfl) (hs : swapsWith (.Call (.Name f fp) [.Name x xp] [] cp) none ep.line X.env = pure false := by rfl)
    (hs2 : swapsWith (.Name n np2) (some (.Name y yp)) ap.line X.env = pure false := by rfl) (hf2 : X.fn y = true ∨ X.env.scope.names.lookup y = some .local := by first | exact .inl rfl | exact .inr rfl) :
    DS X W (.Try [.Expr (.Call (.Name f fp) [.Name x xp] [] cp) ep] [.ExceptHandler (some (.Name cx np)) (some n) [.Assign [.Name y yp] (.Name n np2) ap] hpos] [] [] pos) D ρ := fun O σ B H r w T kk => by
  obtain ⟨fa, fd, ps, G, hm, hk, hbd⟩ := F.ex
  obtain ⟨out, hR, ho⟩ := h
  obtain ⟨v, hv, dv, _⟩ := r.ent b _ hb
  have hi : i < σ.length := by rw [r.len]; exact (List.getElem?_eq_some_iff.mp hir).1
  refine ws_of (ps_try_kept hstk hfm hnd hix hloc hcl (fun W' pn xe tk hp => pss_one (ps_expr (pe_callS (X := X.tr pn xe) G hr hg hm hk hbd (fun σ => L2.passAt tk σ) (pa_cons (pe_var hbx hvx hdx hcx) pa_nil he) hdb he hpl) hs))
    (fun a pn => pss_one (ps_set (X := Pw.Cx.held X a pn) (i := j) hnd hjx hly (pe_var hix hvn hdn hcn) hs2 hf2))) ?_
  refine ⟨v, hv, B, [d1], out, r.sub, .cons dv .nil, rfl, hR, ?_⟩
  cases out with
  | ret d => exact fun v' B' H' g dv' => kk.nx _ _ _ _ ho (r.grow g) g.b
  | exc cls xs => exact fun d B' H' g x => kept_run hij hi r kk ho g x fun E σ' H1 v e q => ⟨v, e, q⟩
/-- try: t = f(x, z) / except C as n: y = n -/
theorem ds_try2 (b b2 i j q : Nat) {d1 d2 : PyData} {R : List PyData → Out → Prop} {z t : Str} {zp tgp : Pos} (F : Kn X.prog X.w X.K X.mg X.base f k (spP X.K 2 R)) (hr : Room k X.A) (hcl : Names X cx c) (hb : ρ[b]? = some (some (.val d1))) (hb2 : ρ[b2]? = some (some (.val d2))) (hir : ρ[i]? = some none)
    (h : ∃ out, R [d1, d2] out ∧ match out with | .ret d => D.nx (ρ.set q (some (.val d))) | .exc cls xs => KeptQ X c i j D ρ cls xs)
    (hij : i ≠ j) (hnd : X.N.Nodup) (hstk : X.stack = X.env :: X.outer := by rfl) (hfm : X.env.frame = some X.env.locals := by rfl) (hix : X.N[i]? = some n := by rfl) (hloc : X.env.kindOf n = some .local := by rfl) (hbx : X.N[b]? = some x := by rfl) (hbz : X.N[b2]? = some z := by rfl) (hjx : X.N[j]? = some y := by rfl) (hqx : X.N[q]? = some t := by rfl)
    (hvx : Vis X.env.scope x := by first | exact Or.inl rfl | exact Or.inr (Or.inl rfl) | exact Or.inr (Or.inr rfl)) (hvz : Vis X.env.scope z := by first | exact Or.inl rfl | exact Or.inr (Or.inl rfl) | exact Or.inr (Or.inr rfl)) (hvn : Vis X.env.scope n := by first | exact Or.inl rfl | exact Or.inr (Or.inl rfl) | exact Or.inr (Or.inr rfl))
    (hly : Loc X.env.scope y := by first | exact Or.inl rfl | exact Or.inr rfl) (hlt : Loc X.env.scope t := by first | exact Or.inl rfl | exact Or.inr rfl)
    (hg : Gl X f := by rfl) (hdx : (x == ("__debug__" : Str)) = false := by decide) (hcx : (x == ("__classdict__" : Str)) = false := by decide) (hdz : (z == ("__debug__" : Str)) = false := by decide) (hcz : (z == ("__classdict__" : Str)) = false := by decide) (hdn : (n == ("__debug__" : Str)) = false := by decide) (hcn : (n == ("__classdict__" : Str)) = false := by decide) (hdb : (f == ("__debug__" : Str)) = false := by decide)
    (he : starEach [.Name x xp, .Name z zp] X.env = (false, eval (.Name x xp) X.env) :: starEach [.Name z zp] X.env := by rfl) (he2 : starEach [.Name z zp] X.env = (false, eval (.Name z zp) X.env) :: starEach [] X.env := by rfl) (hpl : (backTo cp (starEach [.Name z zp] X.env)).any (·.1) = false := by rfl)
    (hs : swapsWith (.Call (.Name f fp) [.Name x xp, .Name z zp] [] cp) (some (.Name t tgp)) ep.line X.env = pure false := by rfl) (hf1 : X.fn t = true ∨ X.env.scope.names.lookup t = some .local := by first | exact .inl rfl | exact .inr rfl)
    (hs2 : swapsWith (.Name n np2) (some (.Name y yp)) ap.line X.env = pure false := by rfl) (hf2 : X.fn y = true ∨ X.env.scope.names.lookup y = some .local := by first | exact .inl rfl | exact .inr rfl) :
    DS X W (.Try [.Assign [.Name t tgp] (.Call (.Name f fp) [.Name x xp, .Name z zp] [] cp) ep] [.ExceptHandler (some (.Name cx np)) (some n) [.Assign [.Name y yp] (.Name n np2) ap] hpos] [] [] pos) D ρ := fun O σ B H r w T kk => by
  obtain ⟨fa, fd, ps, G, hm, hk, hbd⟩ := F.ex
  obtain ⟨out, hR, ho⟩ := h
  obtain ⟨v, hv, dv, _⟩ := r.ent b _ hb
  obtain ⟨v2, hv2, dv2, _⟩ := r.ent b2 _ hb2
  have hi : i < σ.length := by rw [r.len]; exact (List.getElem?_eq_some_iff.mp hir).1
  refine ws_of (ps_try_kept hstk hfm hnd hix hloc hcl (fun W' pn xe tk hp => pss_one (ps_set (X := X.tr pn xe) (i := q) hnd hqx hlt (pe_callS (X := X.tr pn xe) G hr hg hm hk hbd (fun σ => L2.passAt tk σ) (pa_cons (pe_var hbx hvx hdx hcx) (pa_cons (pe_var hbz hvz hdz hcz) pa_nil he2) he) hdb he hpl) hs hf1))
    (fun a pn => pss_one (ps_set (X := Pw.Cx.held X a pn) (i := j) hnd hjx hly (pe_var hix hvn hdn hcn) hs2 hf2))) ?_
  refine ⟨v, hv, v2, hv2, B, [d1, d2], out, r.sub, .cons dv (.cons dv2 .nil), rfl, hR, ?_⟩
  cases out with
  | ret d => exact fun v' B' H' g dv' => kk.nx _ _ _ _ ho ((r.grow g).set dv') g.b
  | exc cls xs => exact fun d B' H' g x => kept_run hij hi r kk ho g x fun E σ' H1 v e q => ⟨v, e, q⟩
end
/-! what a kept exception is asked -/
theorem excD_inj {C C' : Addr} {fs fs' : List (Str × Int)} (h : excD C fs = excD C' fs') : C = C' ∧ fs = fs' := by
  have e := PyData.dict.inj h
  obtain ⟨e1, e2⟩ := List.cons.inj e
  have h1 : (C : Int) = (C' : Int) := PyData.int.inj (Prod.mk.inj e1).2
  refine ⟨Int.ofNat.inj h1, ?_⟩
  clear h e e1 h1
  induction fs generalizing fs' with
  | nil => cases fs' with
    | nil => rfl
    | cons p fs' => cases e2
  | cons p fs ih => cases fs' with
    | nil => cases e2
    | cons p' fs' =>
      obtain ⟨a, b⟩ := List.cons.inj e2
      obtain ⟨a1, a2⟩ := Prod.mk.inj a
      have a1 := PyData.str.inj a1
      have a2 := PyData.int.inj a2
      rw [ih b, show p = p' from Prod.ext a1 a2]
theorem exc_inv {K : PySem.W.Frag} {B : Hp} {v : V} {C : Addr} {fs : List (Str × Int)} (h : Dt K B v (excD C fs)) : ∃ (a : Addr) (d : Option Addr), v = .ref a ∧ B a = some (kxO a C d) ∧ (d = none ∧ fs = [] ∨ ∃ dx, d = some dx ∧ B dx = some (.xd (fs.map fun p => (p.1, V.int p.2)))) := by
  generalize ey : excD C fs = y at h
  cases h with
  | exc a b =>
    obtain ⟨rfl, rfl⟩ := excD_inj ey
    exact ⟨_, _, rfl, a, b⟩
  | scr a => exact (scr_exc ey.symm).elim
  | _ => cases ey
section
variable {X : Cx} {W : Wx} {e : Expr} {ρ : Ev} {p p2 pos : Pos} {Q : PyData → Ev → Prop} {y f : Str} {D Cc : Addr} {T : String} {fs : List (Str × Int)} {b : Bool}
theorem dict_of {B H : Hp} {d : Option Addr} (g : Same B H) (h : d = none ∧ fs = [] ∨ ∃ dx, d = some dx ∧ B dx = some (.xd (fs.map fun p => (p.1, V.int p.2)))) : dictAt H d := h.imp (fun x => x.1) fun ⟨dx, e1, e2⟩ => ⟨dx, _, e1, g _ _ e2⟩
theorem de_isKo (hm : X.mg "isinstance" = none) (hy : X.mg y = some (.ref Cc)) (C : ExcC X.K D) (hk : PySem.W.kitOne X.K (.ref D) (.ref Cc) = some b) (h : DE X W e ρ fun d ρ1 => d = excD D fs ∧ Q (.bool b) ρ1) (hg : Gl X "isinstance" := by rfl) (hg2 : Gl X y := by rfl) (hd : (y == ("__debug__" : Str)) = false := by decide)
    (he : starEach [e, .Name y p2] X.env = (false, eval e X.env) :: starEach [.Name y p2] X.env := by rfl) (hpl : (backTo pos (starEach [.Name y p2] X.env)).any (·.1) = false := by rfl) : DE X W (.Call (.Name "isinstance" p) [e, .Name y p2] [] pos) ρ Q := fun O σ B H rep ws R k =>
  we_of (pe_callB call_isK hg hm boot_isinstance (pa_cons pe_we (pa_cons (pe_glob (v := .ref Cc) hg2 hy rfl hd) pa_nil rfl) he) (by decide) (by decide) he hpl) (h O σ B H rep ws _ fun d ρ1 v B1 H1 ⟨ed, q⟩ rep1 g1 dv => by
    subst ed
    obtain ⟨a, d, rfl, h1, h2⟩ := exc_inv dv
    exact ⟨a, D, d, _, _, b, rfl, rep1.sub _ _ h1, dict_of rep1.sub h2, C, .own Cc, hk, k _ ρ1 _ B1 H1 q rep1 g1 (.bl _)⟩)
theorem de_isKt (hm : X.mg "isinstance" = none) (hy : X.mg y = none) (hv : bootBuiltins y = some (.type T)) (C : ExcC X.K D) (hk : PySem.W.kitOne X.K (.ref D) (.type T) = some b) (h : DE X W e ρ fun d ρ1 => d = excD D fs ∧ Q (.bool b) ρ1) (hg : Gl X "isinstance" := by rfl) (hg2 : Gl X y := by rfl) (hn : y ≠ "__name__" := by decide) (hd : (y == ("__debug__" : Str)) = false := by decide)
    (he : starEach [e, .Name y p2] X.env = (false, eval e X.env) :: starEach [.Name y p2] X.env := by rfl) (hpl : (backTo pos (starEach [.Name y p2] X.env)).any (·.1) = false := by rfl) : DE X W (.Call (.Name "isinstance" p) [e, .Name y p2] [] pos) ρ Q := fun O σ B H rep ws R k =>
  we_of (pe_callB call_isK hg hm boot_isinstance (pa_cons pe_we (pa_cons (pe_bltn (v := .ty T) hg2 hy hv rfl hn hd) pa_nil rfl) he) (by decide) (by decide) he hpl) (h O σ B H rep ws _ fun d ρ1 v B1 H1 ⟨ed, q⟩ rep1 g1 dv => by
    subst ed
    obtain ⟨a, d, rfl, h1, h2⟩ := exc_inv dv
    exact ⟨a, D, d, _, _, b, rfl, rep1.sub _ _ h1, dict_of rep1.sub h2, C, .ty T, hk, k _ ρ1 _ B1 H1 q rep1 g1 (.bl _)⟩)
theorem look_ints (f : Str) : ∀ fs : List (Str × Int), (fs.map fun p => (p.1, V.int p.2)).lookup f = (fs.lookup f).map V.int
  | [] => rfl
  | (g, i) :: fs => by
    rw [List.map_cons, List.lookup_cons, List.lookup_cons, look_ints f fs]
    cases f == g <;> rfl
theorem de_kf (TX : XfC X.K D) (hno : PySem.W.findIn X.K (.ref D) f = some none) (h : DE X W e ρ fun d ρ1 => d = excD D fs ∧ ∃ i, fs.lookup f = some i ∧ Q (.int i) ρ1) (hb : attributeBase e f X.env (eval e X.env) = eval e X.env := by rfl) : DE X W (.Attribute e f pos) ρ Q := fun O σ B H rep ws R k =>
  we_of (pe_kf TX hno pe_we hb) (h O σ B H rep ws _ fun d ρ1 v B1 H1 ⟨ed, i, hl, q⟩ rep1 g1 dv => by
    subst ed
    obtain ⟨a, d, rfl, h1, h2⟩ := exc_inv dv
    rcases h2 with ⟨_, e2⟩ | ⟨dx, rfl, h2⟩
    · rw [e2] at hl; cases hl
    · exact ⟨a, dx, _, .int i, rfl, rep1.sub _ _ h1, rep1.sub _ _ h2, by rw [look_ints, hl]; rfl, k _ ρ1 _ B1 H1 q rep1 g1 (.int i)⟩)
def rIsNn : R2 := fun x y H Q => y = .non ∧ Q (.bl (decide (x = .non))) H
theorem op_isNn : OpR X (compareOp .Is) rIsNn := op_isN
theorem od_isN : OpD X rIsNn .none .none (.bool true) := fun B H v u R g dv du k => by
  cases dv; cases du
  exact ⟨rfl, k _ B H (Gr.refl g) (.bl _)⟩
end
end Pw
namespace Q
open PySem PySem.Spec PyProof.Rows L2 Pw
def top (i : Nat) : Stmt := PySem.Challenge.pw_printwell_k01_laid.main.body.getD i (.Pass ⟨0, 0, 0, 0⟩)
abbrev s_BadText_init : Stmt := inClass (top 3) 0
abbrev N_BadText_init : List Str := ["self", "place"]
abbrev P_BadText_init : List Str := ["self", "place"]
theorem sc_BadText_init : FnScope N_BadText_init P_BadText_init (defScope s_BadText_init) := ⟨rfl, rfl, rfl, by decide +kernel, rfl, by decide +kernel, by decide +kernel⟩
abbrev s_Layer_init : Stmt := inClass (top 5) 0
abbrev N_Layer_init : List Str := ["self", "bits"]
abbrev P_Layer_init : List Str := ["self", "bits"]
theorem sc_Layer_init : FnScope N_Layer_init P_Layer_init (defScope s_Layer_init) := ⟨rfl, rfl, rfl, by decide +kernel, rfl, by decide +kernel, by decide +kernel⟩
abbrev s_Layer_put : Stmt := inClass (top 5) 1
abbrev N_Layer_put : List Str := ["self", "text"]
abbrev P_Layer_put : List Str := ["self", "text"]
theorem sc_Layer_put : FnScope N_Layer_put P_Layer_put (defScope s_Layer_put) := ⟨rfl, rfl, rfl, by decide +kernel, rfl, by decide +kernel, by decide +kernel⟩
abbrev s_Layer_side : Stmt := inClass (top 5) 2
abbrev N_Layer_side : List Str := ["self"]
abbrev P_Layer_side : List Str := ["self"]
theorem sc_Layer_side : FnScope N_Layer_side P_Layer_side (defScope s_Layer_side) := ⟨rfl, rfl, rfl, by decide +kernel, rfl, by decide +kernel, by decide +kernel⟩
abbrev s_Layer_lay : Stmt := inClass (top 5) 3
abbrev N_Layer_lay : List Str := ["self", "plan", "margin", "is_flat", "kind"]
abbrev P_Layer_lay : List Str := ["self", "plan", "margin", "is_flat"]
theorem sc_Layer_lay : FnScope N_Layer_lay P_Layer_lay (defScope s_Layer_lay) := ⟨rfl, rfl, rfl, by decide +kernel, rfl, by decide +kernel, by decide +kernel⟩
abbrev s_Layer_end : Stmt := inClass (top 5) 4
abbrev N_Layer_end : List Str := ["self", "kind", "margin", "is_flat"]
abbrev P_Layer_end : List Str := ["self", "kind", "margin", "is_flat"]
theorem sc_Layer_end : FnScope N_Layer_end P_Layer_end (defScope s_Layer_end) := ⟨rfl, rfl, rfl, by decide +kernel, rfl, by decide +kernel, by decide +kernel⟩
abbrev s_laid : Stmt := top 6
abbrev N_laid : List Str := ["plan", "bits", "layer"]
abbrev P_laid : List Str := ["plan", "bits"]
theorem sc_laid : FnScope N_laid P_laid (defScope s_laid) := ⟨rfl, rfl, rfl, by decide +kernel, rfl, by decide +kernel, by decide +kernel⟩
abbrev s_cell : Stmt := top 8
abbrev N_cell : List Str := ["_law_script", "_law_k"]
abbrev P_cell : List Str := ["_law_script", "_law_k"]
theorem sc_cell : FnScope N_cell P_cell (defScope s_cell) := ⟨rfl, rfl, rfl, by decide +kernel, rfl, by decide +kernel, by decide +kernel⟩
abbrev s_mix : Stmt := top 9
abbrev N_mix : List Str := ["_law_script", "_law_k", "_law_number"]
abbrev P_mix : List Str := ["_law_script", "_law_k"]
theorem sc_mix : FnScope N_mix P_mix (defScope s_mix) := ⟨rfl, rfl, rfl, by decide +kernel, rfl, by decide +kernel, by decide +kernel⟩
abbrev s_sign : Stmt := top 10
abbrev N_sign : List Str := ["_law_number", "_law_low", "_law_high"]
abbrev P_sign : List Str := ["_law_number"]
theorem sc_sign : FnScope N_sign P_sign (defScope s_sign) := ⟨rfl, rfl, rfl, by decide +kernel, rfl, by decide +kernel, by decide +kernel⟩
abbrev s_text : Stmt := top 11
abbrev N_text : List Str := ["_law_script", "_law_k", "_law_number"]
abbrev P_text : List Str := ["_law_script", "_law_k"]
theorem sc_text : FnScope N_text P_text (defScope s_text) := ⟨rfl, rfl, rfl, by decide +kernel, rfl, by decide +kernel, by decide +kernel⟩
abbrev s_plan : Stmt := top 12
abbrev N_plan : List Str := ["_law_script", "_law_k", "_law_deep", "_law_number", "_law_way", "_law_one", "_law_other"]
abbrev P_plan : List Str := ["_law_script", "_law_k", "_law_deep"]
theorem sc_plan : FnScope N_plan P_plan (defScope s_plan) := ⟨rfl, rfl, rfl, by decide +kernel, rfl, by decide +kernel, by decide +kernel⟩
abbrev s_lay : Stmt := top 13
abbrev N_lay : List Str := ["_law_plan_here", "_law_bits", "_law_text_here", "_law_margin", "_law_flat", "_law_word", "_law_first"]
abbrev P_lay : List Str := ["_law_plan_here", "_law_bits", "_law_text_here", "_law_margin", "_law_flat"]
theorem sc_lay : FnScope N_lay P_lay (defScope s_lay) := ⟨rfl, rfl, rfl, by decide +kernel, rfl, by decide +kernel, by decide +kernel⟩
abbrev s_sides : Stmt := top 14
abbrev N_sides : List Str := ["_law_plan_here", "_law_row", "_law_found", "_law_behind", "_law_more"]
abbrev P_sides : List Str := ["_law_plan_here"]
theorem sc_sides : FnScope N_sides P_sides (defScope s_sides) := ⟨rfl, rfl, rfl, by decide +kernel, rfl, by decide +kernel, by decide +kernel⟩
abbrev s_cost : Stmt := top 15
abbrev N_cost : List Str := ["_law_text_here", "_law_width", "_law_over", "_law_row"]
abbrev P_cost : List Str := ["_law_text_here", "_law_width"]
theorem sc_cost : FnScope N_cost P_cost (defScope s_cost) := ⟨rfl, rfl, rfl, by decide +kernel, rfl, by decide +kernel, by decide +kernel⟩
abbrev s_law : Stmt := top 16
abbrev N_law : List Str := ["_law_script", "_law_plan_here", "_law_rows", "_law_row", "_law_bits", "_law_way", "_law_handed", "_law_kept", "_law_text_here", "e"]
abbrev P_law : List Str := ["_law_script"]
theorem sc_law : FnScope N_law P_law (defScope s_law) := ⟨rfl, rfl, rfl, by decide +kernel, rfl, by decide +kernel, by decide +kernel⟩
end Q
namespace Q
open PySem PySem.Spec PyProof.Rows L2 Pw
/-! ### plans -/
inductive Pl where
  | text (s : Str)
  | line
  | cut
  | nest (n : Int) (p : Pl)
  | align (p : Pl)
  | flat (p : Pl)
  | choice (a b : Pl)
  | beside (a b : Pl)
def encP : Pl → PyData
  | .text s => .tuple [.str "text", .str s]
  | .line => .tuple [.str "line"]
  | .cut => .tuple [.str "cut"]
  | .nest n p => .tuple [.str "nest", .int n, encP p]
  | .align p => .tuple [.str "align", encP p]
  | .flat p => .tuple [.str "flat", encP p]
  | .choice a b => .tuple [.str "choice", encP a, encP b]
  | .beside a b => .tuple [.str "beside", encP a, encP b]
def kindP : Pl → Str
  | .text _ => "text"
  | .line => "line"
  | .cut => "cut"
  | .nest _ _ => "nest"
  | .align _ => "align"
  | .flat _ => "flat"
  | .choice _ _ => "choice"
  | .beside _ _ => "beside"
theorem enc_kindP (p : Pl) : ∃ ds, encP p = .tuple (.str (kindP p) :: ds) := by cases p <;> exact ⟨_, rfl⟩
/-! one sign, a text -/
def lowS : Str := " !\"#$&'()*+,-./0123456789:;<=>?@ABCDEFGHIJKLMNO"
def highS : Str := "PQRSTUVWXYZ[\\]^_`abcdefghijklmnopqrstuvwxyz{|}~"
def signI (n : Int) : Nat := (lowS ++ highS).cps.toList.getD (n % 94).toNat 0
def textI (ns : List Int) (k : Int) : Str := Txt.mul ⟨#[signI (mixI ns k / 8)]⟩ (([0, 1, 1, 2, 3, 5, 9, 40] : List Int).getD (mixI ns k % 8).toNat 0)
theorem signs_all : (lowS ++ highS).cps.toList.length = 94 ∧ ∀ i, i < 94 → 32 ≤ (lowS ++ highS).cps.toList.getD i 0 ∧ (lowS ++ highS).cps.toList.getD i 0 < 127 := by decide +kernel
theorem sign_ok (n : Int) : 32 ≤ signI n ∧ signI n < 127 := by
  have h1 : 0 ≤ n % 94 := Int.emod_nonneg _ (by decide)
  have h2 : n % 94 < 94 := Int.emod_lt_of_pos _ (by decide)
  exact signs_all.2 _ (by omega)
theorem fold_rep (c : Array Nat) : ∀ (n : Nat) (a : Array Nat), ((List.replicate n c).foldl (· ++ ·) a).toList = a.toList ++ (List.replicate n c.toList).flatten
  | 0, a => by simp
  | n + 1, a => by
    rw [List.replicate_succ, List.foldl_cons, fold_rep c n, List.replicate_succ, List.flatten_cons, Array.toList_append, List.append_assoc]
theorem mul_list (x : Str) (n : Int) : (Txt.mul x n).cps.toList = (List.replicate n.toNat x.cps.toList).flatten := by
  unfold Txt.mul
  by_cases h1 : n < 1
  · rw [if_pos h1, show n.toNat = 0 by omega]; rfl
  · rw [if_neg h1]
    by_cases h2 : (n == 1 || x.length == 0) = true
    · rw [if_pos h2]
      rcases Bool.or_eq_true_iff.mp h2 with h | h
      · rw [show n = 1 from by simpa using h]
        simp
      · have e : x.cps.toList = [] := List.length_eq_zero_iff.mp (by rw [← len_cps]; simpa using h)
        rw [e]
        induction n.toNat with
        | zero => rfl
        | succ k ih => rw [List.replicate_succ, List.flatten_cons, ← ih]; rfl
    · rw [if_neg h2]
      show ((List.replicate n.toNat x.cps).foldl (· ++ ·) #[]).toList = _
      rw [fold_rep]; rfl
theorem mul_one (c : Nat) (n : Int) : (Txt.mul ⟨#[c]⟩ n).cps.toList = List.replicate n.toNat c := by
  rw [mul_list]
  induction n.toNat with
  | zero => rfl
  | succ k ih => rw [List.replicate_succ, List.flatten_cons, ih, List.replicate_succ]; rfl
theorem mul_one_len (c : Nat) (n : Int) : (Txt.mul ⟨#[c]⟩ n).length = n.toNat := by rw [len_cps, mul_one, List.length_replicate]
theorem mul_ok1 {c : Nat} {n : Int} (h0 : 0 ≤ n) (h : n ≤ 10000000) : MulOk ⟨#[c]⟩ n := by
  refine ⟨?_, fun h1 h2 => ?_, fun h1 h2 => ?_⟩
  · rw [decide_eq_false (by omega), decide_eq_false (by omega)]; rfl
  · show ¬ ((1 : Int) > (2 ^ 63 - 1) / n)
    have h3 : (1 : Int) ≤ (2 ^ 63 - 1) / n := by
      rw [Int.le_ediv_iff_mul_le (by omega)]
      omega
    omega
  · have h3 : 1 * n.toNat ≤ 10000000 := by omega
    exact decide_eq_false (Nat.not_lt.mpr (Nat.le_trans h3 (by decide)))
theorem textI_ok (ns : List Int) (k : Int) : (textI ns k).length ≤ 40 ∧ ∀ c ∈ (textI ns k).cps.toList, 32 ≤ c ∧ c < 127 := by
  have h1 : 0 ≤ mixI ns k % 8 := Int.emod_nonneg _ (by decide)
  have h2 : mixI ns k % 8 < 8 := Int.emod_lt_of_pos _ (by decide)
  have h3 : ∀ i, i < 8 → (([0, 1, 1, 2, 3, 5, 9, 40] : List Int).getD i 0).toNat ≤ 40 := by decide
  constructor
  · unfold textI
    rw [mul_one_len]
    exact h3 _ (by omega)
  · intro c hc
    unfold textI at hc
    rw [mul_one] at hc
    rw [(List.mem_replicate.mp hc).2]
    exact sign_ok _
end Q
namespace Q
open PySem PySem.Spec PyProof.Rows L2 Pw
def dpP : Pl → Nat
  | .text _ => 0
  | .line => 0
  | .cut => 0
  | .nest _ p => dpP p + 1
  | .align p => dpP p + 1
  | .flat p => dpP p + 1
  | .choice a b => max (dpP a) (dpP b) + 1
  | .beside a b => max (dpP a) (dpP b) + 1
def okP : Pl → Prop
  | .text s => s.length ≤ 40 ∧ ∀ c ∈ s.cps.toList, 32 ≤ c ∧ c < 127
  | .line => True
  | .cut => True
  | .nest n p => 0 ≤ n ∧ n ≤ 40 ∧ okP p
  | .align p => okP p
  | .flat p => okP p
  | .choice a b => okP a ∧ okP b
  | .beside a b => okP a ∧ okP b
/-- the weight of a plan -/
def kw : Pl → Nat
  | .text _ => 1
  | .line => 1
  | .cut => 1
  | .nest _ p => kw p + 1
  | .align p => kw p
  | .flat p => kw p
  | .choice a b => max (kw a) (kw b) + 1
  | .beside a b => kw a + kw b
theorem kw_pos : ∀ p : Pl, 1 ≤ kw p
  | .text _ => Nat.le_refl _
  | .line => Nat.le_refl _
  | .cut => Nat.le_refl _
  | .nest _ p => Nat.le_succ_of_le (kw_pos p)
  | .align p => kw_pos p
  | .flat p => kw_pos p
  | .choice a b => Nat.le_add_left _ _
  | .beside a b => Nat.le_trans (kw_pos a) (Nat.le_add_right _ _)
/-- how long a text may grow -/
def G : Pl → Nat → Nat
  | .text s, S => S + s.length
  | .line, S => 2 * S + 1
  | .cut, S => 2 * S + 1
  | .nest n p, S => G p (S + n.toNat)
  | .align p, S => G p S
  | .flat p, S => G p S
  | .choice a b, S => max (G a S) (G b S)
  | .beside a b, S => G b (G a S)
theorem G_ge : ∀ (p : Pl) (S : Nat), S ≤ G p S
  | .text s, S => Nat.le_add_right _ _
  | .line, S => by unfold G; omega
  | .cut, S => by unfold G; omega
  | .nest n p, S => Nat.le_trans (Nat.le_add_right _ _) (G_ge p _)
  | .align p, S => G_ge p S
  | .flat p, S => G_ge p S
  | .choice a b, S => Nat.le_trans (G_ge a S) (Nat.le_max_left _ _)
  | .beside a b, S => Nat.le_trans (G_ge a S) (G_ge b _)
theorem G_cap : ∀ (p : Pl), okP p → ∀ S, G p S + 41 ≤ 2 ^ kw p * (S + 41)
  | .text s, h, S => by
    have := h.1
    show S + s.length + 41 ≤ 2 ^ 1 * (S + 41)
    omega
  | .line, _, S => by show 2 * S + 1 + 41 ≤ 2 ^ 1 * (S + 41); omega
  | .cut, _, S => by show 2 * S + 1 + 41 ≤ 2 ^ 1 * (S + 41); omega
  | .nest n p, h, S => by
    have h1 := G_cap p h.2.2 (S + n.toNat)
    have h2 := h.1
    have h3 := h.2.1
    show G p (S + n.toNat) + 41 ≤ 2 ^ (kw p + 1) * (S + 41)
    rw [Nat.pow_succ, Nat.mul_assoc]
    exact Nat.le_trans h1 (Nat.mul_le_mul_left _ (by omega))
  | .align p, h, S => G_cap p h S
  | .flat p, h, S => G_cap p h S
  | .choice a b, h, S => by
    have h1 := G_cap a h.1 S
    have h2 := G_cap b h.2 S
    show max (G a S) (G b S) + 41 ≤ 2 ^ (max (kw a) (kw b) + 1) * (S + 41)
    have h3 : 2 ^ kw a * (S + 41) ≤ 2 ^ (max (kw a) (kw b) + 1) * (S + 41) := Nat.mul_le_mul_right _ (Nat.pow_le_pow_right (by decide) (by omega))
    have h4 : 2 ^ kw b * (S + 41) ≤ 2 ^ (max (kw a) (kw b) + 1) * (S + 41) := Nat.mul_le_mul_right _ (Nat.pow_le_pow_right (by decide) (by omega))
    omega
  | .beside a b, h, S => by
    have h1 := G_cap a h.1 S
    have h2 := G_cap b h.2 (G a S)
    show G b (G a S) + 41 ≤ 2 ^ (kw a + kw b) * (S + 41)
    rw [Nat.add_comm (kw a), Nat.pow_add, Nat.mul_assoc]
    exact Nat.le_trans h2 (Nat.mul_le_mul_left _ h1)
/-! ### laid out -/
def colT (t : Str) : Int := (t.length : Int) - Txt.rfind t "\n" - 1
def lay : Pl → List Int → Str → Int → Bool → Option (Str × List Int)
  | .text s, b, t, _, _ => some (t ++ s, b)
  | .line, b, t, m, f => some (t ++ (if f = true then (" " : Str) else ("\n" : Str) ++ Txt.mul " " m), b)
  | .cut, b, t, m, f => some (t ++ (if f = true then ("" : Str) else ("\n" : Str) ++ Txt.mul " " m), b)
  | .nest n p, b, t, m, f => lay p b t (m + n) f
  | .align p, b, t, _, f => lay p b t (colT t) f
  | .flat p, b, t, m, _ => lay p b t m true
  | .choice x y, b, t, m, f => match b with
    | [] => none
    | c :: r => if c = 0 then lay x r t m f else if c = 1 then lay y r t m f else none
  | .beside x y, b, t, m, f => match lay x b t m f with
    | some (t', b') => lay y b' t' m f
    | none => none
/-- the ways to choose -/
def sidesL : Pl → List (List Int)
  | .text _ => [[]]
  | .line => [[]]
  | .cut => [[]]
  | .nest _ p => sidesL p
  | .align p => sidesL p
  | .flat p => sidesL p
  | .choice a b => (sidesL a).map ([0] ++ ·) ++ (sidesL b).map ([1] ++ ·)
  | .beside a b => (sidesL a).flatMap fun r => (sidesL b).map (r ++ ·)
theorem fm_len {α β : Type} (f : α → List β) (n : Nat) : ∀ l : List α, (∀ a ∈ l, (f a).length = n) → (l.flatMap f).length = l.length * n
  | [], _ => by simp
  | a :: l, h => by
    rw [List.flatMap_cons, List.length_append, h a List.mem_cons_self, fm_len f n l fun b hb => h b (List.mem_cons_of_mem _ hb), List.length_cons, Nat.add_mul, Nat.one_mul, Nat.add_comm]
def cntP : Pl → Nat
  | .text _ => 1
  | .line => 1
  | .cut => 1
  | .nest _ p => cntP p
  | .align p => cntP p
  | .flat p => cntP p
  | .choice a b => cntP a + cntP b
  | .beside a b => cntP a * cntP b
theorem sides_len : ∀ p : Pl, (sidesL p).length = cntP p
  | .text _ => rfl
  | .line => rfl
  | .cut => rfl
  | .nest _ p => sides_len p
  | .align p => sides_len p
  | .flat p => sides_len p
  | .choice a b => by
    show ((sidesL a).map _ ++ (sidesL b).map _).length = cntP a + cntP b
    rw [List.length_append, List.length_map, List.length_map, sides_len a, sides_len b]
  | .beside a b => by
    show ((sidesL a).flatMap _).length = cntP a * cntP b
    rw [fm_len _ (cntP b) _ fun r _ => by rw [List.length_map, sides_len b], sides_len a]
theorem cnt_pos : ∀ p : Pl, 1 ≤ cntP p
  | .text _ => Nat.le_refl _
  | .line => Nat.le_refl _
  | .cut => Nat.le_refl _
  | .nest _ p => cnt_pos p
  | .align p => cnt_pos p
  | .flat p => cnt_pos p
  | .choice a b => Nat.le_trans (cnt_pos a) (Nat.le_add_right _ _)
  | .beside a b => Nat.mul_le_mul (cnt_pos a) (cnt_pos b)
theorem cnt_cap : ∀ p : Pl, cntP p ≤ 2 ^ kw p
  | .text _ => (by decide : 1 ≤ 2 ^ 1)
  | .line => (by decide : 1 ≤ 2 ^ 1)
  | .cut => (by decide : 1 ≤ 2 ^ 1)
  | .nest _ p => Nat.le_trans (cnt_cap p) (Nat.pow_le_pow_right (by decide) (Nat.le_succ _))
  | .align p => cnt_cap p
  | .flat p => cnt_cap p
  | .choice a b => by
    have h1 := Nat.le_trans (cnt_cap a) (Nat.pow_le_pow_right (n := 2) (by decide) (Nat.le_max_left (kw a) (kw b)))
    have h2 := Nat.le_trans (cnt_cap b) (Nat.pow_le_pow_right (n := 2) (by decide) (Nat.le_max_right (kw a) (kw b)))
    show cntP a + cntP b ≤ 2 ^ (max (kw a) (kw b) + 1)
    rw [Nat.pow_succ]
    omega
  | .beside a b => by
    show cntP a * cntP b ≤ 2 ^ (kw a + kw b)
    rw [Nat.pow_add]
    exact Nat.mul_le_mul (cnt_cap a) (cnt_cap b)
/-- a row of sides is taken whole -/
theorem lay_row : ∀ (p : Pl) (row : List Int), row ∈ sidesL p → row.length ≤ kw p ∧ ∀ rest t m f, ∃ t', lay p (row ++ rest) t m f = some (t', rest)
  | .text _, row, h => by rw [List.mem_singleton.mp h]; exact ⟨Nat.zero_le _, fun rest t m f => ⟨_, rfl⟩⟩
  | .line, row, h => by rw [List.mem_singleton.mp h]; exact ⟨Nat.zero_le _, fun rest t m f => ⟨_, rfl⟩⟩
  | .cut, row, h => by rw [List.mem_singleton.mp h]; exact ⟨Nat.zero_le _, fun rest t m f => ⟨_, rfl⟩⟩
  | .nest n p, row, h => ⟨Nat.le_succ_of_le (lay_row p row h).1, fun rest t m f => (lay_row p row h).2 rest t (m + n) f⟩
  | .align p, row, h => ⟨(lay_row p row h).1, fun rest t m f => (lay_row p row h).2 rest t (colT t) f⟩
  | .flat p, row, h => ⟨(lay_row p row h).1, fun rest t m f => (lay_row p row h).2 rest t m true⟩
  | .choice a b, row, h => by
    have pa := kw_pos a
    have pb := kw_pos b
    rcases List.mem_append.mp h with h | h
    · obtain ⟨r, hr, rfl⟩ := List.mem_map.mp h
      obtain ⟨h1, h2⟩ := lay_row a r hr
      refine ⟨?_, fun rest t m f => ?_⟩
      · show (0 :: r).length ≤ max (kw a) (kw b) + 1
        rw [List.length_cons]; omega
      · obtain ⟨t', e⟩ := h2 rest t m f
        exact ⟨t', by show (if (0 : Int) = 0 then lay a (r ++ rest) t m f else if (0 : Int) = 1 then lay b (r ++ rest) t m f else none) = _; rw [if_pos rfl]; exact e⟩
    · obtain ⟨r, hr, rfl⟩ := List.mem_map.mp h
      obtain ⟨h1, h2⟩ := lay_row b r hr
      refine ⟨?_, fun rest t m f => ?_⟩
      · show (1 :: r).length ≤ max (kw a) (kw b) + 1
        rw [List.length_cons]; omega
      · obtain ⟨t', e⟩ := h2 rest t m f
        exact ⟨t', by show (if (1 : Int) = 0 then lay a (r ++ rest) t m f else if (1 : Int) = 1 then lay b (r ++ rest) t m f else none) = _; rw [if_neg (by decide), if_pos rfl]; exact e⟩
  | .beside a b, row, h => by
    obtain ⟨r, hr, h⟩ := List.mem_flatMap.mp h
    obtain ⟨u, hu, rfl⟩ := List.mem_map.mp h
    obtain ⟨h1, h2⟩ := lay_row a r hr
    obtain ⟨h3, h4⟩ := lay_row b u hu
    refine ⟨?_, fun rest t m f => ?_⟩
    · show (r ++ u).length ≤ kw a + kw b
      rw [List.length_append]; omega
    · obtain ⟨t1, e1⟩ := h2 (u ++ rest) t m f
      obtain ⟨t2, e2⟩ := h4 rest t1 m f
      refine ⟨t2, ?_⟩
      show (match lay a ((r ++ u) ++ rest) t m f with | some (t', b') => lay b b' t' m f | none => none) = _
      rw [List.append_assoc, e1]
      exact e2
/-! where the last row of a text begins -/
theorem col_ok (t : Str) : 0 ≤ colT t ∧ colT t ≤ t.length := by
  unfold colT Txt.rfind
  rcases PySem.StrLaws.last_spec t "\n" with ⟨h, _⟩ | ⟨i, h, ha, _⟩
  · rw [h]
    show 0 ≤ (t.length : Int) - (-1) - 1 ∧ (t.length : Int) - (-1) - 1 ≤ t.length
    omega
  · rw [h]
    have h1 : i + ("\n" : Str).length ≤ t.length := ha.1
    have h2 : ("\n" : Str).length = 1 := by decide +kernel
    show 0 ≤ (t.length : Int) - (i : Nat) - 1 ∧ (t.length : Int) - (i : Nat) - 1 ≤ t.length
    omega
theorem sp_eq : (" " : Str) = ⟨#[32]⟩ := by decide +kernel
theorem nl_len (m : Int) : ("\n" ++ Txt.mul " " m : Str).length = 1 + m.toNat := by
  rw [app_len, sp_eq, mul_one_len, show ("\n" : Str).length = 1 by decide +kernel]
theorem lay_len : ∀ (p : Pl) (b : List Int) (t : Str) (m : Int) (f : Bool) (t' : Str) (b' : List Int) (S : Nat), okP p → lay p b t m f = some (t', b') → t.length ≤ S → 0 ≤ m → m ≤ S → t'.length ≤ G p S
  | .text s, b, t, m, f, t', b', S, _, e, h1, _, _ => by
    cases e; rw [app_len]; show _ ≤ S + s.length; omega
  | .line, b, t, m, f, t', b', S, _, e, h1, h2, h3 => by
    cases e
    rw [app_len]
    show _ ≤ 2 * S + 1
    cases f with
    | true => rw [if_pos rfl, show (" " : Str).length = 1 by decide +kernel]; omega
    | false => rw [if_neg Bool.false_ne_true, nl_len]; omega
  | .cut, b, t, m, f, t', b', S, _, e, h1, h2, h3 => by
    cases e
    rw [app_len]
    show _ ≤ 2 * S + 1
    cases f with
    | true => rw [if_pos rfl, show ("" : Str).length = 0 by decide +kernel]; omega
    | false => rw [if_neg Bool.false_ne_true, nl_len]; omega
  | .nest n p, b, t, m, f, t', b', S, h, e, h1, h2, h3 => lay_len p b t (m + n) f t' b' _ h.2.2 e (by omega) (by have := h.1; omega) (by have := h.1; omega)
  | .align p, b, t, m, f, t', b', S, h, e, h1, h2, h3 => lay_len p b t (colT t) f t' b' S h e h1 (col_ok t).1 (by have := (col_ok t).2; omega)
  | .flat p, b, t, m, f, t', b', S, h, e, h1, h2, h3 => lay_len p b t m true t' b' S h e h1 h2 h3
  | .choice x y, b, t, m, f, t', b', S, h, e, h1, h2, h3 => by
    cases b with
    | nil => cases e
    | cons c r =>
      have e' : (if c = 0 then lay x r t m f else if c = 1 then lay y r t m f else none) = some (t', b') := e
      by_cases c0 : c = 0
      · rw [if_pos c0] at e'
        exact Nat.le_trans (lay_len x r t m f t' b' S h.1 e' h1 h2 h3) (Nat.le_max_left _ _)
      · rw [if_neg c0] at e'
        by_cases c1 : c = 1
        · rw [if_pos c1] at e'
          exact Nat.le_trans (lay_len y r t m f t' b' S h.2 e' h1 h2 h3) (Nat.le_max_right _ _)
        · rw [if_neg c1] at e'; cases e'
  | .beside x y, b, t, m, f, t', b', S, h, e, h1, h2, h3 => by
    cases q : lay x b t m f with
    | none =>
      have e' : (match lay x b t m f with | some (t', b') => lay y b' t' m f | none => none) = some (t', b') := e
      rw [q] at e'; cases e'
    | some r =>
      obtain ⟨t1, b1⟩ := r
      have e' : (match lay x b t m f with | some (t', b') => lay y b' t' m f | none => none) = some (t', b') := e
      rw [q] at e'
      have g := G_ge x S
      exact lay_len y b1 t1 m f t' b' (G x S) h.2 e' (lay_len x b t m f t1 b1 S h.1 q h1 h2 h3) h2 (by omega)
theorem lay_bits : ∀ (p : Pl) (b : List Int) (t : Str) (m : Int) (f : Bool) (t' : Str) (b' : List Int), lay p b t m f = some (t', b') → b'.length ≤ b.length
  | .text s, b, t, m, f, t', b', e => by cases e; exact Nat.le_refl _
  | .line, b, t, m, f, t', b', e => by cases e; exact Nat.le_refl _
  | .cut, b, t, m, f, t', b', e => by cases e; exact Nat.le_refl _
  | .nest n p, b, t, m, f, t', b', e => lay_bits p b t (m + n) f t' b' e
  | .align p, b, t, m, f, t', b', e => lay_bits p b t (colT t) f t' b' e
  | .flat p, b, t, m, f, t', b', e => lay_bits p b t m true t' b' e
  | .choice x y, b, t, m, f, t', b', e => by
    cases b with
    | nil => cases e
    | cons c r =>
      have e' : (if c = 0 then lay x r t m f else if c = 1 then lay y r t m f else none) = some (t', b') := e
      by_cases c0 : c = 0
      · rw [if_pos c0] at e'; exact Nat.le_succ_of_le (lay_bits x r t m f t' b' e')
      · rw [if_neg c0] at e'
        by_cases c1 : c = 1
        · rw [if_pos c1] at e'; exact Nat.le_succ_of_le (lay_bits y r t m f t' b' e')
        · rw [if_neg c1] at e'; cases e'
  | .beside x y, b, t, m, f, t', b', e => by
    cases q : lay x b t m f with
    | none =>
      have e' : (match lay x b t m f with | some (t', b') => lay y b' t' m f | none => none) = some (t', b') := e
      rw [q] at e'; cases e'
    | some r =>
      obtain ⟨t1, b1⟩ := r
      have e' : (match lay x b t m f with | some (t', b') => lay y b' t' m f | none => none) = some (t', b') := e
      rw [q] at e'
      exact Nat.le_trans (lay_bits y b1 t1 m f t' b' e') (lay_bits x b t m f t1 b1 q)
/-! ### the law's plans -/
def leafP (ns : List Int) (k : Int) : Pl := ([.text (textI ns (k + 1)), .text "ab", .line, .cut] : List Pl).getD (mixI ns k / 12 % 4).toNat .line
def planT (ns : List Int) : Nat → Int → Pl
  | 0, k => leafP ns k
  | d + 1, k =>
    if mixI ns k % 12 = 0 then leafP ns k
    else if mixI ns k % 12 = 1 then .nest (([0, 1, 2, 7, 40] : List Int).getD (mixI ns k / 12 % 5).toNat 0) (planT ns d (2 * k + 1))
    else if mixI ns k % 12 = 2 then .align (planT ns d (2 * k + 1))
    else if mixI ns k % 12 = 3 then .flat (planT ns d (2 * k + 1))
    else if mixI ns k % 12 < 5 then .choice (.flat (planT ns d (2 * k + 1))) (planT ns d (2 * k + 1))
    else if mixI ns k / 12 % 5 / 4 = 0 then .beside (planT ns d (2 * k + 1)) (planT ns d (2 * k + 2))
    else .choice (planT ns d (2 * k + 1)) (planT ns d (2 * k + 2))
theorem planT_succ {ns : List Int} {d : Nat} {k : Int} : planT ns (d + 1) k =
    if mixI ns k % 12 = 0 then leafP ns k
    else if mixI ns k % 12 = 1 then .nest (([0, 1, 2, 7, 40] : List Int).getD (mixI ns k / 12 % 5).toNat 0) (planT ns d (2 * k + 1))
    else if mixI ns k % 12 = 2 then .align (planT ns d (2 * k + 1))
    else if mixI ns k % 12 = 3 then .flat (planT ns d (2 * k + 1))
    else if mixI ns k % 12 < 5 then .choice (.flat (planT ns d (2 * k + 1))) (planT ns d (2 * k + 1))
    else if mixI ns k / 12 % 5 / 4 = 0 then .beside (planT ns d (2 * k + 1)) (planT ns d (2 * k + 2))
    else .choice (planT ns d (2 * k + 1)) (planT ns d (2 * k + 2)) := by rw [planT]
theorem leaf_okP (ns : List Int) (k : Int) : okP (leafP ns k) ∧ kw (leafP ns k) = 1 ∧ dpP (leafP ns k) = 0 := by
  have h1 : 0 ≤ mixI ns k / 12 % 4 := Int.emod_nonneg _ (by decide)
  have h2 : mixI ns k / 12 % 4 < 4 := Int.emod_lt_of_pos _ (by decide)
  unfold leafP
  generalize e : (mixI ns k / 12 % 4).toNat = j
  have hj : j < 4 := by omega
  rcases j with _ | _ | _ | _ | j
  · exact ⟨textI_ok ns (k + 1), rfl, rfl⟩
  · exact ⟨show ("ab" : Str).length ≤ 40 ∧ ∀ c ∈ ("ab" : Str).cps.toList, 32 ≤ c ∧ c < 127 by decide +kernel, rfl, rfl⟩
  · exact ⟨trivial, rfl, rfl⟩
  · exact ⟨trivial, rfl, rfl⟩
  · omega
theorem plan_ok (ns : List Int) : ∀ (d : Nat) (k : Int), okP (planT ns d k) ∧ kw (planT ns d k) ≤ 2 ^ d ∧ dpP (planT ns d k) ≤ 2 * d
  | 0, k => by
    obtain ⟨h1, h2, h3⟩ := leaf_okP ns k
    exact ⟨h1, Nat.le_of_eq h2, Nat.le_of_eq h3⟩
  | d + 1, k => by
    obtain ⟨l1, l2, l3⟩ := leaf_okP ns k
    obtain ⟨a1, a2, a3⟩ := plan_ok ns d (2 * k + 1)
    obtain ⟨b1, b2, b3⟩ := plan_ok ns d (2 * k + 2)
    have hp : 1 ≤ 2 ^ d := Nat.one_le_two_pow
    have e2 : 2 ^ (d + 1) = 2 ^ d + 2 ^ d := by rw [Nat.pow_succ]; omega
    unfold planT
    rw [e2]
    split
    · exact ⟨l1, by omega, by omega⟩
    split
    · have hn : ∀ i, i < 5 → 0 ≤ (([0, 1, 2, 7, 40] : List Int).getD i 0) ∧ (([0, 1, 2, 7, 40] : List Int).getD i 0) ≤ 40 := by decide
      have h1 : 0 ≤ mixI ns k / 12 % 5 := Int.emod_nonneg _ (by decide)
      have h2 : mixI ns k / 12 % 5 < 5 := Int.emod_lt_of_pos _ (by decide)
      have h3 := hn (mixI ns k / 12 % 5).toNat (by omega)
      exact ⟨⟨h3.1, h3.2, a1⟩, by show kw _ + 1 ≤ _; omega, by show dpP _ + 1 ≤ _; omega⟩
    split
    · exact ⟨a1, by show kw (planT ns d (2 * k + 1)) ≤ _; omega, by show dpP _ + 1 ≤ _; omega⟩
    split
    · exact ⟨a1, by show kw (planT ns d (2 * k + 1)) ≤ _; omega, by show dpP _ + 1 ≤ _; omega⟩
    split
    · exact ⟨⟨a1, a1⟩, by show max (kw (planT ns d (2 * k + 1))) (kw (planT ns d (2 * k + 1))) + 1 ≤ _; omega, by show max (dpP _ + 1) (dpP _) + 1 ≤ _; omega⟩
    split
    · exact ⟨⟨a1, b1⟩, by show kw _ + kw _ ≤ _; omega, by show max (dpP _) (dpP _) + 1 ≤ _; omega⟩
    · exact ⟨⟨a1, b1⟩, by show max (kw _) (kw _) + 1 ≤ _; omega, by show max (dpP _) (dpP _) + 1 ≤ _; omega⟩
end Q
namespace Q
open PySem PySem.Spec PyProof.Rows L2 Pw
def RSign (ds : List PyData) (out : Out) : Prop := ∃ n, ds = [.int n] ∧ out = .ret (.str ⟨#[signI n]⟩)
def RText (ds : List PyData) (out : Out) : Prop := ∃ ns k, ds = [scrD ns, .int k] ∧ out = .ret (.str (textI ns k))
def RPlan (d : Nat) (ds : List PyData) (out : Out) : Prop := ∃ ns k, ds = [scrD ns, .int k, .int (d : Nat)] ∧ out = .ret (encP (planT ns d k))
def rowD (r : List Int) : PyData := .list (r.map .int)
def RLay (n : Nat) (ds : List PyData) (out : Out) : Prop := ∃ (p : Pl) (b : List Int) (t : Str) (m : Int) (f : Bool) (t' : Str) (b' : List Int) (S : Nat), okP p ∧ dpP p ≤ n ∧ t.length ≤ S ∧ 0 ≤ m ∧ m ≤ (S : Int) ∧ G p S ≤ 4000000 ∧ b.length ≤ 1000 ∧ lay p b t m f = some (t', b') ∧
  ds = [encP p, rowD b, .str t, .int m, .bool f] ∧ out = .ret (.tuple [.str t', rowD b'])
def RSides (n : Nat) (ds : List PyData) (out : Out) : Prop := ∃ p, dpP p ≤ n ∧ kw p ≤ 20 ∧ ds = [encP p] ∧ out = .ret (.list ((sidesL p).map rowD))
theorem at_nat0 (l : List Nat) (i : Int) (h0 : 0 ≤ i) (h : i < (l.length : Int)) : atI l i = some (l.getD i.toNat 0) := by
  have e : i = ((i.toNat : Nat) : Int) := by omega
  have h2 : i.toNat < l.length := by omega
  rw [e]
  refine atI_nat ?_
  rw [List.getElem?_eq_getElem h2, Int.toNat_natCast, List.getD_eq_getElem?_getD, List.getElem?_eq_getElem h2]; rfl
theorem nl_ok {m : Int} (h0 : 0 ≤ m) (h : m ≤ 4000000) : MulOk (" " : Str) m := by rw [sp_eq]; exact mul_ok1 h0 (by omega)
section
variable {P : Program} {w : World} {K : PySem.W.Frag} {mg : Str → Option Value} {base : Heap} {f : Addr} {fd : FuncData}
theorem kn_cell (F : Fun K "_law_cell" "_law_cell" s_cell f fd) (hm : mg "_law_cell" = some (.ref f)) (hb : L2.Binds K fd P_cell []) (ml : mg "len" = none) : Kn P w K mg base "_law_cell" 1 (spP K 2 RCell) := by
  refine kn_def F sc_cell hm hb rfl fun cdv A outer s H E hr ds out hl hR => ?_
  obtain ⟨ns, k, rfl, rfl⟩ := hR
  refine dss_cons (ds_if (dt_tru (de_var 0 rfl ⟨short_scr, ?_⟩)))
  by_cases c : ns = []
  · subst c
    exact iteF (dss_nil (dss_one (ds_ret (de_int rfl))))
  · have ht : truD (scrD ns) = true := by cases ns <;> first | rfl | exact absurd rfl c
    rw [ht]
    have hp : 0 < ns.length := List.length_pos_iff.mpr c
    refine iteT (dss_one (ds_ret (de_ix (dp_scr (de_var 0 rfl ⟨ns, rfl, ?_⟩)))))
    refine de_op op_mod (de_var 1 rfl (de_cb call_lenR ml boot_len (da_cons (de_var 0 rfl (da_nil ⟨.int (ns.length : Int), cd_len lenD_scr, ⟨_, od_I (by show (0 : Int) < _; omega), _, _, rfl, at_mod .int ns 0 k _ rfl (by omega), ?_⟩⟩)))))
    unfold cellI
    rw [if_neg c]
theorem kn_mix (F : Fun K "_law_mix" "_law_mix" s_mix f fd) (hm : mg "_law_mix" = some (.ref f)) (hb : L2.Binds K fd P_mix []) (GC : Kn P w K mg base "_law_cell" 1 (spP K 2 RCell)) : Kn P w K mg base "_law_mix" 2 (spP K 2 RMix) := by
  refine kn_def F sc_mix hm hb rfl fun cdv A outer s H E hr ds out hl hR => ?_
  obtain ⟨ns, k, rfl, rfl⟩ := hR
  refine dss_cons (ds_set 2 (de_op op_mod (de_op op_add (de_call GC hr (da_cons (de_var 0 rfl (da_cons (de_var 1 rfl (da_nil ⟨rfl, _, ⟨ns, k, rfl, rfl⟩, ?_⟩)))))))) sc_mix.nd)
  refine de_op op_mul (de_int (de_op op_add (de_var 1 rfl (de_int ⟨_, od_I0, ⟨_, od_I (.inl (by decide)), ⟨_, od_I0, (de_int ⟨_, od_I (by decide), ?_⟩)⟩⟩⟩))))
  refine dss_cons (ds_set 2 (de_op op_mod (de_op op_mul (de_var 2 rfl (de_int ⟨_, od_I (.inr (by decide)), de_int ⟨_, od_I (by decide), ?_⟩⟩)))) sc_mix.nd)
  refine dss_one (ds_ret (de_op op_mod (de_op op_add (de_op op_mul (de_op op_fdiv (de_var 2 rfl (de_int ⟨_, od_I ⟨by decide, by decide⟩, (de_int ⟨_, od_I (.inr (by decide)), de_var 2 rfl ⟨_, od_I0, de_int ⟨_, od_I (by decide), ?_⟩⟩⟩)⟩)))))))
  rfl
theorem kn_sign (F : Fun K "_law_sign" "_law_sign" s_sign f fd) (hm : mg "_law_sign" = some (.ref f)) (hb : L2.Binds K fd P_sign []) : Kn P w K mg base "_law_sign" 1 (spP K 1 RSign) := by
  refine kn_def F sc_sign hm hb rfl fun cdv A outer s H E hr ds out hl hR => ?_
  obtain ⟨n, rfl, rfl⟩ := hR
  have h1 : 0 ≤ n % 94 := Int.emod_nonneg _ (by decide)
  have h2 : n % 94 < 94 := Int.emod_lt_of_pos _ (by decide)
  have hl94 := signs_all.1
  have e : (lowS ++ highS).length = 94 := by rw [len_cps, hl94]
  refine dss_cons (ds_set 1 (de_str ?_) sc_sign.nd)
  refine dss_cons (ds_set 2 (de_str ?_) sc_sign.nd)
  exact dss_one (ds_ret <| de_ixS <| de_op op_catS <| de_var 1 rfl <| de_var 2 rfl ⟨.str (lowS ++ highS), od_catS (by show lowS.length + highS.length ≤ sizeLine; rw [← app_len, e]; decide), de_op op_mod <| de_var 0 rfl <| de_int ⟨_, od_I (by decide), lowS ++ highS, _, signI n, rfl, rfl, by rw [e]; decide, at_nat0 _ _ h1 (by rw [hl94]; exact h2), rfl⟩⟩)
theorem kn_text (F : Fun K "_law_text" "_law_text" s_text f fd) (hm : mg "_law_text" = some (.ref f)) (hb : L2.Binds K fd P_text []) (GM : Kn P w K mg base "_law_mix" 2 (spP K 2 RMix)) (GS : Kn P w K mg base "_law_sign" 1 (spP K 1 RSign)) : Kn P w K mg base "_law_text" 3 (spP K 2 RText) := by
  refine kn_def F sc_text hm hb rfl fun cdv A outer s H E hr ds out hl hR => ?_
  obtain ⟨ns, k, rfl, rfl⟩ := hR
  have h1 : 0 ≤ mixI ns k % 8 := Int.emod_nonneg _ (by decide)
  have h2 : mixI ns k % 8 < 8 := Int.emod_lt_of_pos _ (by decide)
  have h3 : ∀ i, i < 8 → 0 ≤ (([0, 1, 1, 2, 3, 5, 9, 40] : List Int).getD i 0) ∧ (([0, 1, 1, 2, 3, 5, 9, 40] : List Int).getD i 0) ≤ 40 := by decide
  have h4 := h3 (mixI ns k % 8).toNat (by omega)
  refine dss_cons (ds_set 2 (de_call GM hr <| da_cons <| de_var 0 rfl <| da_cons <| de_var 1 rfl <| da_nil ⟨rfl, _, ⟨ns, k, rfl, rfl⟩, ?_⟩) sc_text.nd)
  refine dss_one (ds_ret <| de_op op_mulS <| de_call GS (hr.mono (by decide)) <| da_cons <| de_op op_fdiv <| de_var 2 rfl <| de_int ⟨_, od_I ⟨by decide, by decide⟩, da_nil ⟨rfl, _, ⟨_, rfl, rfl⟩, ?_⟩⟩)
  refine de_ix <| dp_list <| de_new <| dl_lst <| da_cons <| de_int <| da_cons <| de_int <| da_cons <| de_int <| da_cons <| de_int <| da_cons <| de_int <| da_cons <| de_int <| da_cons <| de_int <| da_cons <| de_int <| da_nil ⟨by show 8 ≤ sizeLine; decide, _, rfl, ?_⟩
  exact de_op op_mod <| de_var 2 rfl <| de_int ⟨_, od_I (by decide), _, _, rfl, at_mod PyData.int [0, 1, 1, 2, 3, 5, 9, 40] 0 _ 8 rfl (by decide), _, od_mulS (mul_ok1 h4.1 (by omega)), rfl⟩
theorem kn_plan1 (F : Fun K "_law_plan" "_law_plan" s_plan f fd) (hm : mg "_law_plan" = some (.ref f)) (hb : L2.Binds K fd P_plan []) (GM : Kn P w K mg base "_law_mix" 2 (spP K 2 RMix)) (GT : Kn P w K mg base "_law_text" 3 (spP K 2 RText)) {d k : Nat} (h2 : 3 ≤ k)
    (ih : ∀ m, d = m + 1 → Kn P w K mg base "_law_plan" k (spP K 3 (RPlan m))) : Kn P w K mg base "_law_plan" (k + 1) (spP K 3 (RPlan d)) := by
  refine kn_def F sc_plan hm hb rfl fun cdv A outer s H E hr ds out hl hR => ?_
  obtain ⟨ns, k, rfl, rfl⟩ := hR
  refine dss_cons (ds_set 3 (de_call GM (hr.mono (by omega)) <| da_cons <| de_var 0 rfl <| da_cons <| de_var 1 rfl <| da_nil ⟨rfl, _, ⟨ns, k, rfl, rfl⟩, ?_⟩) sc_plan.nd)
  refine dss_cons (ds_set 4 (de_op op_mod <| de_var 3 rfl <| de_int ⟨_, od_I (by decide), ?_⟩) sc_plan.nd)
  have leaf : planT ns d k = leafP ns k → ∀ D : DEnds, (∀ d' ρ, Out.ret (encP (planT ns d k)) = .ret d' → D.rt d' ρ) → DSs (cxOf (L2.CX P w) P w K mg base N_plan "_law_plan" (defScope s_plan) f cdv A outer s H E) (fun c xs => Out.ret (encP (planT ns d k)) = .exc c xs) (match (defBody s_plan).getD 2 (.Pass ⟨0, 0, 0, 0⟩) with | .If _ b _ _ => b | _ => [])
      D [some (.val (scrD ns)), some (.val (.int k)), some (.val (.int (d : Nat))), some (.val (.int (mixI ns k))), some (.val (.int (mixI ns k % 12))), none, none] := fun e D hD => by
    rw [e] at hD ⊢
    refine dss_one (ds_ret <| de_ix <| dp_list <| de_new <| dl_lst <| da_cons <| de_tup <| da_cons <| de_str <| da_cons <| de_call GT (hr.mono h2) <| da_cons <| de_var 0 rfl <| da_cons <| de_op op_add <| de_var 1 rfl <| de_int ⟨_, od_I0, da_nil ⟨rfl, _, ⟨ns, _, rfl, rfl⟩, da_nil ⟨by show 2 ≤ sizeLine; decide, ?_⟩⟩⟩)
    refine da_cons <| de_tup <| da_cons <| de_str <| da_cons <| de_str <| da_nil ⟨by show 2 ≤ sizeLine; decide, ?_⟩
    refine da_cons <| de_tup <| da_cons <| de_str <| da_nil ⟨by show 1 ≤ sizeLine; decide, ?_⟩
    refine da_cons <| de_tup <| da_cons <| de_str <| da_nil ⟨by show 1 ≤ sizeLine; decide, ?_⟩
    refine da_nil ⟨by show 4 ≤ sizeLine; decide, _, rfl, de_op op_mod <| de_op op_fdiv <| de_var 3 rfl <| de_int ⟨_, od_I ⟨by decide, by decide⟩, de_int ⟨_, od_I (by decide), _, _, rfl, at_mod encP [.text (textI ns (k + 1)), .text "ab", .line, .cut] .line _ 4 rfl (by decide), ?_⟩⟩⟩
    exact hD _ _ rfl
  refine dss_cons (ds_if <| dt_w <| dw_or <| dt_cmp op_eq (de_var 2 rfl <| de_int ⟨_, od_eq rfl rfl rfl, ?_⟩) (nomark _))
  refine eqi (fun c => ?_) fun c => ?_
  · exact leaf (by cases d with | zero => rfl | succ d => omega) _ fun _ _ z => z
  refine dw_or1 <| dt_cmp op_eq (de_var 4 rfl <| de_int ⟨_, od_eq rfl rfl rfl, ?_⟩) (nomark _)
  obtain ⟨m, rfl⟩ : ∃ m, d = m + 1 := ⟨d - 1, by omega⟩
  refine eqi (fun c2 => ?_) fun c2 => ?_
  · exact leaf (by rw [planT_succ, if_pos c2]) _ fun _ _ z => z
  have ih := ih m rfl
  have e1 : (((m + 1 : Nat) : Int) - 1) = ((m : Nat) : Int) := by omega
  refine dss_nil <| dss_cons (ds_set 5 (de_call ih hr <| da_cons <| de_var 0 rfl <| da_cons <| de_op op_add <| de_op op_mul <| de_int <| de_var 1 rfl ⟨_, od_I (.inl (by decide)), de_int ⟨_, od_I0, da_cons <| de_op op_sub <| de_var 2 rfl <| de_int ⟨_, od_I0, da_nil ⟨rfl, _, ⟨ns, _, by rw [e1], rfl⟩, ?_⟩⟩⟩⟩) sc_plan.nd)
  refine dss_cons (ds_if <| dt_cmp op_eq (de_var 4 rfl <| de_int ⟨_, od_eq rfl rfl rfl, ?_⟩) (nomark _))
  refine eqi (fun w1 => ?_) fun w1 => dss_nil ?_
  · refine dss_one (ds_ret <| de_tup <| da_cons <| de_str <| da_cons <| de_ix <| dp_list <| de_new <| dl_lst <| da_cons <| de_int <| da_cons <| de_int <| da_cons <| de_int <| da_cons <| de_int <| da_cons <| de_int <| da_nil ⟨by show 5 ≤ sizeLine; decide, _, rfl, ?_⟩)
    refine de_op op_mod <| de_op op_fdiv <| de_var 3 rfl <| de_int ⟨_, od_I ⟨by decide, by decide⟩, de_int ⟨_, od_I (by decide), _, _, rfl, at_mod PyData.int [0, 1, 2, 7, 40] 0 _ 5 rfl (by decide), da_cons <| de_var 5 rfl <| da_nil ⟨by show 3 ≤ sizeLine; decide, ?_⟩⟩⟩
    show Out.ret (encP (planT ns (m + 1) k)) = _
    rw [planT_succ, if_neg c2, if_pos w1]
    rfl
  refine dss_cons (ds_if <| dt_cmp op_eq (de_var 4 rfl <| de_int ⟨_, od_eq rfl rfl rfl, ?_⟩) (nomark _))
  refine eqi (fun w2 => ?_) fun w2 => dss_nil ?_
  · refine dss_one (ds_ret <| de_tup <| da_cons <| de_str <| da_cons <| de_var 5 rfl <| da_nil ⟨by show 2 ≤ sizeLine; decide, ?_⟩)
    show Out.ret (encP (planT ns (m + 1) k)) = _
    rw [planT_succ, if_neg c2, if_neg w1, if_pos w2]
    rfl
  refine dss_cons (ds_if <| dt_cmp op_eq (de_var 4 rfl <| de_int ⟨_, od_eq rfl rfl rfl, ?_⟩) (nomark _))
  refine eqi (fun w3 => ?_) fun w3 => dss_nil ?_
  · refine dss_one (ds_ret <| de_tup <| da_cons <| de_str <| da_cons <| de_var 5 rfl <| da_nil ⟨by show 2 ≤ sizeLine; decide, ?_⟩)
    show Out.ret (encP (planT ns (m + 1) k)) = _
    rw [planT_succ, if_neg c2, if_neg w1, if_neg w2, if_pos w3]
    rfl
  refine dss_cons (ds_if <| dt_cmp op_lt (de_var 4 rfl <| de_int ⟨_, od_B0, ?_⟩) (nomark _))
  refine dec_iff (fun w4 => ?_) fun w4 => dss_nil ?_
  · refine dss_one (ds_ret <| de_tup <| da_cons <| de_str <| da_cons <| de_tup <| da_cons <| de_str <| da_cons <| de_var 5 rfl <| da_nil ⟨by show 2 ≤ sizeLine; decide, da_cons <| de_var 5 rfl <| da_nil ⟨by show 3 ≤ sizeLine; decide, ?_⟩⟩)
    show Out.ret (encP (planT ns (m + 1) k)) = _
    rw [planT_succ, if_neg c2, if_neg w1, if_neg w2, if_neg w3, if_pos w4]
    rfl
  refine dss_cons (ds_set 6 (de_call ih hr <| da_cons <| de_var 0 rfl <| da_cons <| de_op op_add <| de_op op_mul <| de_int <| de_var 1 rfl ⟨_, od_I (.inl (by decide)), de_int ⟨_, od_I0, da_cons <| de_op op_sub <| de_var 2 rfl <| de_int ⟨_, od_I0, da_nil ⟨rfl, _, ⟨ns, _, by rw [e1], rfl⟩, ?_⟩⟩⟩⟩) sc_plan.nd)
  have q1 : 0 ≤ mixI ns k / 12 % 5 := Int.emod_nonneg _ (by decide)
  have q2 : mixI ns k / 12 % 5 < 5 := Int.emod_lt_of_pos _ (by decide)
  refine dss_one (ds_ret <| de_tup <| da_cons <| de_ix <| dp_list <| de_new <| dl_lst <| da_cons <| de_str <| da_cons <| de_str <| da_nil ⟨by show 2 ≤ sizeLine; decide, _, rfl, ?_⟩)
  refine de_op op_fdiv <| de_op op_mod <| de_op op_fdiv <| de_var 3 rfl <| de_int ⟨_, od_I ⟨by decide, by decide⟩, de_int ⟨_, od_I (by decide), de_int ⟨_, od_I ⟨by decide, by decide⟩, _, _, rfl, at_in PyData.str ["beside", "choice"] "" _ (by omega) (by show _ < (2 : Int); omega), ?_⟩⟩⟩
  refine da_cons <| de_var 5 rfl <| da_cons <| de_var 6 rfl <| da_nil ⟨by show 3 ≤ sizeLine; decide, ?_⟩
  show Out.ret (encP (planT ns (m + 1) k)) = _
  rw [planT_succ, if_neg c2, if_neg w1, if_neg w2, if_neg w3, if_neg w4]
  by_cases q3 : mixI ns k / 12 % 5 / 4 = 0
  · rw [if_pos q3, q3]; rfl
  · rw [if_neg q3, show mixI ns k / 12 % 5 / 4 = 1 by omega]; rfl
theorem kn_plan (F : Fun K "_law_plan" "_law_plan" s_plan f fd) (hm : mg "_law_plan" = some (.ref f)) (hb : L2.Binds K fd P_plan []) (GM : Kn P w K mg base "_law_mix" 2 (spP K 2 RMix)) (GT : Kn P w K mg base "_law_text" 3 (spP K 2 RText)) : ∀ d, Kn P w K mg base "_law_plan" (d + 4) (spP K 3 (RPlan d)) := by
  intro d
  induction d with
  | zero => exact kn_plan1 F hm hb GM GT (Nat.le_refl 3) fun m e => by omega
  | succ d ih => exact kn_plan1 F hm hb GM GT (k := d + 4) (by omega) fun m e => Nat.succ.inj e ▸ ih
end
end Q
namespace Q
open PySem PySem.Spec PyProof.Rows L2 Pw
section
variable {P : Program} {w : World} {K : PySem.W.Frag} {mg : Str → Option Value} {base : Heap} {f : Addr} {fd : FuncData}
theorem kn_lay1 (F : Fun K "_law_lay" "_law_lay" s_lay f fd) (hm : mg "_law_lay" = some (.ref f)) (hb : L2.Binds K fd P_lay []) (mL : mg "len" = none) (mI : mg "int" = none) {n k : Nat}
    (ih : ∀ m, n = m + 1 → Kn P w K mg base "_law_lay" k (spP K 5 (RLay m))) : Kn P w K mg base "_law_lay" (k + 1) (spP K 5 (RLay n)) := by
  refine kn_def F sc_lay hm hb rfl fun cdv A outer s H E hr ds out hl hR => ?_
  obtain ⟨p, b, t, m, f, t', b', S, hok, hdp, ht, hm0, hmS, hG, hbl, hlay, rfl, rfl⟩ := hR
  have hS : S ≤ 4000000 := Nat.le_trans (G_ge p S) hG
  have hbz : (b.map PyData.int).length ≤ sizeLine := by rw [List.length_map]; exact Nat.le_trans hbl (by decide)
  cases p with
  | text z =>
    refine dss_cons (ds_set 5 (de_ix <| dp_tup <| de_var 0 rfl ⟨_, rfl, de_int ⟨_, _, rfl, rfl, ?_⟩⟩) sc_lay.nd)
    refine dss_cons (ds_if <| dt_cmp op_eq (de_var 5 rfl <| de_str ⟨_, od_eq rfl rfl rfl, ?_⟩) (nomark _))
    refine eqs_yes (by decide +kernel) ?_
    cases hlay
    have hz := hok.1
    exact dss_one (ds_ret <| de_tup <| da_cons <| de_op op_catS <| de_var 2 rfl <| de_ix <| dp_tup <| de_var 0 rfl ⟨_, rfl, de_int ⟨_, _, rfl, rfl, _, od_catS (Nat.le_trans (show _ ≤ 5000000 by omega) (by decide)), da_cons <| de_var 1 rfl <| da_nil ⟨by show 2 ≤ sizeLine; decide, rfl⟩⟩⟩)
  | line =>
    refine dss_cons (ds_set 5 (de_ix <| dp_tup <| de_var 0 rfl ⟨_, rfl, de_int ⟨_, _, rfl, rfl, ?_⟩⟩) sc_lay.nd)
    refine dss_cons (ds_if <| dt_cmp op_eq (de_var 5 rfl <| de_str ⟨_, od_eq rfl rfl rfl, ?_⟩) (nomark _))
    refine eqs_no (by decide +kernel) (dss_nil ?_)
    refine dss_cons (ds_if <| dt_cmp op_in_seq (de_var 5 rfl <| de_tup <| da_cons <| de_str <| da_cons <| de_str <| da_nil ⟨by show 2 ≤ sizeLine; decide, _, od_inT rfl rfl, ?_⟩) (by rfl))
    refine in_strs ["line", "cut"] rfl (fun _ => ?_) fun c => absurd c (by decide +kernel)
    cases hlay
    refine dss_one (ds_ret <| de_tup <| da_cons <| de_op op_catS <| de_var 2 rfl <| de_if <| dt_val <| de_var 4 rfl ⟨f, rfl, ?_⟩)
    cases f with
    | true =>
      refine iteT <| de_ix <| dp_list <| de_new <| dl_lst <| da_cons <| de_str <| da_cons <| de_str <| da_nil ⟨by show 2 ≤ sizeLine; decide, _, rfl, de_ct call_intR mI boot_int <| da_cons <| de_cmp op_eq (de_var 5 rfl <| de_str ⟨_, od_eq rfl rfl rfl, da_nil ⟨_, cd_intB, ?_⟩⟩) (by rfl)⟩
      refine ⟨_, .str " ", rfl, by rfl, _, od_catS (Nat.le_trans (show _ + _ ≤ 5000000 by rw [show (" " : Str).length = 1 by decide +kernel]; omega) (by decide)), da_cons <| de_var 1 rfl <| da_nil ⟨by show 2 ≤ sizeLine; decide, rfl⟩⟩
    | false =>
      refine iteF <| de_op op_catS <| de_str <| de_op op_mulS <| de_str <| de_var 3 rfl ⟨_, od_mulS (nl_ok hm0 (by omega)), _, od_catS ?_, _, od_catS ?_, da_cons <| de_var 1 rfl <| da_nil ⟨by show 2 ≤ sizeLine; decide, rfl⟩⟩
      · rw [← app_len, nl_len]; exact Nat.le_trans (show _ ≤ 5000000 by omega) (by decide)
      · rw [nl_len]; exact Nat.le_trans (show _ ≤ 9000000 by omega) (by decide)
  | cut =>
    refine dss_cons (ds_set 5 (de_ix <| dp_tup <| de_var 0 rfl ⟨_, rfl, de_int ⟨_, _, rfl, rfl, ?_⟩⟩) sc_lay.nd)
    refine dss_cons (ds_if <| dt_cmp op_eq (de_var 5 rfl <| de_str ⟨_, od_eq rfl rfl rfl, ?_⟩) (nomark _))
    refine eqs_no (by decide +kernel) (dss_nil ?_)
    refine dss_cons (ds_if <| dt_cmp op_in_seq (de_var 5 rfl <| de_tup <| da_cons <| de_str <| da_cons <| de_str <| da_nil ⟨by show 2 ≤ sizeLine; decide, _, od_inT rfl rfl, ?_⟩) (by rfl))
    refine in_strs ["line", "cut"] rfl (fun _ => ?_) fun c => absurd c (by decide +kernel)
    cases hlay
    refine dss_one (ds_ret <| de_tup <| da_cons <| de_op op_catS <| de_var 2 rfl <| de_if <| dt_val <| de_var 4 rfl ⟨f, rfl, ?_⟩)
    cases f with
    | true =>
      refine iteT <| de_ix <| dp_list <| de_new <| dl_lst <| da_cons <| de_str <| da_cons <| de_str <| da_nil ⟨by show 2 ≤ sizeLine; decide, _, rfl, de_ct call_intR mI boot_int <| da_cons <| de_cmp op_eq (de_var 5 rfl <| de_str ⟨_, od_eq rfl rfl rfl, da_nil ⟨_, cd_intB, ?_⟩⟩) (by rfl)⟩
      refine ⟨_, .str "", rfl, by rfl, _, od_catS (Nat.le_trans (show _ + _ ≤ 5000000 by rw [show ("" : Str).length = 0 by decide +kernel]; omega) (by decide)), da_cons <| de_var 1 rfl <| da_nil ⟨by show 2 ≤ sizeLine; decide, rfl⟩⟩
    | false =>
      refine iteF <| de_op op_catS <| de_str <| de_op op_mulS <| de_str <| de_var 3 rfl ⟨_, od_mulS (nl_ok hm0 (by omega)), _, od_catS ?_, _, od_catS ?_, da_cons <| de_var 1 rfl <| da_nil ⟨by show 2 ≤ sizeLine; decide, rfl⟩⟩
      · rw [← app_len, nl_len]; exact Nat.le_trans (show _ ≤ 5000000 by omega) (by decide)
      · rw [nl_len]; exact Nat.le_trans (show _ ≤ 9000000 by omega) (by decide)
  | beside x y =>
    obtain ⟨d, rfl⟩ : ∃ d, n = d + 1 := ⟨n - 1, by have h0 := hdp; unfold dpP at h0; omega⟩
    have ih := ih d rfl
    have hd := Nat.le_of_succ_le_succ (show _ + 1 ≤ d + 1 from hdp)
    obtain ⟨hx, hy⟩ := hok
    cases e1 : lay x b t m f with
    | none =>
      have e2 : (match lay x b t m f with | some (t', b') => lay y b' t' m f | none => none) = some (t', b') := hlay
      rw [e1] at e2; cases e2
    | some r =>
      obtain ⟨t1, b1⟩ := r
      have e2 : (match lay x b t m f with | some (t', b') => lay y b' t' m f | none => none) = some (t', b') := hlay
      rw [e1] at e2
      have g := G_ge x S
      have hb1 : b1.length ≤ b.length := lay_bits x _ _ _ _ _ _ e1
      refine dss_cons (ds_set 5 (de_ix <| dp_tup <| de_var 0 rfl ⟨_, rfl, de_int ⟨_, _, rfl, rfl, ?_⟩⟩) sc_lay.nd)
      refine dss_cons (ds_if <| dt_cmp op_eq (de_var 5 rfl <| de_str ⟨_, od_eq rfl rfl rfl, ?_⟩) (nomark _))
      refine eqs_no (by decide +kernel) (dss_nil ?_)
      refine dss_cons (ds_if <| dt_cmp op_in_seq (de_var 5 rfl <| de_tup <| da_cons <| de_str <| da_cons <| de_str <| da_nil ⟨by show 2 ≤ sizeLine; decide, _, od_inT rfl rfl, ?_⟩) (by rfl))
      refine in_strs ["line", "cut"] rfl (fun c => absurd c (by decide +kernel)) fun _ => dss_nil ?_
      refine dss_cons (ds_if <| dt_cmp op_eq (de_var 5 rfl <| de_str ⟨_, od_eq rfl rfl rfl, ?_⟩) (nomark _))
      refine eqs_yes (by decide +kernel) ?_
      refine dss_cons (ds_set 6 (de_call ih hr <| da_cons <| de_ix <| dp_tup <| de_var 0 rfl ⟨_, rfl, de_int ⟨_, _, rfl, rfl, da_cons <| de_var 1 rfl <| da_cons <| de_var 2 rfl <| da_cons <| de_var 3 rfl <| da_cons <| de_var 4 rfl <| da_nil ⟨rfl, _, ⟨x, b, t, m, f, t1, b1, S, hx, by omega, ht, hm0, hmS, Nat.le_trans (G_ge y _) hG, hbl, e1, rfl, rfl⟩, ?_⟩⟩⟩) sc_lay.nd)
      refine dss_one (ds_ret <| de_call ih hr <| da_cons <| de_ix <| dp_tup <| de_var 0 rfl ⟨_, rfl, de_int ⟨_, _, rfl, rfl, da_cons <| de_ix <| dp_tup <| de_var 6 rfl ⟨_, rfl, de_int ⟨_, _, rfl, rfl, da_cons <| de_ix <| dp_tup <| de_var 6 rfl ⟨_, rfl, de_int ⟨_, _, rfl, rfl, ?_⟩⟩⟩⟩⟩⟩)
      exact da_cons <| de_var 3 rfl <| da_cons <| de_var 4 rfl <| da_nil ⟨rfl, _, ⟨y, b1, t1, m, f, t', b', G x S, hy, by omega, lay_len x _ _ _ _ _ _ S hx e1 ht hm0 hmS, hm0, by omega, hG, by omega, e2, rfl, rfl⟩, rfl⟩
  | choice x y =>
    obtain ⟨d, rfl⟩ : ∃ d, n = d + 1 := ⟨n - 1, by have h0 := hdp; unfold dpP at h0; omega⟩
    have ih := ih d rfl
    have hd := Nat.le_of_succ_le_succ (show _ + 1 ≤ d + 1 from hdp)
    obtain ⟨hx, hy⟩ := hok
    have gx : G x S ≤ 4000000 := Nat.le_trans (Nat.le_max_left _ _) hG
    have gy : G y S ≤ 4000000 := Nat.le_trans (Nat.le_max_right _ _) hG
    cases b with
    | nil => cases hlay
    | cons c r =>
      have hr1 : r.length ≤ 1000 := Nat.le_of_succ_le (show r.length + 1 ≤ 1000 from hbl)
      have hz : (PyData.int c :: r.map PyData.int).length ≤ sizeLine := hbz
      have e2 : (if c = 0 then lay x r t m f else if c = 1 then lay y r t m f else none) = some (t', b') := hlay
      have ct : ∀ c : Int, cutD (List.map PyData.int (c :: r)) (some 1) none = r.map PyData.int := fun c => cut_tail _ _
      refine dss_cons (ds_set 5 (de_ix <| dp_tup <| de_var 0 rfl ⟨_, rfl, de_int ⟨_, _, rfl, rfl, ?_⟩⟩) sc_lay.nd)
      refine dss_cons (ds_if <| dt_cmp op_eq (de_var 5 rfl <| de_str ⟨_, od_eq rfl rfl rfl, ?_⟩) (nomark _))
      refine eqs_no (by decide +kernel) (dss_nil ?_)
      refine dss_cons (ds_if <| dt_cmp op_in_seq (de_var 5 rfl <| de_tup <| da_cons <| de_str <| da_cons <| de_str <| da_nil ⟨by show 2 ≤ sizeLine; decide, _, od_inT rfl rfl, ?_⟩) (by rfl))
      refine in_strs ["line", "cut"] rfl (fun c => absurd c (by decide +kernel)) fun _ => dss_nil ?_
      refine dss_cons (ds_if <| dt_cmp op_eq (de_var 5 rfl <| de_str ⟨_, od_eq rfl rfl rfl, ?_⟩) (nomark _))
      refine eqs_no (by decide +kernel) (dss_nil ?_)
      refine dss_cons (ds_if <| dt_cmp op_eq (de_var 5 rfl <| de_str ⟨_, od_eq rfl rfl rfl, ?_⟩) (nomark _))
      refine eqs_yes (by decide +kernel) ?_
      refine dss_one (ds_ret <| de_call ih hr <| da_cons <| de_ix <| dp_tup <| de_var 0 rfl ⟨_, rfl, de_op op_add <| de_int <| de_ix <| dp_list <| de_var 1 rfl ⟨_, rfl, de_int ⟨_, .int c, rfl, atI_nat (j := 0) rfl, _, od_I0, ?_⟩⟩⟩)
      have hc : c = 0 ∨ c = 1 := by
        by_cases c0 : c = 0
        · exact .inl c0
        · rw [if_neg c0] at e2
          by_cases c1 : c = 1
          · exact .inr c1
          · rw [if_neg c1] at e2; cases e2
      rcases hc with rfl | rfl
      · rw [if_pos rfl] at e2
        refine ⟨_, encP x, rfl, by rfl, da_cons <| de_new <| dl_sl <| de_var 1 rfl <| de_int ⟨_, rfl, ⟨_, rfl, ?_⟩⟩⟩
        rw [ct]
        exact da_cons <| de_var 2 rfl <| da_cons <| de_var 3 rfl <| da_cons <| de_var 4 rfl <| da_nil ⟨rfl, _, ⟨x, r, t, m, f, t', b', S, hx, by omega, ht, hm0, hmS, gx, hr1, e2, rfl, rfl⟩, rfl⟩
      · rw [if_neg (by decide), if_pos rfl] at e2
        refine ⟨_, encP y, rfl, by rfl, da_cons <| de_new <| dl_sl <| de_var 1 rfl <| de_int ⟨_, rfl, ⟨_, rfl, ?_⟩⟩⟩
        rw [ct]
        exact da_cons <| de_var 2 rfl <| da_cons <| de_var 3 rfl <| da_cons <| de_var 4 rfl <| da_nil ⟨rfl, _, ⟨y, r, t, m, f, t', b', S, hy, by omega, ht, hm0, hmS, gy, hr1, e2, rfl, rfl⟩, rfl⟩
  | nest i p =>
    obtain ⟨d, rfl⟩ : ∃ d, n = d + 1 := ⟨n - 1, by have h0 := hdp; unfold dpP at h0; omega⟩
    have ih := ih d rfl
    have hd := Nat.le_of_succ_le_succ (show _ + 1 ≤ d + 1 from hdp)
    obtain ⟨i0, i1, hp⟩ := hok
    refine dss_cons (ds_set 5 (de_ix <| dp_tup <| de_var 0 rfl ⟨_, rfl, de_int ⟨_, _, rfl, rfl, ?_⟩⟩) sc_lay.nd)
    refine dss_cons (ds_if <| dt_cmp op_eq (de_var 5 rfl <| de_str ⟨_, od_eq rfl rfl rfl, ?_⟩) (nomark _))
    refine eqs_no (by decide +kernel) (dss_nil ?_)
    refine dss_cons (ds_if <| dt_cmp op_in_seq (de_var 5 rfl <| de_tup <| da_cons <| de_str <| da_cons <| de_str <| da_nil ⟨by show 2 ≤ sizeLine; decide, _, od_inT rfl rfl, ?_⟩) (by rfl))
    refine in_strs ["line", "cut"] rfl (fun c => absurd c (by decide +kernel)) fun _ => dss_nil ?_
    refine dss_cons (ds_if <| dt_cmp op_eq (de_var 5 rfl <| de_str ⟨_, od_eq rfl rfl rfl, ?_⟩) (nomark _))
    refine eqs_no (by decide +kernel) (dss_nil ?_)
    refine dss_cons (ds_if <| dt_cmp op_eq (de_var 5 rfl <| de_str ⟨_, od_eq rfl rfl rfl, ?_⟩) (nomark _))
    refine eqs_no (by decide +kernel) (dss_nil ?_)
    refine dss_cons (ds_if <| dt_cmp op_eq (de_var 5 rfl <| de_str ⟨_, od_eq rfl rfl rfl, ?_⟩) (nomark _))
    refine eqs_yes (by decide +kernel) ?_
    refine dss_one (ds_set 3 (de_op op_add <| de_var 3 rfl <| de_ix <| dp_tup <| de_var 0 rfl ⟨_, rfl, de_int ⟨_, _, rfl, rfl, _, od_I0, ?_⟩⟩) sc_lay.nd)
    refine dss_cons (ds_if <| dt_cmp op_eq (de_var 5 rfl <| de_str ⟨_, od_eq rfl rfl rfl, ?_⟩) (nomark _))
    refine eqs_no (by decide +kernel) (dss_nil ?_)
    refine dss_one (ds_ret <| de_call ih hr <| da_cons <| de_ix <| dp_tup <| de_var 0 rfl ⟨_, rfl, de_neg <| de_int ⟨_, rfl, _, _, rfl, by rfl, da_cons <| de_var 1 rfl <| da_cons <| de_var 2 rfl <| da_cons <| de_var 3 rfl ?_⟩⟩)
    refine da_cons <| de_or <| de_var 4 rfl ⟨f, rfl, ?_⟩
    cases f with
    | true => exact iteT <| da_nil ⟨rfl, _, ⟨p, b, t, (m + i), true, t', b', (S + i.toNat), hp, hd, by omega, by omega, by omega, hG, hbl, hlay, rfl, rfl⟩, rfl⟩
    | false => exact iteF <| de_one <| de_cmp op_eq (de_var 5 rfl <| de_str ⟨_, od_eq rfl rfl rfl, da_nil ⟨rfl, _, ⟨p, b, t, (m + i), false, t', b', (S + i.toNat), hp, hd, by omega, by omega, by omega, hG, hbl, hlay, by rfl, rfl⟩, rfl⟩⟩) (by rfl)
  | align p =>
    obtain ⟨d, rfl⟩ : ∃ d, n = d + 1 := ⟨n - 1, by have h0 := hdp; unfold dpP at h0; omega⟩
    have ih := ih d rfl
    have hd := Nat.le_of_succ_le_succ (show _ + 1 ≤ d + 1 from hdp)
    obtain ⟨q0, q1⟩ := col_ok t
    refine dss_cons (ds_set 5 (de_ix <| dp_tup <| de_var 0 rfl ⟨_, rfl, de_int ⟨_, _, rfl, rfl, ?_⟩⟩) sc_lay.nd)
    refine dss_cons (ds_if <| dt_cmp op_eq (de_var 5 rfl <| de_str ⟨_, od_eq rfl rfl rfl, ?_⟩) (nomark _))
    refine eqs_no (by decide +kernel) (dss_nil ?_)
    refine dss_cons (ds_if <| dt_cmp op_in_seq (de_var 5 rfl <| de_tup <| da_cons <| de_str <| da_cons <| de_str <| da_nil ⟨by show 2 ≤ sizeLine; decide, _, od_inT rfl rfl, ?_⟩) (by rfl))
    refine in_strs ["line", "cut"] rfl (fun c => absurd c (by decide +kernel)) fun _ => dss_nil ?_
    refine dss_cons (ds_if <| dt_cmp op_eq (de_var 5 rfl <| de_str ⟨_, od_eq rfl rfl rfl, ?_⟩) (nomark _))
    refine eqs_no (by decide +kernel) (dss_nil ?_)
    refine dss_cons (ds_if <| dt_cmp op_eq (de_var 5 rfl <| de_str ⟨_, od_eq rfl rfl rfl, ?_⟩) (nomark _))
    refine eqs_no (by decide +kernel) (dss_nil ?_)
    refine dss_cons (ds_if <| dt_cmp op_eq (de_var 5 rfl <| de_str ⟨_, od_eq rfl rfl rfl, ?_⟩) (nomark _))
    refine eqs_no (by decide +kernel) (dss_nil ?_)
    refine dss_cons (ds_if <| dt_cmp op_eq (de_var 5 rfl <| de_str ⟨_, od_eq rfl rfl rfl, ?_⟩) (nomark _))
    refine eqs_yes (by decide +kernel) ?_
    refine dss_one (ds_set 3 (de_op op_sub <| de_op op_sub <| de_cb call_lenR mL boot_len <| da_cons <| de_var 2 rfl <| da_nil ⟨_, cd_lenS (Nat.le_trans ht (Nat.le_trans hS (by decide))), de_m1 PySem.F.slot_str_rfind PySem.F.type_str_rfind mt_rfind <| de_var 2 rfl ⟨t, rfl, de_str ⟨_, md_rfind, _, od_I0, de_int ⟨_, od_I0, ?_⟩⟩⟩⟩) sc_lay.nd)
    refine dss_one (ds_ret <| de_call ih hr <| da_cons <| de_ix <| dp_tup <| de_var 0 rfl ⟨_, rfl, de_neg <| de_int ⟨_, rfl, _, _, rfl, by rfl, da_cons <| de_var 1 rfl <| da_cons <| de_var 2 rfl <| da_cons <| de_var 3 rfl ?_⟩⟩)
    refine da_cons <| de_or <| de_var 4 rfl ⟨f, rfl, ?_⟩
    cases f with
    | true => exact iteT <| da_nil ⟨rfl, _, ⟨p, b, t, (colT t), true, t', b', S, hok, hd, by omega, q0, by omega, hG, hbl, hlay, rfl, rfl⟩, rfl⟩
    | false => exact iteF <| de_one <| de_cmp op_eq (de_var 5 rfl <| de_str ⟨_, od_eq rfl rfl rfl, da_nil ⟨rfl, _, ⟨p, b, t, (colT t), false, t', b', S, hok, hd, by omega, q0, by omega, hG, hbl, hlay, by rfl, rfl⟩, rfl⟩⟩) (by rfl)
  | flat p =>
    obtain ⟨d, rfl⟩ : ∃ d, n = d + 1 := ⟨n - 1, by have h0 := hdp; unfold dpP at h0; omega⟩
    have ih := ih d rfl
    have hd := Nat.le_of_succ_le_succ (show _ + 1 ≤ d + 1 from hdp)
    refine dss_cons (ds_set 5 (de_ix <| dp_tup <| de_var 0 rfl ⟨_, rfl, de_int ⟨_, _, rfl, rfl, ?_⟩⟩) sc_lay.nd)
    refine dss_cons (ds_if <| dt_cmp op_eq (de_var 5 rfl <| de_str ⟨_, od_eq rfl rfl rfl, ?_⟩) (nomark _))
    refine eqs_no (by decide +kernel) (dss_nil ?_)
    refine dss_cons (ds_if <| dt_cmp op_in_seq (de_var 5 rfl <| de_tup <| da_cons <| de_str <| da_cons <| de_str <| da_nil ⟨by show 2 ≤ sizeLine; decide, _, od_inT rfl rfl, ?_⟩) (by rfl))
    refine in_strs ["line", "cut"] rfl (fun c => absurd c (by decide +kernel)) fun _ => dss_nil ?_
    refine dss_cons (ds_if <| dt_cmp op_eq (de_var 5 rfl <| de_str ⟨_, od_eq rfl rfl rfl, ?_⟩) (nomark _))
    refine eqs_no (by decide +kernel) (dss_nil ?_)
    refine dss_cons (ds_if <| dt_cmp op_eq (de_var 5 rfl <| de_str ⟨_, od_eq rfl rfl rfl, ?_⟩) (nomark _))
    refine eqs_no (by decide +kernel) (dss_nil ?_)
    refine dss_cons (ds_if <| dt_cmp op_eq (de_var 5 rfl <| de_str ⟨_, od_eq rfl rfl rfl, ?_⟩) (nomark _))
    refine eqs_no (by decide +kernel) (dss_nil ?_)
    refine dss_cons (ds_if <| dt_cmp op_eq (de_var 5 rfl <| de_str ⟨_, od_eq rfl rfl rfl, ?_⟩) (nomark _))
    refine eqs_no (by decide +kernel) (dss_nil ?_)
    refine dss_one (ds_ret <| de_call ih hr <| da_cons <| de_ix <| dp_tup <| de_var 0 rfl ⟨_, rfl, de_neg <| de_int ⟨_, rfl, _, _, rfl, by rfl, da_cons <| de_var 1 rfl <| da_cons <| de_var 2 rfl <| da_cons <| de_var 3 rfl ?_⟩⟩)
    refine da_cons <| de_or <| de_var 4 rfl ⟨f, rfl, ?_⟩
    cases f with
    | true => exact iteT <| da_nil ⟨rfl, _, ⟨p, b, t, m, true, t', b', S, hok, hd, by omega, hm0, hmS, hG, hbl, hlay, rfl, rfl⟩, rfl⟩
    | false => exact iteF <| de_one <| de_cmp op_eq (de_var 5 rfl <| de_str ⟨_, od_eq rfl rfl rfl, da_nil ⟨rfl, _, ⟨p, b, t, m, true, t', b', S, hok, hd, by omega, hm0, hmS, hG, hbl, hlay, by rfl, rfl⟩, rfl⟩⟩) (by rfl)
theorem kn_lay (F : Fun K "_law_lay" "_law_lay" s_lay f fd) (hm : mg "_law_lay" = some (.ref f)) (hb : L2.Binds K fd P_lay []) (mL : mg "len" = none) (mI : mg "int" = none) : ∀ n, Kn P w K mg base "_law_lay" (n + 1) (spP K 5 (RLay n)) := by
  intro n
  induction n with
  | zero => exact kn_lay1 F hm hb mL mI fun m e => by omega
  | succ n ih => exact kn_lay1 F hm hb mL mI fun m e => Nat.succ.inj e ▸ ih
theorem kn_sides1 (F : Fun K "_law_sides" "_law_sides" s_sides f fd) (hm : mg "_law_sides" = some (.ref f)) (hb : L2.Binds K fd P_sides []) {n k : Nat}
    (ih : ∀ m, n = m + 1 → Kn P w K mg base "_law_sides" k (spP K 1 (RSides m))) : Kn P w K mg base "_law_sides" (k + 1) (spP K 1 (RSides n)) := by
  refine kn_def F sc_sides hm hb rfl fun cdv A outer s H E hr ds out hl hR => ?_
  obtain ⟨p, hdp, hkw, rfl, rfl⟩ := hR
  have big : ∀ q : Pl, kw q ≤ 20 → (sidesL q).length ≤ 1048576 := fun q h => by
    rw [sides_len]; exact Nat.le_trans (cnt_cap q) (Nat.le_trans (Nat.pow_le_pow_right (by decide) h) (by decide))
  have rows : ∀ (q : Pl) (j : Nat) (dd : PyData), kw q ≤ 20 → ((sidesL q).map rowD)[j]? = some dd → ∃ row, (sidesL q)[j]? = some row ∧ dd = rowD row ∧ row.length ≤ 20 := fun q j dd h e => by
    rw [List.getElem?_map] at e
    cases e2 : (sidesL q)[j]? with
    | none => rw [e2] at e; cases e
    | some row =>
      rw [e2] at e
      exact ⟨row, rfl, (Option.some.inj e).symm, Nat.le_trans (lay_row q row (List.mem_of_getElem? e2)).1 h⟩
  cases p with
  | choice x y =>
    obtain ⟨d, rfl⟩ : ∃ d, n = d + 1 := ⟨n - 1, by have h0 := hdp; unfold dpP at h0; omega⟩
    have ih := ih d rfl
    have hd := Nat.le_of_succ_le_succ (show _ + 1 ≤ d + 1 from hdp)
    have km : max (kw x) (kw y) + 1 ≤ 20 := hkw
    have kx : kw x ≤ 20 := by omega
    have ky : kw y ≤ 20 := by omega
    refine dss_cons (ds_if <| dt_cmp op_eq (de_ix <| dp_tup <| de_var 0 rfl ⟨_, rfl, de_int ⟨_, _, rfl, rfl, de_str ⟨_, od_eq rfl rfl rfl, ?_⟩⟩⟩) (nomark _))
    refine eqs_yes (by decide +kernel) ?_
    refine dss_one (ds_ret <| de_new <| dl_cat <| de_new <| dl_lc 1 (di_list <| de_call ih hr <| da_cons <| de_ix <| dp_tup <| de_var 0 rfl ⟨_, rfl, de_int ⟨_, _, rfl, rfl, da_nil ⟨rfl, _, ⟨x, by omega, kx, rfl, rfl⟩, _, rfl, rfl, ((sidesL x).map ([0] ++ ·)).map rowD, ?_, ?_, ?_, ?_⟩⟩⟩) sc_sides.nd (ok := blkOk_by (show blkC N_sides (defScope s_sides) _ _ = true by decide +kernel)) (hg := fun _ _ _ _ _ => pg_name sc_sides.nd rfl (Or.inl rfl)))
    · rw [List.length_map, List.length_map, List.length_map]
    · rw [List.length_map, List.length_map]; exact Nat.le_trans (big x kx) (by decide)
    · intro s H0 C cl fp j dd r hd hr'
      obtain ⟨row, e1, rfl, h20⟩ := rows x j dd kx hd
      rw [List.map_map, List.getElem?_map, e1] at hr'
      cases hr'
      exact de_new <| dl_cat <| de_new <| dl_lst <| da_cons <| de_int <| da_nil ⟨by show 1 ≤ sizeLine; decide, de_var 1 rfl ⟨_, _, rfl, rfl, by rw [List.length_map]; exact Nat.le_trans (show 1 + _ ≤ 21 by omega) (by decide), rfl, rfl⟩⟩
    refine de_new <| dl_lc 1 (di_list <| de_call ih hr <| da_cons <| de_ix <| dp_tup <| de_var 0 rfl ⟨_, rfl, de_int ⟨_, _, rfl, rfl, da_nil ⟨rfl, _, ⟨y, by omega, ky, rfl, rfl⟩, _, rfl, rfl, ((sidesL y).map ([1] ++ ·)).map rowD, ?_, ?_, ?_, ?_⟩⟩⟩) sc_sides.nd (ok := blkOk_by (show blkC N_sides (defScope s_sides) _ _ = true by decide +kernel)) (hg := fun _ _ _ _ _ => pg_name sc_sides.nd rfl (Or.inl rfl))
    · rw [List.length_map, List.length_map, List.length_map]
    · rw [List.length_map, List.length_map]; exact Nat.le_trans (big y ky) (by decide)
    · intro s H0 C cl fp j dd r hd hr'
      obtain ⟨row, e1, rfl, h20⟩ := rows y j dd ky hd
      rw [List.map_map, List.getElem?_map, e1] at hr'
      cases hr'
      exact de_new <| dl_cat <| de_new <| dl_lst <| da_cons <| de_int <| da_nil ⟨by show 1 ≤ sizeLine; decide, de_var 1 rfl ⟨_, _, rfl, rfl, by rw [List.length_map]; exact Nat.le_trans (show 1 + _ ≤ 21 by omega) (by decide), rfl, rfl⟩⟩
    refine ⟨_, _, rfl, rfl, ?_, ?_⟩
    · rw [List.length_map, List.length_map, List.length_map, List.length_map]
      have h1 := big x kx
      have h2 := big y ky
      exact Nat.le_trans (show _ ≤ 2097152 by omega) (by decide)
    · show Out.ret (.list (((sidesL x).map ([0] ++ ·) ++ (sidesL y).map ([1] ++ ·)).map rowD)) = _
      rw [List.map_append]
  | beside x y =>
    obtain ⟨d, rfl⟩ : ∃ d, n = d + 1 := ⟨n - 1, by have h0 := hdp; unfold dpP at h0; omega⟩
    have ih := ih d rfl
    have hd := Nat.le_of_succ_le_succ (show _ + 1 ≤ d + 1 from hdp)
    have kx : kw x ≤ 20 := Nat.le_trans (Nat.le_add_right _ _) hkw
    have ky : kw y ≤ 20 := Nat.le_trans (Nat.le_add_left _ _) hkw
    refine dss_cons (ds_if <| dt_cmp op_eq (de_ix <| dp_tup <| de_var 0 rfl ⟨_, rfl, de_int ⟨_, _, rfl, rfl, de_str ⟨_, od_eq rfl rfl rfl, ?_⟩⟩⟩) (nomark _))
    refine eqs_no (by decide +kernel) (dss_nil ?_)
    refine dss_cons (ds_if <| dt_cmp op_eq (de_ix <| dp_tup <| de_var 0 rfl ⟨_, rfl, de_int ⟨_, _, rfl, rfl, de_str ⟨_, od_eq rfl rfl rfl, ?_⟩⟩⟩) (nomark _))
    refine eqs_yes (by decide +kernel) ?_
    refine dss_cons (ds_own 2 (dl_lst <| da_nil ⟨by show 0 ≤ sizeLine; decide, ?_⟩) sc_sides.nd)
    refine dss_cons (ds_set 3 (de_call ih hr <| da_cons <| de_ix <| dp_tup <| de_var 0 rfl ⟨_, rfl, de_int ⟨_, _, rfl, rfl, da_nil ⟨rfl, _, ⟨y, by omega, ky, rfl, rfl⟩, ?_⟩⟩⟩) sc_sides.nd)
    refine dss_cons (ds_for 1 (di_list <| de_call ih hr <| da_cons <| de_ix <| dp_tup <| de_var 0 rfl ⟨_, rfl, de_int ⟨_, _, rfl, rfl, da_nil ⟨rfl, _, ⟨x, by omega, kx, rfl, rfl⟩, _, rfl, fun i ρ => ∃ o, ρ = [some (.val (encP (.beside x y))), o, some (.own ((((sidesL x).take i).flatMap fun r => (sidesL y).map (r ++ ·)).map rowD)), some (.val (.list ((sidesL y).map rowD))), none], ?_, ?_, ?_⟩⟩⟩) sc_sides.nd)
    · exact ⟨none, rfl⟩
    · rintro i dd ρ hd ⟨o, rfl⟩
      obtain ⟨row, e1, rfl, h20⟩ := rows x i dd kx hd
      have hil := (List.getElem?_eq_some_iff.mp e1).1
      refine dss_one (ds_extend 2 rfl (de_new <| dl_lc 4 (di_list <| de_var 3 rfl ⟨_, rfl, rfl, ((sidesL y).map (row ++ ·)).map rowD, ?_, ?_, ?_, ?_⟩) sc_sides.nd (ok := blkOk_by (show blkC N_sides (defScope s_sides) _ _ = true by decide +kernel)) (hg := fun _ _ _ _ _ => pg_name sc_sides.nd rfl (Or.inl rfl))))
      · rw [List.length_map, List.length_map, List.length_map]
      · rw [List.length_map, List.length_map]; exact Nat.le_trans (big y ky) (by decide)
      · intro s H0 C cl fp j d2 r hd2 hr'
        obtain ⟨row2, e2, rfl, h20'⟩ := rows y j d2 ky hd2
        rw [List.map_map, List.getElem?_map, e2] at hr'
        cases hr'
        refine de_new <| dl_cat <| de_var 1 rfl <| de_var 4 rfl ⟨_, _, rfl, rfl, by rw [List.length_map, List.length_map]; exact Nat.le_trans (show _ ≤ 40 by omega) (by decide), ?_, rfl⟩
        show PyData.list _ = PyData.list ((row ++ row2).map .int)
        rw [List.map_append]
      · refine ⟨_, _, rfl, rfl, ?_, some (.val (rowD row)), ?_⟩
        · have hb := big (.beside x y) hkw
          have h1 : (((sidesL x).take i).flatMap fun r => (sidesL y).map (r ++ ·)).length = ((sidesL x).take i).length * cntP y := fm_len _ _ _ fun r _ => by rw [List.length_map, sides_len]
          have h2 : (sidesL (.beside x y)).length = (sidesL x).length * cntP y := by rw [sides_len, sides_len]; rfl
          rw [List.length_map, List.length_map, List.length_map, h1, sides_len y]
          have h3 : ((sidesL x).take i).length + 1 ≤ (sidesL x).length := by rw [List.length_take]; omega
          have h4 := Nat.mul_le_mul_right (cntP y) h3
          rw [Nat.add_mul, Nat.one_mul] at h4
          exact Nat.le_trans (show _ ≤ 1048576 by omega) (by decide)
        · rw [List.take_add_one, e1, Option.toList_some, List.flatMap_append, List.map_append, List.flatMap_singleton]
          rfl
    · rintro ρ ⟨o, rfl⟩
      rw [List.length_map, List.take_length]
      exact dss_one (ds_ret <| de_rel 2 rfl rfl)
  | text z =>
    refine dss_cons (ds_if <| dt_cmp op_eq (de_ix <| dp_tup <| de_var 0 rfl ⟨_, rfl, de_int ⟨_, _, rfl, rfl, de_str ⟨_, od_eq rfl rfl rfl, ?_⟩⟩⟩) (nomark _))
    refine eqs_no (by decide +kernel) (dss_nil ?_)
    refine dss_cons (ds_if <| dt_cmp op_eq (de_ix <| dp_tup <| de_var 0 rfl ⟨_, rfl, de_int ⟨_, _, rfl, rfl, de_str ⟨_, od_eq rfl rfl rfl, ?_⟩⟩⟩) (nomark _))
    refine eqs_no (by decide +kernel) (dss_nil ?_)
    refine dss_cons (ds_if <| dt_cmp op_in_seq (de_ix <| dp_tup <| de_var 0 rfl ⟨_, rfl, de_int ⟨_, _, rfl, rfl, de_tup <| da_cons <| de_str <| da_cons <| de_str <| da_cons <| de_str <| da_nil ⟨by show 3 ≤ sizeLine; decide, _, od_inT rfl rfl, ?_⟩⟩⟩) (by rfl))
    refine in_strs ["text", "line", "cut"] rfl (fun _ => ?_) fun c => absurd c (by decide +kernel)
    exact dss_one (ds_ret <| de_new <| dl_lst <| da_cons <| de_new <| dl_lst <| da_nil ⟨by show 0 ≤ sizeLine; decide, da_nil ⟨by show 1 ≤ sizeLine; decide, rfl⟩⟩)
  | line =>
    refine dss_cons (ds_if <| dt_cmp op_eq (de_ix <| dp_tup <| de_var 0 rfl ⟨_, rfl, de_int ⟨_, _, rfl, rfl, de_str ⟨_, od_eq rfl rfl rfl, ?_⟩⟩⟩) (nomark _))
    refine eqs_no (by decide +kernel) (dss_nil ?_)
    refine dss_cons (ds_if <| dt_cmp op_eq (de_ix <| dp_tup <| de_var 0 rfl ⟨_, rfl, de_int ⟨_, _, rfl, rfl, de_str ⟨_, od_eq rfl rfl rfl, ?_⟩⟩⟩) (nomark _))
    refine eqs_no (by decide +kernel) (dss_nil ?_)
    refine dss_cons (ds_if <| dt_cmp op_in_seq (de_ix <| dp_tup <| de_var 0 rfl ⟨_, rfl, de_int ⟨_, _, rfl, rfl, de_tup <| da_cons <| de_str <| da_cons <| de_str <| da_cons <| de_str <| da_nil ⟨by show 3 ≤ sizeLine; decide, _, od_inT rfl rfl, ?_⟩⟩⟩) (by rfl))
    refine in_strs ["text", "line", "cut"] rfl (fun _ => ?_) fun c => absurd c (by decide +kernel)
    exact dss_one (ds_ret <| de_new <| dl_lst <| da_cons <| de_new <| dl_lst <| da_nil ⟨by show 0 ≤ sizeLine; decide, da_nil ⟨by show 1 ≤ sizeLine; decide, rfl⟩⟩)
  | cut =>
    refine dss_cons (ds_if <| dt_cmp op_eq (de_ix <| dp_tup <| de_var 0 rfl ⟨_, rfl, de_int ⟨_, _, rfl, rfl, de_str ⟨_, od_eq rfl rfl rfl, ?_⟩⟩⟩) (nomark _))
    refine eqs_no (by decide +kernel) (dss_nil ?_)
    refine dss_cons (ds_if <| dt_cmp op_eq (de_ix <| dp_tup <| de_var 0 rfl ⟨_, rfl, de_int ⟨_, _, rfl, rfl, de_str ⟨_, od_eq rfl rfl rfl, ?_⟩⟩⟩) (nomark _))
    refine eqs_no (by decide +kernel) (dss_nil ?_)
    refine dss_cons (ds_if <| dt_cmp op_in_seq (de_ix <| dp_tup <| de_var 0 rfl ⟨_, rfl, de_int ⟨_, _, rfl, rfl, de_tup <| da_cons <| de_str <| da_cons <| de_str <| da_cons <| de_str <| da_nil ⟨by show 3 ≤ sizeLine; decide, _, od_inT rfl rfl, ?_⟩⟩⟩) (by rfl))
    refine in_strs ["text", "line", "cut"] rfl (fun _ => ?_) fun c => absurd c (by decide +kernel)
    exact dss_one (ds_ret <| de_new <| dl_lst <| da_cons <| de_new <| dl_lst <| da_nil ⟨by show 0 ≤ sizeLine; decide, da_nil ⟨by show 1 ≤ sizeLine; decide, rfl⟩⟩)
  | nest i p =>
    obtain ⟨d, rfl⟩ : ∃ d, n = d + 1 := ⟨n - 1, by have h0 := hdp; unfold dpP at h0; omega⟩
    have ih := ih d rfl
    have hd := Nat.le_of_succ_le_succ (show _ + 1 ≤ d + 1 from hdp)
    refine dss_cons (ds_if <| dt_cmp op_eq (de_ix <| dp_tup <| de_var 0 rfl ⟨_, rfl, de_int ⟨_, _, rfl, rfl, de_str ⟨_, od_eq rfl rfl rfl, ?_⟩⟩⟩) (nomark _))
    refine eqs_no (by decide +kernel) (dss_nil ?_)
    refine dss_cons (ds_if <| dt_cmp op_eq (de_ix <| dp_tup <| de_var 0 rfl ⟨_, rfl, de_int ⟨_, _, rfl, rfl, de_str ⟨_, od_eq rfl rfl rfl, ?_⟩⟩⟩) (nomark _))
    refine eqs_no (by decide +kernel) (dss_nil ?_)
    refine dss_cons (ds_if <| dt_cmp op_in_seq (de_ix <| dp_tup <| de_var 0 rfl ⟨_, rfl, de_int ⟨_, _, rfl, rfl, de_tup <| da_cons <| de_str <| da_cons <| de_str <| da_cons <| de_str <| da_nil ⟨by show 3 ≤ sizeLine; decide, _, od_inT rfl rfl, ?_⟩⟩⟩) (by rfl))
    refine in_strs ["text", "line", "cut"] rfl (fun c => absurd c (by decide +kernel)) fun _ => dss_nil ?_
    exact dss_one (ds_ret <| de_call ih hr <| da_cons <| de_ix <| dp_tup <| de_var 0 rfl ⟨_, rfl, de_neg <| de_int ⟨_, rfl, _, _, rfl, by rfl, da_nil ⟨rfl, _, ⟨p, hd, Nat.le_of_succ_le hkw, rfl, rfl⟩, rfl⟩⟩⟩)
  | align p =>
    obtain ⟨d, rfl⟩ : ∃ d, n = d + 1 := ⟨n - 1, by have h0 := hdp; unfold dpP at h0; omega⟩
    have ih := ih d rfl
    have hd := Nat.le_of_succ_le_succ (show _ + 1 ≤ d + 1 from hdp)
    refine dss_cons (ds_if <| dt_cmp op_eq (de_ix <| dp_tup <| de_var 0 rfl ⟨_, rfl, de_int ⟨_, _, rfl, rfl, de_str ⟨_, od_eq rfl rfl rfl, ?_⟩⟩⟩) (nomark _))
    refine eqs_no (by decide +kernel) (dss_nil ?_)
    refine dss_cons (ds_if <| dt_cmp op_eq (de_ix <| dp_tup <| de_var 0 rfl ⟨_, rfl, de_int ⟨_, _, rfl, rfl, de_str ⟨_, od_eq rfl rfl rfl, ?_⟩⟩⟩) (nomark _))
    refine eqs_no (by decide +kernel) (dss_nil ?_)
    refine dss_cons (ds_if <| dt_cmp op_in_seq (de_ix <| dp_tup <| de_var 0 rfl ⟨_, rfl, de_int ⟨_, _, rfl, rfl, de_tup <| da_cons <| de_str <| da_cons <| de_str <| da_cons <| de_str <| da_nil ⟨by show 3 ≤ sizeLine; decide, _, od_inT rfl rfl, ?_⟩⟩⟩) (by rfl))
    refine in_strs ["text", "line", "cut"] rfl (fun c => absurd c (by decide +kernel)) fun _ => dss_nil ?_
    exact dss_one (ds_ret <| de_call ih hr <| da_cons <| de_ix <| dp_tup <| de_var 0 rfl ⟨_, rfl, de_neg <| de_int ⟨_, rfl, _, _, rfl, by rfl, da_nil ⟨rfl, _, ⟨p, hd, hkw, rfl, rfl⟩, rfl⟩⟩⟩)
  | flat p =>
    obtain ⟨d, rfl⟩ : ∃ d, n = d + 1 := ⟨n - 1, by have h0 := hdp; unfold dpP at h0; omega⟩
    have ih := ih d rfl
    have hd := Nat.le_of_succ_le_succ (show _ + 1 ≤ d + 1 from hdp)
    refine dss_cons (ds_if <| dt_cmp op_eq (de_ix <| dp_tup <| de_var 0 rfl ⟨_, rfl, de_int ⟨_, _, rfl, rfl, de_str ⟨_, od_eq rfl rfl rfl, ?_⟩⟩⟩) (nomark _))
    refine eqs_no (by decide +kernel) (dss_nil ?_)
    refine dss_cons (ds_if <| dt_cmp op_eq (de_ix <| dp_tup <| de_var 0 rfl ⟨_, rfl, de_int ⟨_, _, rfl, rfl, de_str ⟨_, od_eq rfl rfl rfl, ?_⟩⟩⟩) (nomark _))
    refine eqs_no (by decide +kernel) (dss_nil ?_)
    refine dss_cons (ds_if <| dt_cmp op_in_seq (de_ix <| dp_tup <| de_var 0 rfl ⟨_, rfl, de_int ⟨_, _, rfl, rfl, de_tup <| da_cons <| de_str <| da_cons <| de_str <| da_cons <| de_str <| da_nil ⟨by show 3 ≤ sizeLine; decide, _, od_inT rfl rfl, ?_⟩⟩⟩) (by rfl))
    refine in_strs ["text", "line", "cut"] rfl (fun c => absurd c (by decide +kernel)) fun _ => dss_nil ?_
    exact dss_one (ds_ret <| de_call ih hr <| da_cons <| de_ix <| dp_tup <| de_var 0 rfl ⟨_, rfl, de_neg <| de_int ⟨_, rfl, _, _, rfl, by rfl, da_nil ⟨rfl, _, ⟨p, hd, hkw, rfl, rfl⟩, rfl⟩⟩⟩)
theorem kn_sides (F : Fun K "_law_sides" "_law_sides" s_sides f fd) (hm : mg "_law_sides" = some (.ref f)) (hb : L2.Binds K fd P_sides []) : ∀ n, Kn P w K mg base "_law_sides" (n + 1) (spP K 1 (RSides n)) := by
  intro n
  induction n with
  | zero => exact kn_sides1 F hm hb fun m e => by omega
  | succ n ih => exact kn_sides1 F hm hb fun m e => Nat.succ.inj e ▸ ih
end
end Q
namespace Q
open PySem PySem.Spec PyProof.Rows L2 Pw
/-! ### the program's own laying: sides taken from place n on; none: refused -/
def layC : Pl → List Int → Nat → Str → Int → Int → Bool → Option (Nat × Str × Int)
  | .text z, _, n, t, c, _, _ => some (n, t ++ z, c + z.length)
  | .line, _, n, t, c, m, f => if f = true then some (n, t ++ " ", c + 1) else some (n, t ++ "\n" ++ Txt.mul " " m, m)
  | .cut, _, n, t, c, m, f => if f = true then some (n, t ++ "", c + 0) else some (n, t ++ "\n" ++ Txt.mul " " m, m)
  | .nest k p, b, n, t, c, m, f => layC p b n t c (m + k) f
  | .align p, b, n, t, c, _, f => layC p b n t c c f
  | .flat p, b, n, t, c, m, _ => layC p b n t c m true
  | .choice x y, b, n, t, c, m, f => match b[n]? with
    | none => none
    | some s => if s = 0 then layC x b (n + 1) t c m f else if s = 1 then layC y b (n + 1) t c m f else none
  | .beside x y, b, n, t, c, m, f => match layC x b n t c m f with
    | some (n', t', c') => layC y b n' t' c' m f
    | none => none
/-! the column -/
def lastCol (l : List Nat) : Nat := (l.reverse.takeWhile fun c => decide (c ≠ 10)).length
theorem lastCol_app (l z : List Nat) (h : 10 ∉ z) : lastCol (l ++ z) = lastCol l + z.length := by
  unfold lastCol
  rw [List.reverse_append]
  have hz : ∀ c ∈ z.reverse, decide (c ≠ 10) = true := fun c hc => decide_eq_true fun e => h (by rw [← e]; exact List.mem_reverse.mp hc)
  have key : ∀ (u v : List Nat), (∀ c ∈ u, decide (c ≠ 10) = true) → ((u ++ v).takeWhile fun c => decide (c ≠ 10)).length = u.length + (v.takeWhile fun c => decide (c ≠ 10)).length := by
    intro u v hu
    induction u with
    | nil => simp
    | cons a u ih =>
      rw [List.cons_append, List.takeWhile_cons, if_pos (hu a List.mem_cons_self), List.length_cons, ih fun c hc => hu c (List.mem_cons_of_mem _ hc), List.length_cons]
      omega
  rw [key _ _ hz, List.length_reverse]
  omega
theorem lastCol_nl (l : List Nat) : lastCol (l ++ [10]) = 0 := by
  unfold lastCol
  rw [List.reverse_append]
  rfl
theorem at_ten (t : Str) (i : Nat) : PySem.StrLaws.At t "\n" t.length i ↔ t.cps.toList[i]? = some 10 := by
  have hy : TL.tl ("\n" : Str) ≠ [] := by decide +kernel
  rw [TL.at_iff hy, show TL.tl ("\n" : Str) = [10] by decide +kernel]
  show TL.pre [10] (t.cps.toList.drop i) = true ↔ _
  cases e : t.cps.toList.drop i with
  | nil =>
    rw [List.getElem?_eq_none (List.drop_eq_nil_iff.mp e)]
    exact ⟨fun z => (by rw [TL.pre_nil (by simp)] at z; cases z), fun z => nomatch z⟩
  | cons a r =>
    have e2 : t.cps.toList[i]? = some a := by
      have : (t.cps.toList.drop i)[0]? = some a := by rw [e]; rfl
      rw [List.getElem?_drop] at this
      exact this
    rw [e2]
    by_cases c : a = 10
    · subst c
      exact ⟨fun _ => rfl, fun _ => TL.pre_self [10] r⟩
    · exact ⟨fun z => (by rw [TL.pre_of_head [] r c] at z; cases z), fun z => absurd (Option.some.inj z) c⟩
theorem col_last (t : Str) : colT t = (lastCol t.cps.toList : Nat) := by
  unfold colT Txt.rfind
  rcases PySem.StrLaws.last_spec t "\n" with ⟨h, hn⟩ | ⟨i, h, ha, hk⟩
  · rw [h]
    have no : 10 ∉ t.cps.toList := fun hm => by
      obtain ⟨i, hi, e⟩ := List.mem_iff_getElem.mp hm
      exact hn i ((at_ten t i).mpr (by rw [List.getElem?_eq_getElem hi, e]))
    have e := lastCol_app [] t.cps.toList no
    rw [List.nil_append] at e
    rw [e, len_cps]
    show ((t.cps.toList.length : Nat) : Int) - (-1) - 1 = ((0 + t.cps.toList.length : Nat) : Int)
    omega
  · rw [h]
    have h10 := (at_ten t i).mp ha
    obtain ⟨hi, e10⟩ := List.getElem?_eq_some_iff.mp h10
    have no : 10 ∉ t.cps.toList.drop (i + 1) := fun hm => by
      obtain ⟨j, hj, e⟩ := List.mem_iff_getElem.mp hm
      rw [List.getElem_drop] at e
      rw [List.length_drop] at hj
      exact hk (i + 1 + j) (by omega) ((at_ten t _).mpr (by rw [List.getElem?_eq_getElem (by omega), e]))
    have es : t.cps.toList = (t.cps.toList.take i ++ [10]) ++ t.cps.toList.drop (i + 1) := by
      conv => lhs; rw [← List.take_append_drop i t.cps.toList, List.drop_eq_getElem_cons hi, e10]
      rw [List.append_assoc]; rfl
    have e : lastCol t.cps.toList = t.cps.toList.length - (i + 1) := by
      conv => lhs; rw [es]
      rw [lastCol_app _ _ no, lastCol_nl, List.length_drop, Nat.zero_add]
    rw [e, len_cps]
    show ((t.cps.toList.length : Nat) : Int) - (i : Nat) - 1 = _
    omega
theorem col_app (t z : Str) (h : 10 ∉ z.cps.toList) : colT (t ++ z) = colT t + z.length := by
  rw [col_last, col_last, app_list, lastCol_app _ _ h, len_cps]
  omega
theorem col_nl (t : Str) (m : Int) (h : 0 ≤ m) : colT (t ++ "\n" ++ Txt.mul " " m) = m := by
  have hz : 10 ∉ (Txt.mul " " m).cps.toList := fun hm => by
    rw [sp_eq, mul_one] at hm
    exact absurd (List.mem_replicate.mp hm).2 (by decide)
  rw [col_last, app_list, lastCol_app _ _ hz, app_list, show ("\n" : Str).cps.toList = [10] by decide +kernel, lastCol_nl, ← len_cps, sp_eq, mul_one_len]
  omega
theorem app_as (a b c : Str) : a ++ b ++ c = a ++ (b ++ c) := str_ext (by rw [app_list, app_list, app_list, app_list, List.append_assoc])
/-- the two agree -/
theorem lay_layC : ∀ (p : Pl) (b : List Int) (n : Nat) (t : Str) (m : Int) (f : Bool), okP p → 0 ≤ m → n ≤ b.length →
    match layC p b n t (colT t) m f with
    | some (n', t', c') => n' ≤ b.length ∧ c' = colT t' ∧ lay p (b.drop n) t m f = some (t', b.drop n')
    | none => lay p (b.drop n) t m f = none
  | .text z, b, n, t, m, f, h, _, hn => by
    have hz : 10 ∉ z.cps.toList := fun hm => absurd (h.2 10 hm).1 (by decide)
    exact ⟨hn, (col_app t z hz).symm, rfl⟩
  | .line, b, n, t, m, f, h, hm, hn => by
    cases f with
    | true => exact ⟨hn, by rw [col_app t " " (by decide +kernel), show (" " : Str).length = 1 by decide +kernel]; rfl, rfl⟩
    | false => exact ⟨hn, (col_nl t m hm).symm, by rw [app_as]; rfl⟩
  | .cut, b, n, t, m, f, h, hm, hn => by
    cases f with
    | true => exact ⟨hn, by rw [col_app t "" (by decide +kernel), show ("" : Str).length = 0 by decide +kernel]; rfl, rfl⟩
    | false => exact ⟨hn, (col_nl t m hm).symm, by rw [app_as]; rfl⟩
  | .nest k p, b, n, t, m, f, h, hm, hn => lay_layC p b n t (m + k) f h.2.2 (by have := h.1; omega) hn
  | .align p, b, n, t, m, f, h, hm, hn => lay_layC p b n t (colT t) f h (col_ok t).1 hn
  | .flat p, b, n, t, m, f, h, hm, hn => lay_layC p b n t m true h hm hn
  | .choice x y, b, n, t, m, f, h, hm, hn => by
    show match (match b[n]? with | none => none | some s => if s = 0 then layC x b (n + 1) t (colT t) m f else if s = 1 then layC y b (n + 1) t (colT t) m f else none) with
      | some (n', t', c') => n' ≤ b.length ∧ c' = colT t' ∧ lay (.choice x y) (b.drop n) t m f = some (t', b.drop n')
      | none => lay (.choice x y) (b.drop n) t m f = none
    cases e : b[n]? with
    | none =>
      have : b.drop n = [] := List.drop_eq_nil_iff.mpr (List.getElem?_eq_none_iff.mp e)
      rw [this]; rfl
    | some s =>
      obtain ⟨hl, e2⟩ := List.getElem?_eq_some_iff.mp e
      have ed : b.drop n = s :: b.drop (n + 1) := by rw [List.drop_eq_getElem_cons hl, e2]
      have el : lay (.choice x y) (b.drop n) t m f = if s = 0 then lay x (b.drop (n + 1)) t m f else if s = 1 then lay y (b.drop (n + 1)) t m f else none := by rw [ed]; rfl
      rw [el]
      by_cases c0 : s = 0
      · have ih := lay_layC x b (n + 1) t m f h.1 hm hl
        simp only [if_pos c0]
        exact ih
      · by_cases c1 : s = 1
        · have ih := lay_layC y b (n + 1) t m f h.2 hm hl
          simp only [if_neg c0, if_pos c1]
          exact ih
        · simp only [if_neg c0, if_neg c1]
  | .beside x y, b, n, t, m, f, h, hm, hn => by
    have ih := lay_layC x b n t m f h.1 hm hn
    show match (match layC x b n t (colT t) m f with | some (n', t', c') => layC y b n' t' c' m f | none => none) with
      | some (n', t', c') => n' ≤ b.length ∧ c' = colT t' ∧ (match lay x (b.drop n) t m f with | some (t', b') => lay y b' t' m f | none => none) = some (t', b.drop n')
      | none => (match lay x (b.drop n) t m f with | some (t', b') => lay y b' t' m f | none => none) = none
    cases e : layC x b n t (colT t) m f with
    | none =>
      rw [e] at ih
      simp only [ih]
    | some r =>
      obtain ⟨n1, t1, c1⟩ := r
      rw [e] at ih
      obtain ⟨i1, i2, i3⟩ := ih
      subst i2
      have ih2 := lay_layC y b n1 t1 m f h.2 hm i1
      simp only [i3]
      exact ih2
/-- what is laid was a row of sides -/
theorem lay_inv : ∀ (p : Pl) (b : List Int) (t : Str) (m : Int) (f : Bool) (t' : Str) (r : List Int), lay p b t m f = some (t', r) → ∃ row ∈ sidesL p, b = row ++ r
  | .text s, b, t, m, f, t', r, e => by cases e; exact ⟨[], List.mem_singleton.mpr rfl, rfl⟩
  | .line, b, t, m, f, t', r, e => by cases e; exact ⟨[], List.mem_singleton.mpr rfl, rfl⟩
  | .cut, b, t, m, f, t', r, e => by cases e; exact ⟨[], List.mem_singleton.mpr rfl, rfl⟩
  | .nest n p, b, t, m, f, t', r, e => lay_inv p b t (m + n) f t' r e
  | .align p, b, t, m, f, t', r, e => lay_inv p b t (colT t) f t' r e
  | .flat p, b, t, m, f, t', r, e => lay_inv p b t m true t' r e
  | .choice x y, b, t, m, f, t', r, e => by
    cases b with
    | nil => cases e
    | cons c q =>
      have e' : (if c = 0 then lay x q t m f else if c = 1 then lay y q t m f else none) = some (t', r) := e
      by_cases c0 : c = 0
      · rw [if_pos c0] at e'
        obtain ⟨row, h1, rfl⟩ := lay_inv x q t m f t' r e'
        exact ⟨[0] ++ row, List.mem_append.mpr (.inl (List.mem_map.mpr ⟨row, h1, rfl⟩)), by rw [c0]; rfl⟩
      · rw [if_neg c0] at e'
        by_cases c1 : c = 1
        · rw [if_pos c1] at e'
          obtain ⟨row, h1, rfl⟩ := lay_inv y q t m f t' r e'
          exact ⟨[1] ++ row, List.mem_append.mpr (.inr (List.mem_map.mpr ⟨row, h1, rfl⟩)), by rw [c1]; rfl⟩
        · rw [if_neg c1] at e'; cases e'
  | .beside x y, b, t, m, f, t', r, e => by
    cases q : lay x b t m f with
    | none =>
      have e' : (match lay x b t m f with | some (t', b') => lay y b' t' m f | none => none) = some (t', r) := e
      rw [q] at e'; cases e'
    | some u =>
      obtain ⟨t1, b1⟩ := u
      have e' : (match lay x b t m f with | some (t', b') => lay y b' t' m f | none => none) = some (t', r) := e
      rw [q] at e'
      obtain ⟨r1, h1, rfl⟩ := lay_inv x b t m f t1 b1 q
      obtain ⟨r2, h2, rfl⟩ := lay_inv y b1 t1 m f t' r e'
      exact ⟨r1 ++ r2, List.mem_flatMap.mpr ⟨r1, h1, List.mem_map.mpr ⟨r2, h2, rfl⟩⟩, by rw [List.append_assoc]⟩
theorem col_emp : colT "" = 0 := by
  have h := col_ok ("" : Str)
  have e : ("" : Str).length = 0 := by decide +kernel
  rw [e] at h
  omega
/-- the whole: laid, or refused -/
theorem laid_is {p : Pl} (h : okP p) (b : List Int) : (b ∈ sidesL p → ∃ t' c', layC p b 0 "" 0 0 false = some (b.length, t', c') ∧ lay p b "" 0 false = some (t', [])) ∧
    (b ∉ sidesL p → layC p b 0 "" 0 0 false = none ∨ ∃ n' t' c', n' < b.length ∧ layC p b 0 "" 0 0 false = some (n', t', c')) := by
  have key := lay_layC p b 0 "" 0 false h (by decide) (Nat.zero_le _)
  rw [col_emp, List.drop_zero] at key
  constructor
  · intro hm
    obtain ⟨t', e⟩ := (lay_row p b hm).2 [] "" 0 false
    rw [List.append_nil] at e
    cases q : layC p b 0 "" 0 0 false with
    | none => rw [q] at key; rw [key] at e; cases e
    | some r =>
      obtain ⟨n', t1, c'⟩ := r
      rw [q] at key
      obtain ⟨k1, k2, k3⟩ := key
      rw [e] at k3
      have e3 := Option.some.inj k3
      have e4 : t' = t1 := (Prod.mk.inj e3).1
      have e5 : [] = b.drop n' := (Prod.mk.inj e3).2
      have e6 : b.length ≤ n' := List.drop_eq_nil_iff.mp e5.symm
      refine ⟨t', c', ?_, e⟩
      rw [e4, show n' = b.length by omega]
  · intro hm
    cases q : layC p b 0 "" 0 0 false with
    | none => exact .inl rfl
    | some r =>
      obtain ⟨n', t1, c'⟩ := r
      rw [q] at key
      obtain ⟨k1, k2, k3⟩ := key
      refine .inr ⟨n', t1, c', ?_, rfl⟩
      by_cases z : n' = b.length
      · exfalso
        subst z
        rw [List.drop_length] at k3
        obtain ⟨row, h1, h2⟩ := lay_inv p b _ _ _ _ _ k3
        rw [List.append_nil] at h2
        exact hm (h2 ▸ h1)
      · omega
end Q
namespace Q
open PySem PySem.Spec PyProof.Rows L2 Pw
def layF (b : List Int) (n : Nat) (t : Str) (c : Int) : Fs := [("bits", rowD b), ("at", .int (n : Nat)), ("text", .str t), ("column", .int c)]
theorem n_ab : ¬ (("bits" : Str) = "at") := by decide +kernel
theorem n_tb : ¬ (("bits" : Str) = "text") := by decide +kernel
theorem n_ta : ¬ (("at" : Str) = "text") := by decide +kernel
theorem n_cb : ¬ (("bits" : Str) = "column") := by decide +kernel
theorem n_ca : ¬ (("at" : Str) = "column") := by decide +kernel
theorem n_ct : ¬ (("text" : Str) = "column") := by decide +kernel
section
variable {b : List Int} {n n' : Nat} {t t' : Str} {c c' : Int} {m : Str}
theorem p_at : putD "at" (.int (n' : Nat)) (layF b n t c) = layF b n' t c := by
  unfold layF putD; rw [if_neg n_ab]; unfold putD; rw [if_pos rfl]
theorem p_text : putD "text" (.str t') (layF b n t c) = layF b n t' c := by
  unfold layF putD; rw [if_neg n_tb]; unfold putD; rw [if_neg n_ta]; unfold putD; rw [if_pos rfl]
theorem p_col : putD "column" (.int c') (layF b n t c) = layF b n t c' := by
  unfold layF putD; rw [if_neg n_cb]; unfold putD; rw [if_neg n_ca]; unfold putD; rw [if_neg n_ct]; unfold putD; rw [if_pos rfl]
theorem i_1 {v : PyData} : putD "at" (.int 0) (putD "bits" v []) = ([("bits", v), ("at", .int 0)] : Fs) := by
  show (if ("bits" : Str) = "at" then [(("bits" : Str), PyData.int 0)] else (("bits" : Str), v) :: putD "at" (.int 0) []) = _
  rw [if_neg n_ab]; rfl
theorem i_2 {v x : PyData} : putD "text" (.str "") ([("bits", v), ("at", x)] : Fs) = ([("bits", v), ("at", x), ("text", .str "")] : Fs) := by
  unfold putD; rw [if_neg n_tb]; unfold putD; rw [if_neg n_ta]; rfl
theorem i_3 {v x y : PyData} : putD "column" (.int 0) ([("bits", v), ("at", x), ("text", y)] : Fs) = ([("bits", v), ("at", x), ("text", y), ("column", .int 0)] : Fs) := by
  unfold putD; rw [if_neg n_cb]; unfold putD; rw [if_neg n_ca]; unfold putD; rw [if_neg n_ct]; rfl
theorem l_bits : (layF b n t c).lookup ("bits" : Str) = some (rowD b) := by
  unfold layF
  rw [List.lookup_cons, show (("bits" : Str) == ("bits" : Str)) = true from beq_self_eq_true _]
theorem l_at : (layF b n t c).lookup ("at" : Str) = some (.int (n : Nat)) := by
  unfold layF
  rw [List.lookup_cons, show (("at" : Str) == ("bits" : Str)) = false by decide +kernel]
  show List.lookup ("at" : Str) (_ :: _) = _
  rw [List.lookup_cons, show (("at" : Str) == ("at" : Str)) = true from beq_self_eq_true _]
theorem l_text : (layF b n t c).lookup ("text" : Str) = some (.str t) := by
  unfold layF
  rw [List.lookup_cons, show (("text" : Str) == ("bits" : Str)) = false by decide +kernel]
  show List.lookup ("text" : Str) (_ :: _) = _
  rw [List.lookup_cons, show (("text" : Str) == ("at" : Str)) = false by decide +kernel]
  show List.lookup ("text" : Str) (_ :: _) = _
  rw [List.lookup_cons, show (("text" : Str) == ("text" : Str)) = true from beq_self_eq_true _]
theorem l_col : (layF b n t c).lookup ("column" : Str) = some (.int c) := by
  unfold layF
  rw [List.lookup_cons, show (("column" : Str) == ("bits" : Str)) = false by decide +kernel]
  show List.lookup ("column" : Str) (_ :: _) = _
  rw [List.lookup_cons, show (("column" : Str) == ("at" : Str)) = false by decide +kernel]
  show List.lookup ("column" : Str) (_ :: _) = _
  rw [List.lookup_cons, show (("column" : Str) == ("text" : Str)) = false by decide +kernel]
  show List.lookup ("column" : Str) (_ :: _) = _
  rw [List.lookup_cons, show (("column" : Str) == ("column" : Str)) = true from beq_self_eq_true _]
theorem l_no (h1 : (m == ("bits" : Str)) = false := by decide +kernel) (h2 : (m == ("at" : Str)) = false := by decide +kernel) (h3 : (m == ("text" : Str)) = false := by decide +kernel) (h4 : (m == ("column" : Str)) = false := by decide +kernel) : (layF b n t c).lookup m = none := by
  unfold layF
  rw [List.lookup_cons, h1]
  show List.lookup m (_ :: _) = _
  rw [List.lookup_cons, h2]
  show List.lookup m (_ :: _) = _
  rw [List.lookup_cons, h3]
  show List.lookup m (_ :: _) = _
  rw [List.lookup_cons, h4]; rfl
end
structure LayT (K : PySem.W.Frag) (mg : Str → Option Value) (CL CB : Addr) : Prop where
  cl : Cls K CL
  nB : NoAttr K CL "bits"
  nA : NoAttr K CL "at"
  nT : NoAttr K CL "text"
  nC : NoAttr K CL "column"
  len : mg "len" = none
  lst : mg "list" = none
  gC : mg "BadBits" = some (.ref CB)
  q : PySem.W.excIn K CB [.type "ValueError", .type "Exception", .type "BaseException", .type "object"] "ValueError.__new__" = true
  kC : PySem.W.keepIn K (.ref CB) = true
  r1 : PySem.W.subIn K (.ref CB) (.type "BaseException") = some true
  r2 : PySem.W.typeIn K (.ref CB) = some (.type "type")
def RLInit (fs : Fs) (ds : List PyData) (out : OutO) : Prop := ∃ b : List Int, b.length ≤ 1000 ∧ fs = [] ∧ ds = [rowD b] ∧ out = .ret .none (layF b 0 "" 0)
def RPut (fs : Fs) (ds : List PyData) (out : OutO) : Prop := ∃ b n t c z, t.length + z.length ≤ 10000000 ∧ z.length ≤ 5000000 ∧ fs = layF b n t c ∧ ds = [.str z] ∧ out = .ret .none (layF b n (t ++ z) (c + z.length))
def RSide (CB : Addr) (fs : Fs) (ds : List PyData) (out : OutO) : Prop := ∃ b n t c, n ≤ b.length ∧ b.length ≤ 1000 ∧ fs = layF b n t c ∧ ds = [] ∧ out = match b[n]? with
  | some s => if s = 0 ∨ s = 1 then .ret (.int s) (layF b (n + 1) t c) else .exc (.ref CB) []
  | none => .exc (.ref CB) []
def REnd (fs : Fs) (ds : List PyData) (out : OutO) : Prop := ∃ (b : List Int) (n : Nat) (t : Str) (c m : Int) (f : Bool) (z : Str), (z = "line" ∨ z = "cut") ∧ 0 ≤ m ∧ m ≤ 4000000 ∧ t.length ≤ 4000000 ∧ fs = layF b n t c ∧ ds = [.str z, .int m, .bool f] ∧
  out = .ret .none (if f = true then layF b n (t ++ (if z = "line" then (" " : Str) else "")) (c + (if z = "line" then (" " : Str) else "").length) else layF b n (t ++ "\n" ++ Txt.mul " " m) m)
section
variable {P : Program} {w : World} {K : PySem.W.Frag} {mg : Str → Option Value} {base : Heap} {CL CB : Addr} {f : Addr} {fd : FuncData}
theorem ok_linit (F : Fun K "__init__" "Layer.__init__" s_Layer_init f fd) (G : LayT K mg CL CB) : FnOk P w K mg base (L2.CX P w) 1 f fd P_Layer_init (spO K CL 1 RLInit) := by
  refine okO_def F sc_Layer_init rfl fun cdv A outer s H E hr c fs ds out hc hl hR => ?_
  obtain ⟨b, hb, rfl, rfl, rfl⟩ := hR
  subst hc
  refine dss_cons (ds_fld 0 G.cl G.nB (de_new <| dl_list G.lst <| dp_list <| de_var 1 rfl ⟨_, rfl, _, rfl, by decide, ?_⟩))
  refine dss_cons (ds_fld 0 G.cl G.nA (de_int ⟨_, rfl, by show 1 < 1000; decide, ?_⟩))
  rw [i_1]
  refine dss_cons (ds_fld 0 G.cl G.nT (de_str ⟨_, rfl, by show 2 < 1000; decide, ?_⟩))
  rw [i_2]
  refine dss_one (ds_fld 0 G.cl G.nC (de_int ⟨_, rfl, by show 3 < 1000; decide, ?_⟩))
  rw [i_3]
  exact ⟨_, rfl, rfl⟩
theorem ok_put (F : Fun K "put" "Layer.put" s_Layer_put f fd) (G : LayT K mg CL CB) : FnOk P w K mg base (L2.CX P w) 1 f fd P_Layer_put (spO K CL 1 RPut) := by
  refine okO_def F sc_Layer_put rfl fun cdv A outer s H E hr ob fs ds out hc hl hR => ?_
  obtain ⟨b, n, t, c, z, h1, h2, rfl, rfl, rfl⟩ := hR
  subst hc
  refine dss_cons (ds_fld 0 G.cl G.nT (de_op op_catS <| de_fld 0 rfl l_text G.cl G.nT <| de_var 1 rfl ⟨_, od_catS (Nat.le_trans h1 (by decide)), _, rfl, by show 4 < 1000; decide, ?_⟩))
  rw [p_text]
  refine dss_one (ds_fld 0 G.cl G.nC (de_op op_add <| de_fld 0 rfl l_col G.cl G.nC <| de_cb call_lenR G.len boot_len <| da_cons <| de_var 1 rfl <| da_nil ⟨_, cd_lenS (Nat.le_trans h2 (by decide)), _, od_I0, _, rfl, by show 4 < 1000; decide, _, rfl, ?_⟩))
  rw [p_col]
theorem in_ints {s : Int} {A B : Prop} (hy : s ≠ 0 → s ≠ 1 → A) (hn : s = 0 ∨ s = 1 → B) : if (if true = true then !inV (vOf (.int s)) ([PyData.int 0, .int 1].map vOf) else inV (vOf (.int s)) ([PyData.int 0, .int 1].map vOf)) = true then A else B := by
  rw [if_pos rfl]
  have e : inV (vOf (.int s)) ([PyData.int 0, .int 1].map vOf) = (decide (s = 0) || decide (s = 1)) := by
    show (eqV (V.int 0) (V.int s) || (eqV (V.int 1) (V.int s) || false)) = _
    have e1 : ∀ i : Int, eqV (V.int i) (V.int s) = decide (s = i) := fun i => by
      show decide (i = s) = decide (s = i)
      exact decide_eq_decide.mpr ⟨Eq.symm, Eq.symm⟩
    rw [e1, e1, Bool.or_false]
  rw [e]
  by_cases h0 : s = 0
  · rw [decide_eq_true h0]; exact hn (.inl h0)
  · by_cases h1 : s = 1
    · rw [decide_eq_true h1, Bool.or_true]; exact hn (.inr h1)
    · rw [decide_eq_false h0, decide_eq_false h1]; exact hy h0 h1
theorem ok_side (F : Fun K "side" "Layer.side" s_Layer_side f fd) (G : LayT K mg CL CB) : FnOk P w K mg base (L2.CX P w) 2 f fd P_Layer_side (spO K CL 0 (RSide CB)) := by
  refine okO_def F sc_Layer_side rfl fun cdv A outer s H E hr ob fs ds out hc hl hR => ?_
  obtain ⟨b, n, t, c, hn, hb, rfl, rfl, rfl⟩ := hR
  subst hc
  have refuse : ∀ {D : DEnds} {ρ : Ev} {W : Wx}, W (.ref CB) [] → DSs (cxOf (L2.CX P w) P w K mg base N_Layer_side "Layer.side" (defScope s_Layer_side) f cdv A outer s H E) W (match (defBody s_Layer_side).getD 0 (.Pass ⟨0, 0, 0, 0⟩) with | .If _ b _ _ => b | _ => []) D ρ := fun {D ρ W} hW =>
    dss_one (ds_raise0 PySem.F.excBase_ValueError G.q G.gC G.kC (raises_own G.r1 G.r2) hW)
  refine dss_cons (ds_if <| dt_w <| dw_or <| dt_cmp op_eq (de_fld 0 rfl l_at G.cl G.nA <| de_cb call_lenR G.len boot_len <| da_cons <| de_fld 0 rfl l_bits G.cl G.nB <| da_nil ⟨_, cd_len rfl, _, od_eq rfl rfl rfl, ?_⟩) (nomark _))
  refine eqi (fun e => ?_) fun e => ?_
  · rw [List.length_map] at e
    have e2 : b[n]? = none := List.getElem?_eq_none (by omega)
    refine refuse ?_
    show _ = _
    rw [e2]
  · rw [List.length_map] at e
    have hlt : n < b.length := by omega
    have e2 : b[n]? = some b[n] := List.getElem?_eq_getElem hlt
    have hat : ∀ k : Nat, k < b.length → atI (b.map PyData.int) (k : Nat) = some (.int (b.getD k 0)) := fun k hk => atI_nat (by rw [List.getElem?_map, List.getElem?_eq_getElem hk, List.getD_eq_getElem?_getD, List.getElem?_eq_getElem hk]; rfl)
    have eg : b.getD n 0 = b[n] := by rw [List.getD_eq_getElem?_getD, e2]; rfl
    rw [e2]
    generalize b[n] = sd at eg ⊢
    refine dw_or1 <| dt_cmp op_notIn_seq (de_ix <| dp_list <| de_fld 0 rfl l_bits G.cl G.nB ⟨_, rfl, de_fld 0 rfl l_at G.cl G.nA ⟨_, _, rfl, hat n hlt, de_tup <| da_cons <| de_int <| da_cons <| de_int <| da_nil ⟨by show 2 ≤ sizeLine; decide, _, od_inT rfl rfl, ?_⟩⟩⟩) (by rfl)
    rw [eg]
    refine in_ints (fun h0 h1 => ?_) fun h => ?_
    · refine refuse ?_
      show (if sd = 0 ∨ sd = 1 then _ else _) = _
      rw [if_neg (fun z => z.elim h0 h1)]
    · refine dss_nil <| dss_cons (ds_fld 0 G.cl G.nA (de_op op_add <| de_fld 0 rfl l_at G.cl G.nA <| de_int ⟨_, od_I0, _, rfl, by show 4 < 1000; decide, ?_⟩))
      have ep : ((n : Int) + 1) = ((n + 1 : Nat) : Int) := by omega
      rw [ep, p_at]
      refine dss_one (ds_ret <| de_ix <| dp_list <| de_fld 0 rfl l_bits G.cl G.nB ⟨_, rfl, de_op op_sub <| de_fld 0 rfl l_at G.cl G.nA <| de_int ⟨_, od_I0, _, .int sd, rfl, ?_, ?_⟩⟩)
      · have em : ((n + 1 : Nat) : Int) - 1 = (n : Nat) := by omega
        rw [em, ← eg]; exact hat n hlt
      · refine ⟨_, rfl, ?_⟩
        show (if sd = 0 ∨ sd = 1 then _ else _) = _
        rw [if_pos h]
end
end Q
namespace Q
open PySem PySem.Spec PyProof.Rows L2 Pw
def outL (CB : Addr) (b : List Int) : Option (Nat × Str × Int) → OutO
  | some (n, t, c) => .ret .none (layF b n t c)
  | none => .exc (.ref CB) []
def RLayM (CB : Addr) (d : Nat) (fs : Fs) (ds : List PyData) (out : OutO) : Prop := ∃ (p : Pl) (b : List Int) (n : Nat) (t : Str) (c m : Int) (f : Bool) (S : Nat), okP p ∧ dpP p ≤ d ∧ n ≤ b.length ∧ b.length ≤ 1000 ∧ t.length ≤ S ∧ 0 ≤ c ∧ c ≤ (S : Int) ∧ 0 ≤ m ∧ m ≤ (S : Int) ∧ G p S ≤ 4000000 ∧
  fs = layF b n t c ∧ ds = [encP p, .int m, .bool f] ∧ out = outL CB b (layC p b n t c m f)
theorem layC_len : ∀ (p : Pl) (b : List Int) (n : Nat) (t : Str) (c m : Int) (f : Bool) (n' : Nat) (t' : Str) (c' : Int) (S : Nat), okP p → layC p b n t c m f = some (n', t', c') → n ≤ b.length → t.length ≤ S → 0 ≤ c → c ≤ (S : Int) → 0 ≤ m → m ≤ (S : Int) → n' ≤ b.length ∧ t'.length ≤ G p S ∧ 0 ≤ c' ∧ c' ≤ (G p S : Int)
  | .text z, b, n, t, c, m, f, n', t', c', S, h, e, hn, ht, c0, c1, m0, m1 => by
    cases e
    refine ⟨hn, ?_, by omega, ?_⟩
    · rw [app_len]; show _ ≤ S + z.length; omega
    · show _ ≤ ((S + z.length : Nat) : Int); omega
  | .line, b, n, t, c, m, f, n', t', c', S, h, e, hn, ht, c0, c1, m0, m1 => by
    cases f with
    | true =>
      cases e
      refine ⟨hn, ?_, by omega, ?_⟩
      · rw [app_len, show (" " : Str).length = 1 by decide +kernel]; show _ ≤ 2 * S + 1; omega
      · show _ ≤ ((2 * S + 1 : Nat) : Int); omega
    | false =>
      cases e
      refine ⟨hn, ?_, m0, ?_⟩
      · rw [app_as, app_len, nl_len]; show _ ≤ 2 * S + 1; omega
      · show _ ≤ ((2 * S + 1 : Nat) : Int); omega
  | .cut, b, n, t, c, m, f, n', t', c', S, h, e, hn, ht, c0, c1, m0, m1 => by
    cases f with
    | true =>
      cases e
      refine ⟨hn, ?_, by omega, ?_⟩
      · rw [app_len, show ("" : Str).length = 0 by decide +kernel]; show _ ≤ 2 * S + 1; omega
      · show _ ≤ ((2 * S + 1 : Nat) : Int); omega
    | false =>
      cases e
      refine ⟨hn, ?_, m0, ?_⟩
      · rw [app_as, app_len, nl_len]; show _ ≤ 2 * S + 1; omega
      · show _ ≤ ((2 * S + 1 : Nat) : Int); omega
  | .nest k p, b, n, t, c, m, f, n', t', c', S, h, e, hn, ht, c0, c1, m0, m1 => layC_len p b n t c (m + k) f n' t' c' (S + k.toNat) h.2.2 e hn (by omega) c0 (by have := h.1; omega) (by have := h.1; omega) (by have := h.1; omega)
  | .align p, b, n, t, c, m, f, n', t', c', S, h, e, hn, ht, c0, c1, m0, m1 => layC_len p b n t c c f n' t' c' S h e hn ht c0 c1 c0 c1
  | .flat p, b, n, t, c, m, f, n', t', c', S, h, e, hn, ht, c0, c1, m0, m1 => layC_len p b n t c m true n' t' c' S h e hn ht c0 c1 m0 m1
  | .choice x y, b, n, t, c, m, f, n', t', c', S, h, e, hn, ht, c0, c1, m0, m1 => by
    have gx : G x S ≤ G (.choice x y) S := Nat.le_max_left _ _
    have gy : G y S ≤ G (.choice x y) S := Nat.le_max_right _ _
    have e' : (match b[n]? with | none => none | some s => if s = 0 then layC x b (n + 1) t c m f else if s = 1 then layC y b (n + 1) t c m f else none) = some (n', t', c') := e
    cases q : b[n]? with
    | none => rw [q] at e'; cases e'
    | some s =>
      have hl := (List.getElem?_eq_some_iff.mp q).1
      rw [q] at e'
      have e2 : (if s = 0 then layC x b (n + 1) t c m f else if s = 1 then layC y b (n + 1) t c m f else none) = some (n', t', c') := e'
      by_cases s0 : s = 0
      · rw [if_pos s0] at e2
        obtain ⟨h1, h2, h3, h4⟩ := layC_len x b (n + 1) t c m f n' t' c' S h.1 e2 hl ht c0 c1 m0 m1
        exact ⟨h1, Nat.le_trans h2 gx, h3, by omega⟩
      · rw [if_neg s0] at e2
        by_cases s1 : s = 1
        · rw [if_pos s1] at e2
          obtain ⟨h1, h2, h3, h4⟩ := layC_len y b (n + 1) t c m f n' t' c' S h.2 e2 hl ht c0 c1 m0 m1
          exact ⟨h1, Nat.le_trans h2 gy, h3, by omega⟩
        · rw [if_neg s1] at e2; cases e2
  | .beside x y, b, n, t, c, m, f, n', t', c', S, h, e, hn, ht, c0, c1, m0, m1 => by
    have e' : (match layC x b n t c m f with | some (n', t', c') => layC y b n' t' c' m f | none => none) = some (n', t', c') := e
    cases q : layC x b n t c m f with
    | none => rw [q] at e'; cases e'
    | some r =>
      obtain ⟨n1, t1, k1⟩ := r
      rw [q] at e'
      obtain ⟨h1, h2, h3, h4⟩ := layC_len x b n t c m f n1 t1 k1 S h.1 q hn ht c0 c1 m0 m1
      have g := G_ge x S
      exact layC_len y b n1 t1 k1 m f n' t' c' (G x S) h.2 e' h1 h2 h3 h4 m0 (by omega)
section
variable {P : Program} {w : World} {K : PySem.W.Frag} {mg : Str → Option Value} {base : Heap} {CL CB : Addr} {f : Addr} {fd : FuncData}
theorem ok_end (F : Fun K "end" "Layer.end" s_Layer_end f fd) (G : LayT K mg CL CB) (GP : KnM P w K mg base CL "put" 1 (spO K CL 1 RPut)) : FnOk P w K mg base (L2.CX P w) 2 f fd P_Layer_end (spO K CL 3 REnd) := by
  refine okO_def F sc_Layer_end rfl fun cdv A outer s H E hr ob fs ds out hc hl hR => ?_
  obtain ⟨b, n, t, c, m, f, z, hz, m0, m1, ht, rfl, rfl, rfl⟩ := hR
  subst hc
  refine dss_one (ds_if <| dt_val <| de_var 3 rfl ⟨f, rfl, ?_⟩)
  cases f with
  | true =>
    refine iteT <| dss_one (ds_expr (de_meth 0 GP hr rfl l_no <| da_cons <| de_if <| dt_cmp op_eq (de_var 1 rfl <| de_str ⟨_, od_eq rfl rfl rfl, ?_⟩) (nomark _)))
    refine eqs (fun e => ?_) fun e => ?_
    · subst e
      exact de_str <| da_nil ⟨rfl, _, rfl, _, ⟨b, n, t, c, " ", by rw [show (" " : Str).length = 1 by decide +kernel]; omega, by decide +kernel, rfl, rfl, rfl⟩, _, rfl, rfl⟩
    · have ez : z = "cut" := hz.elim (fun x => absurd x e) id
      subst ez
      exact de_str <| da_nil ⟨rfl, _, rfl, _, ⟨b, n, t, c, "", by rw [show ("" : Str).length = 0 by decide +kernel]; omega, by decide +kernel, rfl, rfl, rfl⟩, _, rfl, rfl⟩
  | false =>
    refine iteF <| dss_cons (ds_fld 0 G.cl G.nT (de_op op_catS <| de_op op_catS <| de_fld 0 rfl l_text G.cl G.nT <| de_str ⟨_, od_catS ?_, de_op op_mulS <| de_str <| de_var 2 rfl ⟨_, od_mulS (nl_ok m0 m1), _, od_catS ?_, _, rfl, by show 4 < 1000; decide, ?_⟩⟩))
    · rw [show ("\n" : Str).length = 1 by decide +kernel]; exact Nat.le_trans (show _ ≤ 5000000 by omega) (by decide)
    · rw [app_len, show ("\n" : Str).length = 1 by decide +kernel, sp_eq, mul_one_len]; exact Nat.le_trans (show _ ≤ 9000000 by omega) (by decide)
    rw [p_text]
    refine dss_one (ds_fld 0 G.cl G.nC (de_var 2 rfl ⟨_, rfl, by show 4 < 1000; decide, ?_⟩))
    rw [p_col]
    exact ⟨_, rfl, rfl⟩
theorem ok_lay1 (F : Fun K "lay" "Layer.lay" s_Layer_lay f fd) (T : LayT K mg CL CB) (GP : KnM P w K mg base CL "put" 1 (spO K CL 1 RPut)) (GS : KnM P w K mg base CL "side" 2 (spO K CL 0 (RSide CB))) (GE : KnM P w K mg base CL "end" 2 (spO K CL 3 REnd)) {d k : Nat} (hk : 2 ≤ k)
    (ih : ∀ e, d = e + 1 → KnM P w K mg base CL "lay" k (spO K CL 3 (RLayM CB e))) : FnOk P w K mg base (L2.CX P w) (k + 1) f fd P_Layer_lay (spO K CL 3 (RLayM CB d)) := by
  refine okO_def F sc_Layer_lay rfl fun cdv A outer s H E hr ob fs ds out hc hl hR => ?_
  obtain ⟨p, b, n, t, c, m, f, S, hok, hdp, hn, hb, ht, c0, c1, m0, m1, hG, rfl, rfl, rfl⟩ := hR
  subst hc
  have hS : S ≤ 4000000 := Nat.le_trans (G_ge p S) hG
  cases p with
  | text z =>
    refine dss_cons (ds_set 4 (de_ix <| dp_tup <| de_var 1 rfl ⟨_, rfl, de_int ⟨_, _, rfl, rfl, ?_⟩⟩) sc_Layer_lay.nd)
    refine dss_one (ds_if <| dt_cmp op_eq (de_var 4 rfl <| de_str ⟨_, od_eq rfl rfl rfl, ?_⟩) (nomark _))
    refine eqs_yes rfl ?_
    have hz := hok.1
    exact dss_one (ds_expr (de_meth 0 GP (hr.mono (by omega)) rfl l_no <| da_cons <| de_ix <| dp_tup <| de_var 1 rfl ⟨_, rfl, de_int ⟨_, _, rfl, rfl, da_nil ⟨rfl, _, rfl, _, ⟨b, n, t, c, z, by omega, by omega, rfl, rfl, rfl⟩, _, rfl, rfl⟩⟩⟩))
  | line =>
    refine dss_cons (ds_set 4 (de_ix <| dp_tup <| de_var 1 rfl ⟨_, rfl, de_int ⟨_, _, rfl, rfl, ?_⟩⟩) sc_Layer_lay.nd)
    refine dss_one (ds_if <| dt_cmp op_eq (de_var 4 rfl <| de_str ⟨_, od_eq rfl rfl rfl, ?_⟩) (nomark _))
    refine eqs_no (show ¬ (("line" : Str) = "text") by decide +kernel) ?_
    refine dss_one (ds_if <| dt_cmp op_in_seq (de_var 4 rfl <| de_tup <| da_cons <| de_str <| da_cons <| de_str <| da_nil ⟨by show 2 ≤ sizeLine; decide, _, od_inT rfl rfl, ?_⟩) (by rfl))
    refine in_strs ["line", "cut"] rfl (fun _ => ?_) fun c => absurd (show ("line" : Str) ∈ (["line", "cut"] : List Str) by decide +kernel) c
    refine dss_one (ds_expr (de_meth 0 GE (hr.mono (by omega)) rfl l_no <| da_cons <| de_var 4 rfl <| da_cons <| de_var 2 rfl <| da_cons <| de_var 3 rfl <| da_nil ⟨rfl, _, rfl, _, ⟨b, n, t, c, m, f, "line", .inl rfl, m0, by omega, by omega, rfl, rfl, rfl⟩, ?_⟩))
    cases f with
    | true =>
      refine ⟨_, rfl, ?_⟩
      rw [if_pos rfl, if_pos rfl]
      rfl
    | false => exact ⟨_, rfl, rfl⟩
  | cut =>
    refine dss_cons (ds_set 4 (de_ix <| dp_tup <| de_var 1 rfl ⟨_, rfl, de_int ⟨_, _, rfl, rfl, ?_⟩⟩) sc_Layer_lay.nd)
    refine dss_one (ds_if <| dt_cmp op_eq (de_var 4 rfl <| de_str ⟨_, od_eq rfl rfl rfl, ?_⟩) (nomark _))
    refine eqs_no (show ¬ (("cut" : Str) = "text") by decide +kernel) ?_
    refine dss_one (ds_if <| dt_cmp op_in_seq (de_var 4 rfl <| de_tup <| da_cons <| de_str <| da_cons <| de_str <| da_nil ⟨by show 2 ≤ sizeLine; decide, _, od_inT rfl rfl, ?_⟩) (by rfl))
    refine in_strs ["line", "cut"] rfl (fun _ => ?_) fun c => absurd (show ("cut" : Str) ∈ (["line", "cut"] : List Str) by decide +kernel) c
    refine dss_one (ds_expr (de_meth 0 GE (hr.mono (by omega)) rfl l_no <| da_cons <| de_var 4 rfl <| da_cons <| de_var 2 rfl <| da_cons <| de_var 3 rfl <| da_nil ⟨rfl, _, rfl, _, ⟨b, n, t, c, m, f, "cut", .inr rfl, m0, by omega, by omega, rfl, rfl, rfl⟩, ?_⟩))
    cases f with
    | true =>
      refine ⟨_, rfl, ?_⟩
      rw [if_pos rfl, if_neg (show ¬ (("cut" : Str) = "line") by decide +kernel)]
      rfl
    | false => exact ⟨_, rfl, rfl⟩
  | nest i p =>
    obtain ⟨e, rfl⟩ : ∃ e, d = e + 1 := ⟨d - 1, by have h0 := hdp; unfold dpP at h0; omega⟩
    have ih := ih e rfl
    have hd := Nat.le_of_succ_le_succ (show _ + 1 ≤ e + 1 from hdp)
    obtain ⟨i0, i1, hp⟩ := hok
    refine dss_cons (ds_set 4 (de_ix <| dp_tup <| de_var 1 rfl ⟨_, rfl, de_int ⟨_, _, rfl, rfl, ?_⟩⟩) sc_Layer_lay.nd)
    refine dss_one (ds_if <| dt_cmp op_eq (de_var 4 rfl <| de_str ⟨_, od_eq rfl rfl rfl, ?_⟩) (nomark _))
    refine eqs_no (show ¬ (("nest" : Str) = "text") by decide +kernel) ?_
    refine dss_one (ds_if <| dt_cmp op_in_seq (de_var 4 rfl <| de_tup <| da_cons <| de_str <| da_cons <| de_str <| da_nil ⟨by show 2 ≤ sizeLine; decide, _, od_inT rfl rfl, ?_⟩) (by rfl))
    refine in_strs ["line", "cut"] rfl (fun c => absurd c (show ¬ ("nest" : Str) ∈ (["line", "cut"] : List Str) by decide +kernel)) fun _ => ?_
    refine dss_one (ds_if <| dt_cmp op_eq (de_var 4 rfl <| de_str ⟨_, od_eq rfl rfl rfl, ?_⟩) (nomark _))
    refine eqs_yes rfl ?_
    refine dss_one (ds_expr (de_meth 0 ih hr rfl l_no <| da_cons <| de_ix <| dp_tup <| de_var 1 rfl ⟨_, rfl, de_int ⟨_, _, rfl, rfl, da_cons <| de_op op_add <| de_var 2 rfl <| de_ix <| dp_tup <| de_var 1 rfl ⟨_, rfl, de_int ⟨_, _, rfl, rfl, _, od_I0, da_cons <| de_var 3 rfl <| da_nil ⟨rfl, _, rfl, _, ⟨p, b, n, t, c, m + i, f, S + i.toNat, hp, hd, hn, hb, by omega, c0, by omega, by omega, by omega, hG, rfl, rfl, rfl⟩, ?_⟩⟩⟩⟩⟩))
    have el : layC (.nest i p) b n t c m f = layC p b n t c (m + i) f := rfl
    rw [el]
    cases q : layC p b n t c (m + i) f with
    | none => show OutO.exc _ _ = _; rfl
    | some r => exact ⟨_, rfl, rfl⟩
  | align p =>
    obtain ⟨e, rfl⟩ : ∃ e, d = e + 1 := ⟨d - 1, by have h0 := hdp; unfold dpP at h0; omega⟩
    have ih := ih e rfl
    have hd := Nat.le_of_succ_le_succ (show _ + 1 ≤ e + 1 from hdp)
    refine dss_cons (ds_set 4 (de_ix <| dp_tup <| de_var 1 rfl ⟨_, rfl, de_int ⟨_, _, rfl, rfl, ?_⟩⟩) sc_Layer_lay.nd)
    refine dss_one (ds_if <| dt_cmp op_eq (de_var 4 rfl <| de_str ⟨_, od_eq rfl rfl rfl, ?_⟩) (nomark _))
    refine eqs_no (show ¬ (("align" : Str) = "text") by decide +kernel) ?_
    refine dss_one (ds_if <| dt_cmp op_in_seq (de_var 4 rfl <| de_tup <| da_cons <| de_str <| da_cons <| de_str <| da_nil ⟨by show 2 ≤ sizeLine; decide, _, od_inT rfl rfl, ?_⟩) (by rfl))
    refine in_strs ["line", "cut"] rfl (fun c => absurd c (show ¬ ("align" : Str) ∈ (["line", "cut"] : List Str) by decide +kernel)) fun _ => ?_
    refine dss_one (ds_if <| dt_cmp op_eq (de_var 4 rfl <| de_str ⟨_, od_eq rfl rfl rfl, ?_⟩) (nomark _))
    refine eqs_no (show ¬ (("align" : Str) = "nest") by decide +kernel) ?_
    refine dss_one (ds_if <| dt_cmp op_eq (de_var 4 rfl <| de_str ⟨_, od_eq rfl rfl rfl, ?_⟩) (nomark _))
    refine eqs_yes rfl ?_
    refine dss_one (ds_expr (de_meth 0 ih hr rfl l_no <| da_cons <| de_ix <| dp_tup <| de_var 1 rfl ⟨_, rfl, de_int ⟨_, _, rfl, rfl, da_cons <| de_fld 0 rfl l_col T.cl T.nC <| da_cons <| de_var 3 rfl <| da_nil ⟨rfl, _, rfl, _, ⟨p, b, n, t, c, c, f, S, hok, hd, hn, hb, ht, c0, c1, c0, c1, hG, rfl, rfl, rfl⟩, ?_⟩⟩⟩))
    have el : layC (.align p) b n t c m f = layC p b n t c c f := rfl
    rw [el]
    cases q : layC p b n t c c f with
    | none => show OutO.exc _ _ = _; rfl
    | some r => exact ⟨_, rfl, rfl⟩
  | flat p =>
    obtain ⟨e, rfl⟩ : ∃ e, d = e + 1 := ⟨d - 1, by have h0 := hdp; unfold dpP at h0; omega⟩
    have ih := ih e rfl
    have hd := Nat.le_of_succ_le_succ (show _ + 1 ≤ e + 1 from hdp)
    refine dss_cons (ds_set 4 (de_ix <| dp_tup <| de_var 1 rfl ⟨_, rfl, de_int ⟨_, _, rfl, rfl, ?_⟩⟩) sc_Layer_lay.nd)
    refine dss_one (ds_if <| dt_cmp op_eq (de_var 4 rfl <| de_str ⟨_, od_eq rfl rfl rfl, ?_⟩) (nomark _))
    refine eqs_no (show ¬ (("flat" : Str) = "text") by decide +kernel) ?_
    refine dss_one (ds_if <| dt_cmp op_in_seq (de_var 4 rfl <| de_tup <| da_cons <| de_str <| da_cons <| de_str <| da_nil ⟨by show 2 ≤ sizeLine; decide, _, od_inT rfl rfl, ?_⟩) (by rfl))
    refine in_strs ["line", "cut"] rfl (fun c => absurd c (show ¬ ("flat" : Str) ∈ (["line", "cut"] : List Str) by decide +kernel)) fun _ => ?_
    refine dss_one (ds_if <| dt_cmp op_eq (de_var 4 rfl <| de_str ⟨_, od_eq rfl rfl rfl, ?_⟩) (nomark _))
    refine eqs_no (show ¬ (("flat" : Str) = "nest") by decide +kernel) ?_
    refine dss_one (ds_if <| dt_cmp op_eq (de_var 4 rfl <| de_str ⟨_, od_eq rfl rfl rfl, ?_⟩) (nomark _))
    refine eqs_no (show ¬ (("flat" : Str) = "align") by decide +kernel) ?_
    refine dss_one (ds_if <| dt_cmp op_eq (de_var 4 rfl <| de_str ⟨_, od_eq rfl rfl rfl, ?_⟩) (nomark _))
    refine eqs_yes rfl ?_
    refine dss_one (ds_expr (de_meth 0 ih hr rfl l_no <| da_cons <| de_ix <| dp_tup <| de_var 1 rfl ⟨_, rfl, de_int ⟨_, _, rfl, rfl, da_cons <| de_var 2 rfl <| da_cons <| de_bl <| da_nil ⟨rfl, _, rfl, _, ⟨p, b, n, t, c, m, true, S, hok, hd, hn, hb, ht, c0, c1, m0, m1, hG, rfl, rfl, rfl⟩, ?_⟩⟩⟩))
    have el : layC (.flat p) b n t c m f = layC p b n t c m true := rfl
    rw [el]
    cases q : layC p b n t c m true with
    | none => show OutO.exc _ _ = _; rfl
    | some r => exact ⟨_, rfl, rfl⟩
  | beside x y =>
    obtain ⟨e, rfl⟩ : ∃ e, d = e + 1 := ⟨d - 1, by have h0 := hdp; unfold dpP at h0; omega⟩
    have ih := ih e rfl
    have hd := Nat.le_of_succ_le_succ (show _ + 1 ≤ e + 1 from hdp)
    obtain ⟨hx, hy⟩ := hok
    have gxy := G_ge y (G x S)
    refine dss_cons (ds_set 4 (de_ix <| dp_tup <| de_var 1 rfl ⟨_, rfl, de_int ⟨_, _, rfl, rfl, ?_⟩⟩) sc_Layer_lay.nd)
    refine dss_one (ds_if <| dt_cmp op_eq (de_var 4 rfl <| de_str ⟨_, od_eq rfl rfl rfl, ?_⟩) (nomark _))
    refine eqs_no (show ¬ (("beside" : Str) = "text") by decide +kernel) ?_
    refine dss_one (ds_if <| dt_cmp op_in_seq (de_var 4 rfl <| de_tup <| da_cons <| de_str <| da_cons <| de_str <| da_nil ⟨by show 2 ≤ sizeLine; decide, _, od_inT rfl rfl, ?_⟩) (by rfl))
    refine in_strs ["line", "cut"] rfl (fun c => absurd c (show ¬ ("beside" : Str) ∈ (["line", "cut"] : List Str) by decide +kernel)) fun _ => ?_
    refine dss_one (ds_if <| dt_cmp op_eq (de_var 4 rfl <| de_str ⟨_, od_eq rfl rfl rfl, ?_⟩) (nomark _))
    refine eqs_no (show ¬ (("beside" : Str) = "nest") by decide +kernel) ?_
    refine dss_one (ds_if <| dt_cmp op_eq (de_var 4 rfl <| de_str ⟨_, od_eq rfl rfl rfl, ?_⟩) (nomark _))
    refine eqs_no (show ¬ (("beside" : Str) = "align") by decide +kernel) ?_
    refine dss_one (ds_if <| dt_cmp op_eq (de_var 4 rfl <| de_str ⟨_, od_eq rfl rfl rfl, ?_⟩) (nomark _))
    refine eqs_no (show ¬ (("beside" : Str) = "flat") by decide +kernel) ?_
    refine dss_one (ds_if <| dt_cmp op_eq (de_var 4 rfl <| de_str ⟨_, od_eq rfl rfl rfl, ?_⟩) (nomark _))
    refine eqs_yes rfl ?_
    refine dss_cons (ds_expr (de_meth 0 ih hr rfl l_no <| da_cons <| de_ix <| dp_tup <| de_var 1 rfl ⟨_, rfl, de_int ⟨_, _, rfl, rfl, da_cons <| de_var 2 rfl <| da_cons <| de_var 3 rfl <| da_nil ⟨rfl, _, rfl, _, ⟨x, b, n, t, c, m, f, S, hx, by omega, hn, hb, ht, c0, c1, m0, m1, Nat.le_trans gxy hG, rfl, rfl, rfl⟩, ?_⟩⟩⟩))
    have el : layC (.beside x y) b n t c m f = match layC x b n t c m f with | some (n', t', c') => layC y b n' t' c' m f | none => none := rfl
    cases q : layC x b n t c m f with
    | none =>
      rw [q] at el
      rw [el]
      show OutO.exc _ _ = _
      rfl
    | some r =>
      obtain ⟨n1, t1, k1⟩ := r
      rw [q] at el
      have el : layC (.beside x y) b n t c m f = layC y b n1 t1 k1 m f := el
      rw [el]
      obtain ⟨h1, h2, h3, h4⟩ := layC_len x b n t c m f n1 t1 k1 S hx q hn ht c0 c1 m0 m1
      have g := G_ge x S
      refine dss_one (ds_expr (de_meth 0 ih hr rfl l_no <| da_cons <| de_ix <| dp_tup <| de_var 1 rfl ⟨_, rfl, de_int ⟨_, _, rfl, rfl, da_cons <| de_var 2 rfl <| da_cons <| de_var 3 rfl <| da_nil ⟨rfl, _, rfl, _, ⟨y, b, n1, t1, k1, m, f, G x S, hy, by omega, h1, hb, h2, h3, h4, m0, by omega, hG, rfl, rfl, rfl⟩, ?_⟩⟩⟩))
      cases q2 : layC y b n1 t1 k1 m f with
      | none => show OutO.exc _ _ = _; rfl
      | some r2 => exact ⟨_, rfl, rfl⟩
  | choice x y =>
    obtain ⟨e, rfl⟩ : ∃ e, d = e + 1 := ⟨d - 1, by have h0 := hdp; unfold dpP at h0; omega⟩
    have ih := ih e rfl
    have hd := Nat.le_of_succ_le_succ (show _ + 1 ≤ e + 1 from hdp)
    obtain ⟨hx, hy⟩ := hok
    have gx : G x S ≤ 4000000 := Nat.le_trans (Nat.le_max_left _ _) hG
    have gy : G y S ≤ 4000000 := Nat.le_trans (Nat.le_max_right _ _) hG
    refine dss_cons (ds_set 4 (de_ix <| dp_tup <| de_var 1 rfl ⟨_, rfl, de_int ⟨_, _, rfl, rfl, ?_⟩⟩) sc_Layer_lay.nd)
    refine dss_one (ds_if <| dt_cmp op_eq (de_var 4 rfl <| de_str ⟨_, od_eq rfl rfl rfl, ?_⟩) (nomark _))
    refine eqs_no (show ¬ (("choice" : Str) = "text") by decide +kernel) ?_
    refine dss_one (ds_if <| dt_cmp op_in_seq (de_var 4 rfl <| de_tup <| da_cons <| de_str <| da_cons <| de_str <| da_nil ⟨by show 2 ≤ sizeLine; decide, _, od_inT rfl rfl, ?_⟩) (by rfl))
    refine in_strs ["line", "cut"] rfl (fun c => absurd c (show ¬ ("choice" : Str) ∈ (["line", "cut"] : List Str) by decide +kernel)) fun _ => ?_
    refine dss_one (ds_if <| dt_cmp op_eq (de_var 4 rfl <| de_str ⟨_, od_eq rfl rfl rfl, ?_⟩) (nomark _))
    refine eqs_no (show ¬ (("choice" : Str) = "nest") by decide +kernel) ?_
    refine dss_one (ds_if <| dt_cmp op_eq (de_var 4 rfl <| de_str ⟨_, od_eq rfl rfl rfl, ?_⟩) (nomark _))
    refine eqs_no (show ¬ (("choice" : Str) = "align") by decide +kernel) ?_
    refine dss_one (ds_if <| dt_cmp op_eq (de_var 4 rfl <| de_str ⟨_, od_eq rfl rfl rfl, ?_⟩) (nomark _))
    refine eqs_no (show ¬ (("choice" : Str) = "flat") by decide +kernel) ?_
    refine dss_one (ds_if <| dt_cmp op_eq (de_var 4 rfl <| de_str ⟨_, od_eq rfl rfl rfl, ?_⟩) (nomark _))
    refine eqs_no (show ¬ (("choice" : Str) = "beside") by decide +kernel) ?_
    have el : layC (.choice x y) b n t c m f = match b[n]? with | none => none | some s => if s = 0 then layC x b (n + 1) t c m f else if s = 1 then layC y b (n + 1) t c m f else none := rfl
    refine dss_one (ds_expr (de_meth 0 ih hr rfl l_no <| da_cons <| de_ix <| dp_tup <| de_var 1 rfl ⟨_, rfl, de_op op_add <| de_int <| de_meth0 0 GS (hr.mono (by omega)) rfl l_no ⟨_, ⟨b, n, t, c, hn, hb, rfl, rfl, rfl⟩, ?_⟩⟩))
    cases q : b[n]? with
    | none =>
      rw [q] at el
      have el : layC (.choice x y) b n t c m f = none := el
      rw [el]
      show OutO.exc _ _ = _
      rfl
    | some sd =>
      have hl := (List.getElem?_eq_some_iff.mp q).1
      rw [q] at el
      have el : layC (.choice x y) b n t c m f = if sd = 0 then layC x b (n + 1) t c m f else if sd = 1 then layC y b (n + 1) t c m f else none := el
      by_cases s0 : sd = 0
      · subst s0
        rw [if_pos rfl] at el
        rw [el]
        dsimp only
        rw [if_pos (.inl rfl)]
        refine ⟨_, od_I0, _, encP x, rfl, by rfl, da_cons <| de_var 2 rfl <| da_cons <| de_var 3 rfl <| da_nil ⟨rfl, _, rfl, _, ⟨x, b, n + 1, t, c, m, f, S, hx, by omega, hl, hb, ht, c0, c1, m0, m1, gx, rfl, rfl, rfl⟩, ?_⟩⟩
        cases q2 : layC x b (n + 1) t c m f with
        | none => show OutO.exc _ _ = _; rfl
        | some r => exact ⟨_, rfl, rfl⟩
      · by_cases s1 : sd = 1
        · subst s1
          rw [if_neg s0, if_pos rfl] at el
          rw [el]
          dsimp only
          rw [if_pos (.inr rfl)]
          refine ⟨_, od_I0, _, encP y, rfl, by rfl, da_cons <| de_var 2 rfl <| da_cons <| de_var 3 rfl <| da_nil ⟨rfl, _, rfl, _, ⟨y, b, n + 1, t, c, m, f, S, hy, by omega, hl, hb, ht, c0, c1, m0, m1, gy, rfl, rfl, rfl⟩, ?_⟩⟩
          cases q2 : layC y b (n + 1) t c m f with
          | none => show OutO.exc _ _ = _; rfl
          | some r => exact ⟨_, rfl, rfl⟩
        · rw [if_neg s0, if_neg s1] at el
          rw [el]
          dsimp only
          rw [if_neg (fun z => z.elim s0 s1)]
          show OutO.exc _ _ = _
          rfl
end
end Q
namespace Q
open PySem PySem.Spec PyProof.Rows L2 Pw
def RLaid (CB : Addr) (ds : List PyData) (out : Out) : Prop := ∃ (p : Pl) (b : List Int) (d : Nat), okP p ∧ dpP p ≤ 8 ∧ G p 0 ≤ 4000000 ∧ b.length ≤ 1000 ∧ ds = [encP p, rowD b] ∧ out = match layC p b 0 "" 0 0 false with
  | some (n, t, _) => if n < b.length then .exc (.ref CB) [] else .ret (.str t)
  | none => .exc (.ref CB) []
section
variable {P : Program} {w : World} {K : PySem.W.Frag} {mg : Str → Option Value} {base : Heap} {CL CB : Addr} {f : Addr} {fd : FuncData}
theorem kn_lays (F : Fun K "lay" "Layer.lay" s_Layer_lay f fd) (hb : L2.Binds K fd P_Layer_lay []) (hM : Meth K CL "lay" f) (T : LayT K mg CL CB) (GP : KnM P w K mg base CL "put" 1 (spO K CL 1 RPut)) (GS : KnM P w K mg base CL "side" 2 (spO K CL 0 (RSide CB))) (GE : KnM P w K mg base CL "end" 2 (spO K CL 3 REnd)) :
    ∀ d, KnM P w K mg base CL "lay" (d + 3) (spO K CL 3 (RLayM CB d)) := by
  intro d
  induction d with
  | zero => exact ⟨⟨f, fd, _, ok_lay1 F T GP GS GE (Nat.le_refl 2) fun e h => by omega, hM, hb⟩, T.cl⟩
  | succ d ih => exact ⟨⟨f, fd, _, ok_lay1 F T GP GS GE (k := d + 3) (by omega) fun e h => Nat.succ.inj h ▸ ih, hM, hb⟩, T.cl⟩
theorem kn_laid (F : Fun K "laid" "laid" s_laid f fd) (hm : mg "laid" = some (.ref f)) (hb : L2.Binds K fd P_laid []) (T : LayT K mg CL CB) (GC : KnC P w K mg base "Layer" CL 1 (spO K CL 1 RLInit)) (GL : KnM P w K mg base CL "lay" 11 (spO K CL 3 (RLayM CB 8))) : Kn P w K mg base "laid" 12 (spP K 2 (RLaid CB)) := by
  refine kn_def F sc_laid hm hb rfl fun cdv A outer s H E hr ds out hl hR => ?_
  obtain ⟨p, b, _, hok, hdp, hG, hbl, rfl, rfl⟩ := hR
  refine dss_cons (ds_make 2 GC (hr.mono (by decide)) (da_cons <| de_var 1 rfl <| da_nil ⟨rfl, _, ⟨b, hbl, rfl, rfl, rfl⟩, ?_⟩) sc_laid.nd)
  refine ⟨rfl, fun aa dx => ?_⟩
  refine dss_cons (ds_expr (de_meth (c := ⟨aa, dx, CL⟩) 2 GL hr rfl l_no <| da_cons <| de_var 0 rfl <| da_cons <| de_int <| da_cons <| de_bl <| da_nil ⟨rfl, _, rfl, _, ⟨p, b, 0, "", 0, 0, false, 0, hok, hdp, Nat.zero_le _, hbl, by decide +kernel, by decide, by decide, by decide, by decide, hG, rfl, rfl, rfl⟩, ?_⟩))
  cases q : layC p b 0 "" 0 0 false with
  | none => rfl
  | some r =>
    obtain ⟨n, t, c⟩ := r
    refine dss_cons (ds_if <| dt_cmp op_lt (de_fld (c := ⟨aa, dx, CL⟩) 2 rfl l_at T.cl T.nA <| de_cb call_lenR T.len boot_len <| da_cons <| de_fld (c := ⟨aa, dx, CL⟩) 2 rfl l_bits T.cl T.nB <| da_nil ⟨_, cd_len rfl, _, od_B0, ?_⟩) (nomark _))
    refine dec_iff (fun h => ?_) fun h => ?_
    · rw [List.length_map] at h
      refine dss_one (ds_raise0 PySem.F.excBase_ValueError T.q T.gC T.kC (raises_own T.r1 T.r2) ?_)
      exact if_pos (by omega)
    · rw [List.length_map] at h
      refine dss_nil <| dss_one (ds_ret <| de_fld (c := ⟨aa, dx, CL⟩) 2 rfl l_text T.cl T.nT ?_)
      exact if_neg (by omega)
end
end Q
namespace Q
open PySem PySem.Spec PyProof.Rows L2 Pw
theorem whole_row (b : List Int) : Whole (rowD b) := by
  have h : PyData.canLayAll0 (b.map .int) = true ∧ noDicts (b.map .int) = true ∧ PyData.depthAll (b.map .int) = 0 := by
    induction b with
    | nil => exact ⟨rfl, rfl, rfl⟩
    | cons a b ih =>
      obtain ⟨h1, h2, h3⟩ := ih
      refine ⟨?_, ?_, ?_⟩
      · show (true && PyData.canLayAll0 (b.map .int)) = true
        rw [h1]; rfl
      · show (true && noDicts (b.map .int)) = true
        rw [h2]; rfl
      · show max 0 (PyData.depthAll (b.map .int)) = 0
        rw [h3]; rfl
  obtain ⟨h1, h2, h3⟩ := h
  refine ⟨h2, ?_⟩
  show (PyData.canLayAll0 (b.map .int) && decide (PyData.depthAll (b.map .int) + 1 ≤ 64)) = true
  rw [h1, h3]; rfl
theorem whole_rows (l : List (List Int)) : Whole (.list (l.map rowD)) := by
  have h : PyData.canLayAll0 (l.map rowD) = true ∧ noDicts (l.map rowD) = true ∧ PyData.depthAll (l.map rowD) ≤ 1 := by
    induction l with
    | nil => exact ⟨rfl, rfl, Nat.zero_le _⟩
    | cons a l ih =>
      obtain ⟨h1, h2, h3⟩ := ih
      have wa := whole_row a
      have c := SeqAt.canLay_of_shaped wa.sh
      have dz : PyData.depth (rowD a) ≤ 1 := by
        show PyData.depthAll (a.map .int) + 1 ≤ 1
        have : ∀ b : List Int, PyData.depthAll (b.map .int) = 0 := fun b => by
          induction b with
          | nil => rfl
          | cons x b ih => show max 0 (PyData.depthAll (b.map .int)) = 0; rw [ih]; rfl
        rw [this]
        exact Nat.le_refl _
      refine ⟨?_, ?_, ?_⟩
      · show (PyData.canLay0 (rowD a) && PyData.canLayAll0 (l.map rowD)) = true
        rw [c, h1]; rfl
      · show (noDict (rowD a) && noDicts (l.map rowD)) = true
        rw [wa.nd, h2]; rfl
      · show max (PyData.depth (rowD a)) (PyData.depthAll (l.map rowD)) ≤ 1
        omega
  obtain ⟨h1, h2, h3⟩ := h
  refine ⟨h2, ?_⟩
  show (PyData.canLayAll0 (l.map rowD) && decide (PyData.depthAll (l.map rowD) + 1 ≤ 64)) = true
  rw [h1, decide_eq_true (by omega)]; rfl
theorem eqv_row : ∀ {a b : List Int}, PyData.eqv (rowD a) (rowD b) = true ↔ a = b := by
  intro a b
  have key : ∀ a b : List Int, PyData.eqvAll (a.map .int) (b.map .int) = true ↔ a = b := by
    intro a
    induction a with
    | nil => intro b; cases b with
      | nil => exact ⟨fun _ => rfl, fun _ => rfl⟩
      | cons y b => exact ⟨fun h => (nomatch h), fun h => (nomatch h)⟩
    | cons x a ih => intro b; cases b with
      | nil => exact ⟨fun h => (nomatch h), fun h => (nomatch h)⟩
      | cons y b =>
        show (PyData.eqv (.int x) (.int y) && PyData.eqvAll (a.map .int) (b.map .int)) = true ↔ _
        have e1 : PyData.eqv (.int x) (.int y) = true ↔ x = y := by simp [PyData.eqv]
        rw [Bool.and_eq_true, e1, ih b]
        exact ⟨fun ⟨h1, h2⟩ => by rw [h1, h2], fun h => ⟨(List.cons.inj h).1, (List.cons.inj h).2⟩⟩
  show PyData.eqv (.list (a.map .int)) (.list (b.map .int)) = true ↔ _
  rw [show PyData.eqv (.list (a.map .int)) (.list (b.map .int)) = PyData.eqvAll (a.map .int) (b.map .int) by rw [PyData.eqv]]
  exact key a b
theorem any_row (b : List Int) (l : List (List Int)) : ((l.map rowD).any fun z => PyData.eqv z (rowD b)) = decide (b ∈ l) := by
  induction l with
  | nil => rw [decide_eq_false (by simp)]; rfl
  | cons a l ih =>
    rw [List.map_cons, List.any_cons, ih]
    by_cases h : a = b
    · subst h
      rw [eqv_row.mpr rfl, decide_eq_true List.mem_cons_self]; rfl
    · have e : PyData.eqv (rowD a) (rowD b) = false := by
        cases q : PyData.eqv (rowD a) (rowD b) with
        | false => rfl
        | true => exact absurd (eqv_row.mp q) h
      rw [e, Bool.false_or]
      by_cases h2 : b ∈ l
      · rw [decide_eq_true h2, decide_eq_true (List.mem_cons_of_mem _ h2)]
      · rw [decide_eq_false h2, decide_eq_false (fun z => (List.mem_cons.mp z).elim (fun q => h q.symm) h2)]
section
variable {X : Cx}
theorem od_niD {x : PyData} {ds : List PyData} (hx : Whole x) (hy : Whole (.list ds)) : OpD X (rNotInD X.K) x (.list ds) (.bool (!ds.any fun z => PyData.eqv z x)) := fun B H v u R g dv du k =>
  ⟨x, ds, dt_dp g _ _ hx.nd dv, dt_dp g _ _ hy.nd du, hx.sh, hy.sh, k _ B H (Gr.refl g) (.bl _)⟩
end
end Q
namespace Q
open PySem PySem.Spec PyProof.Rows L2 Pw
structure LawT (P : Program) (w : World) (K : PySem.W.Frag) (mg : Str → Option Value) (base : Heap) (CB CX CP : Addr) : Prop where
  mix : Kn P w K mg base "_law_mix" 2 (spP K 2 RMix)
  plan : Kn P w K mg base "_law_plan" 8 (spP K 3 (RPlan 4))
  sides : Kn P w K mg base "_law_sides" 9 (spP K 1 (RSides 8))
  lay : Kn P w K mg base "_law_lay" 9 (spP K 5 (RLay 8))
  laid : Kn P w K mg base "laid" 12 (spP K 2 (RLaid CB))
  len : mg "len" = none
  lst : mg "list" = none
  inst : mg "isinstance" = none
  str : mg "str" = none
  val : mg "ValueError" = none
  gB : mg "BadBits" = some (.ref CB)
  gX : mg "BadText" = some (.ref CX)
  gP : mg "PrintError" = some (.ref CP)
  ex : ExcC K CB
  ex1 : PySem.W.exmOne K (.ref CB) (.ref CP) = some true
  k1 : PySem.W.kitOne K (.ref CB) (.ref CB) = some true
  k2 : PySem.W.kitOne K (.ref CB) (.type "ValueError") = some true
  k3 : PySem.W.kitOne K (.ref CB) (.ref CX) = some false
section
variable {P : Program} {w : World} {K : PySem.W.Frag} {mg : Str → Option Value} {base : Heap} {CB CX CP : Addr} {f : Addr} {fd : FuncData}
theorem ok_law (F : Fun K "law" "law" s_law f fd) (L : LawT P w K mg base CB CX CP) : FnOk P w K mg base (L2.CX P w) 14 f fd P_law (spP K 1 RLaw) := by
  refine ok_def F sc_law rfl fun cdv A outer s H E hr ds out hl hR => ?_
  obtain ⟨ns, _, rfl, rfl⟩ := hR
  have hu := room_un hr
  have hu65 : ∀ {k : Nat} {A : Around}, Room k A → A.units + 65 < cLine := fun r => by have := r.un; omega
  obtain ⟨pok, pk, pd⟩ := plan_ok ns 4 1
  have pk16 : kw (planT ns 4 1) ≤ 16 := pk
  refine dss_cons (ds_set 1 (de_call L.plan (hr.mono (by decide)) <| da_cons <| de_var 0 rfl <| da_cons <| de_int <| da_cons <| de_int <| da_nil ⟨rfl, _, ⟨ns, 1, rfl, rfl⟩, ?_⟩) sc_law.nd)
  generalize planT ns 4 1 = p at pok pk16 pd ⊢
  have hG : G p 0 ≤ 4000000 := by
    have h1 := G_cap p pok 0
    have h3 : 2 ^ kw p * (0 + 41) ≤ 2 ^ 16 * 41 := Nat.mul_le_mul_right _ (Nat.pow_le_pow_right (by decide) pk16)
    have h4 : 2 ^ 16 * 41 = 2686976 := by decide
    omega
  refine dss_cons (ds_set 2 (de_call L.sides (hr.mono (by decide)) <| da_cons <| de_var 1 rfl <| da_nil ⟨rfl, _, ⟨p, pd, by omega, rfl, rfl⟩, ?_⟩) sc_law.nd)
  have mid : ∀ (bs : List Int) (row : List Int) (way : Int), bs.length ≤ 100 →
      DSs (cxOf (L2.CX P w) P w K mg base N_law "law" (defScope s_law) f cdv A outer s H E) (fun c xs => Out.ret (.bool true) = .exc c xs) ((defBody s_law).drop 8) { nx := fun _ => Out.ret (.bool true) = .ret .none, rt := fun d _ => Out.ret (.bool true) = .ret d }
        [some (.val (scrD ns)), some (.val (encP p)), some (.val (.list ((sidesL p).map rowD))), some (.val (rowD row)), some (.own (bs.map .int)), some (.val (.int way)), none, none, none, none] := fun bs row way hbs => by
    refine dss_cons (ds_set 6 (de_new <| dl_listO 4 L.lst rfl ?_) sc_law.nd)
    refine dss_cons (ds_set 7 (de_non ?_) sc_law.nd)
    refine dss_cons (ds_set 8 (de_non ?_) sc_law.nd)
    have rest : ∀ (x7 x8 : PyData), (bs ∈ sidesL p → ∃ t', x8 = .str t' ∧ lay p bs "" 0 false = some (t', [])) → (bs ∉ sidesL p → x7 = excD CB []) →
        DSs (cxOf (L2.CX P w) P w K mg base N_law "law" (defScope s_law) f cdv A outer s H E) (fun c xs => Out.ret (.bool true) = .exc c xs) ((defBody s_law).drop 12) { nx := fun _ => Out.ret (.bool true) = .ret .none, rt := fun d _ => Out.ret (.bool true) = .ret d }
          [some (.val (scrD ns)), some (.val (encP p)), some (.val (.list ((sidesL p).map rowD))), some (.val (rowD row)), some (.own (bs.map .int)), some (.val (.int way)), some (.val (rowD bs)), some (.val x7), some (.val x8), none] := fun x7 x8 yes no => by
      refine dss_cons (ds_if <| dt_cmp (op_neD hu) (de_var 6 rfl <| de_rel 4 rfl ⟨_, od_neD (whole_row bs) (whole_row bs), ?_⟩) (nomark _))
      rw [show PyData.eqv (rowD bs) (.list (bs.map .int)) = true from eqv_row.mpr rfl]
      refine iteF <| dss_nil <| dss_cons (ds_if <| dt_cmp (op_notInD (hu65 hr)) (de_var 4 rfl <| de_var 2 rfl ⟨_, od_niD (whole_row bs) (whole_rows _), ?_⟩) (by rfl))
      rw [show (((sidesL p).map rowD).any fun z => PyData.eqv z (.list (bs.map .int))) = decide (bs ∈ sidesL p) from any_row bs _]
      by_cases hm : bs ∈ sidesL p
      · rw [decide_eq_true hm]
        obtain ⟨t', rfl, e⟩ := yes hm
        refine iteF <| dss_nil <| dss_one (ds_ret <| de_and <| de_isi (T := "str") L.inst L.str boot_str <| de_var 8 rfl ⟨"str", true, rfl, by decide +kernel, true, rfl, ?_⟩)
        refine iteT <| de_one <| de_cmp op_eq (de_var 8 rfl <| de_ix <| dp_tup <| de_call L.lay (hr.mono (by decide)) <| da_cons <| de_var 1 rfl <| da_cons <| de_var 4 rfl <| da_cons <| de_str <| da_cons <| de_int <| da_cons <| de_bl <| da_nil ⟨rfl, _, ⟨p, bs, "", 0, false, t', [], 0, pok, pd, by decide +kernel, by decide, by decide, hG, by omega, e, rfl, rfl⟩, _, rfl, de_int ⟨_, _, rfl, rfl, _, od_eq rfl rfl rfl, ?_⟩⟩) (nomark _)
        show Out.ret (.bool true) = .ret (.bool (decide (V.str t' = V.str t')))
        rw [decide_eq_true rfl]
      · rw [decide_eq_false hm]
        have e7 := no hm
        subst e7
        refine iteT <| dss_one (ds_ret <| de_and <| de_isKo (fs := []) L.inst L.gB L.ex L.k1 <| de_var 7 rfl ⟨rfl, true, rfl, ?_⟩)
        refine iteT <| de_and <| de_isKt (T := "ValueError") (fs := []) L.inst L.val (by decide +kernel) L.ex L.k2 <| de_var 7 rfl ⟨rfl, true, rfl, ?_⟩
        exact iteT <| de_one <| de_not <| de_isKo (fs := []) L.inst L.gX L.ex L.k3 <| de_var 7 rfl ⟨rfl, false, rfl, rfl⟩
    obtain ⟨li, lo⟩ := laid_is pok bs
    by_cases hm : bs ∈ sidesL p
    · obtain ⟨t', c', e1, e2⟩ := li hm
      refine dss_cons (ds_try2 1 6 9 7 8 L.laid (hr.mono (by decide)) ⟨rfl, by decide, .inl L.gP⟩ rfl rfl rfl ⟨.ret (.str t'), ⟨p, bs, 0, pok, pd, hG, by omega, rfl, by rw [e1]; exact (if_neg (Nat.lt_irrefl _)).symm⟩, ?_⟩ (by decide) sc_law.nd)
      exact rest .none (.str t') (fun _ => ⟨t', rfl, e2⟩) fun z => absurd hm z
    · have eo : Out.exc (.ref CB) [] = match layC p bs 0 "" 0 0 false with | some (n, t, _) => if n < bs.length then .exc (.ref CB) [] else .ret (.str t) | none => .exc (.ref CB) [] := by
        rcases lo hm with e | ⟨n', t', c', h1, e⟩
        · rw [e]
        · rw [e]; exact (if_pos h1).symm
      refine dss_cons (ds_try2 1 6 9 7 8 L.laid (hr.mono (by decide)) ⟨rfl, by decide, .inl L.gP⟩ rfl rfl rfl ⟨.exc (.ref CB) [], ⟨p, bs, 0, pok, pd, hG, by omega, rfl, eo⟩, ?_⟩ (by decide) sc_law.nd)
      exact ⟨CB, [], rfl, rfl, L.ex1, rest (excD CB []) .none (fun z => absurd z hm) fun _ => rfl⟩
  -- the row, and what is made of it
  have pos : 0 < (sidesL p).length := by rw [sides_len]; exact cnt_pos p
  refine dss_cons (ds_set 3 (de_ix <| dp_list <| de_var 2 rfl ⟨_, rfl, de_op op_mod <| de_call L.mix (hr.mono (by decide)) <| da_cons <| de_var 0 rfl <| da_cons <| de_int <| da_nil ⟨rfl, _, ⟨ns, _, rfl, rfl⟩, de_cb call_lenR L.len boot_len <| da_cons <| de_var 2 rfl <| da_nil ⟨_, cd_len rfl, _, od_I (by rw [List.length_map]; show (0 : Int) < _; omega), _, _, rfl, at_mod rowD (sidesL p) [] _ _ (by rw [List.length_map]) (by rw [List.length_map]; omega), ?_⟩⟩⟩) sc_law.nd)
  have hrow : ∀ i : Nat, ((sidesL p).getD i []).length ≤ 16 := fun i => by
    rw [List.getD_eq_getElem?_getD]
    cases e : (sidesL p)[i]? with
    | none => exact Nat.zero_le _
    | some r => exact Nat.le_trans (lay_row p r (List.mem_of_getElem? e)).1 pk16
  have hrow := hrow (mixI ns 60 % (((sidesL p).map rowD).length : Int)).toNat
  generalize (sidesL p).getD (mixI ns 60 % (((sidesL p).map rowD).length : Int)).toNat [] = row at hrow ⊢
  refine dss_cons (ds_own 4 (dl_list L.lst <| dp_list <| de_var 3 rfl ⟨_, rfl, ?_⟩) sc_law.nd)
  refine dss_cons (ds_set 5 (de_op op_mod <| de_call L.mix (hr.mono (by decide)) <| da_cons <| de_var 0 rfl <| da_cons <| de_int <| da_nil ⟨rfl, _, ⟨ns, _, rfl, rfl⟩, de_int ⟨_, od_I (by decide), ?_⟩⟩) sc_law.nd)
  generalize mixI ns 61 % 8 = way
  have third : ∀ (bs : List Int), bs.length ≤ 20 →
      DSs (cxOf (L2.CX P w) P w K mg base N_law "law" (defScope s_law) f cdv A outer s H E) (fun c xs => Out.ret (.bool true) = .exc c xs) ((defBody s_law).drop 7) { nx := fun _ => Out.ret (.bool true) = .ret .none, rt := fun d _ => Out.ret (.bool true) = .ret d }
        [some (.val (scrD ns)), some (.val (encP p)), some (.val (.list ((sidesL p).map rowD))), some (.val (rowD row)), some (.own (bs.map .int)), some (.val (.int way)), none, none, none, none] := fun bs hbs => by
    refine dss_cons (ds_if <| dt_w <| dw_and <| dt_cmp op_eq (de_var 5 rfl <| de_int ⟨_, od_eq rfl rfl rfl, ?_⟩) (nomark _))
    refine eqi (fun c => ?_) fun c => ?_
    · refine dw_and1 <| dt_own 4 rfl ?_
      cases bs with
      | nil => exact iteF <| dss_nil (mid [] row way (Nat.zero_le _))
      | cons x bs =>
        refine iteT <| dss_one (ds_setIx 4 (de_ix <| dp_list <| de_new <| dl_lst <| da_cons <| de_neg <| de_int ⟨_, rfl, da_cons <| de_int <| da_cons <| de_int <| da_nil ⟨by show 3 ≤ sizeLine; decide, _, rfl, de_op op_mod <| de_call L.mix (hr.mono (by decide)) <| da_cons <| de_var 0 rfl <| da_cons <| de_int <| da_nil ⟨rfl, _, ⟨ns, _, rfl, rfl⟩, de_int ⟨_, od_I (by decide), _, _, rfl, at_mod PyData.int [-1, 2, 7] 0 _ 3 rfl (by decide), ⟨_, rfl⟩, ?_⟩⟩⟩⟩))
        generalize ([-1, 2, 7] : List Int).getD (mixI ns 59 % 3).toNat 0 = v
        refine de_op op_mod <| de_call L.mix (hr.mono (by decide)) <| da_cons <| de_var 0 rfl <| da_cons <| de_int <| da_nil ⟨rfl, _, ⟨ns, _, rfl, rfl⟩, de_lenO 4 L.len rfl ⟨_, od_I (by rw [List.length_map]; show (0 : Int) < _; rw [List.length_cons]; omega), ?_⟩⟩
        have hl : ((x :: bs).map PyData.int).length = bs.length + 1 := by rw [List.length_map, List.length_cons]
        rw [hl]
        have q0 : 0 ≤ mixI ns 62 % ((bs.length + 1 : Nat) : Int) := Int.emod_nonneg _ (by omega)
        have q1 : mixI ns 62 % ((bs.length + 1 : Nat) : Int) < ((bs.length + 1 : Nat) : Int) := Int.emod_lt_of_pos _ (by omega)
        refine ⟨_, _, (mixI ns 62 % ((bs.length + 1 : Nat) : Int)).toNat, rfl, rfl, ?_, ?_⟩
        · unfold ixN
          rw [hl, if_pos q0, if_pos q1]
        · have e := mid ((x :: bs).set (mixI ns 62 % ((bs.length + 1 : Nat) : Int)).toNat v) row way (by rw [List.length_set]; omega)
          rw [List.map_set] at e
          exact e
    · exact iteF <| dss_nil (mid bs row way (by omega))
  refine dss_cons (ds_if <| dt_cmp op_eq (de_var 5 rfl <| de_int ⟨_, od_eq rfl rfl rfl, ?_⟩) (nomark _))
  have second : ∀ (bs : List Int), bs.length ≤ 20 →
      DSs (cxOf (L2.CX P w) P w K mg base N_law "law" (defScope s_law) f cdv A outer s H E) (fun c xs => Out.ret (.bool true) = .exc c xs) ((defBody s_law).drop 6) { nx := fun _ => Out.ret (.bool true) = .ret .none, rt := fun d _ => Out.ret (.bool true) = .ret d }
        [some (.val (scrD ns)), some (.val (encP p)), some (.val (.list ((sidesL p).map rowD))), some (.val (rowD row)), some (.own (bs.map .int)), some (.val (.int way)), none, none, none, none] := fun bs hbs => by
    refine dss_cons (ds_if <| dt_cmp op_eq (de_var 5 rfl <| de_int ⟨_, od_eq rfl rfl rfl, ?_⟩) (nomark _))
    refine eqi (fun c => ?_) fun c => ?_
    · refine dss_one (ds_own 4 (dl_slO 4 rfl <| de_neg <| de_int ⟨_, rfl, _, rfl, rfl, ?_⟩) sc_law.nd)
      rcases List.eq_nil_or_concat bs with rfl | ⟨l, z, rfl⟩
      · exact third [] (Nat.zero_le _)
      · rw [List.concat_eq_append] at hbs ⊢
        rw [List.length_append, List.length_singleton] at hbs
        rw [List.map_append, show cutD (l.map PyData.int ++ [z].map PyData.int) none (some (-1)) = l.map .int from cut_init _ _]
        exact third l (by omega)
    · exact dss_nil (third bs hbs)
  refine eqi (fun c => ?_) fun c => ?_
  · refine dss_one (ds_append 4 rfl <| de_op op_mod <| de_call L.mix (hr.mono (by decide)) <| da_cons <| de_var 0 rfl <| da_cons <| de_int <| da_nil ⟨rfl, _, ⟨ns, _, rfl, rfl⟩, de_int ⟨_, od_I (by decide), _, rfl, by rw [List.length_map]; exact Nat.lt_of_le_of_lt hrow (by decide), ?_⟩⟩)
    have e := second (row ++ [mixI ns 62 % 2]) (by rw [List.length_append, List.length_singleton]; omega)
    rw [List.map_append] at e
    exact e
  · exact dss_nil (second row (by omega))
end
end Q
namespace Q
open PySem PySem.Spec PyProof.Rows L2 Pw
theorem all_mk {l : PySem.W.OpenLaw} {w : World} {K : PySem.W.Frag} {mg : Str → Option Value} {fa : Addr} {h : Heap} (X : K.In h) (G : h.Ns mainGlobals mg) (hfa : mg "law" = some (.ref fa))
    {CB CX CP : Addr}
    {CL : Addr}
    {f1 : Addr} {od1 an1 : Option Addr} {sl1 : Array (Option Value)} {oc1 kV1 dc1 pm1 cd1 ct1 : Value}
    {f2 : Addr} {od2 an2 : Option Addr} {sl2 : Array (Option Value)} {oc2 kV2 dc2 pm2 cd2 ct2 : Value}
    {f3 : Addr} {od3 an3 : Option Addr} {sl3 : Array (Option Value)} {oc3 kV3 dc3 pm3 cd3 ct3 : Value}
    {f4 : Addr} {od4 an4 : Option Addr} {sl4 : Array (Option Value)} {oc4 kV4 dc4 pm4 cd4 ct4 : Value}
    {f5 : Addr} {od5 an5 : Option Addr} {sl5 : Array (Option Value)} {oc5 kV5 dc5 pm5 cd5 ct5 : Value}
    {f6 : Addr} {od6 an6 : Option Addr} {sl6 : Array (Option Value)} {oc6 kV6 dc6 pm6 cd6 ct6 : Value}
    {f7 : Addr} {od7 an7 : Option Addr} {sl7 : Array (Option Value)} {oc7 kV7 dc7 pm7 cd7 ct7 : Value}
    {f8 : Addr} {od8 an8 : Option Addr} {sl8 : Array (Option Value)} {oc8 kV8 dc8 pm8 cd8 ct8 : Value}
    {f9 : Addr} {od9 an9 : Option Addr} {sl9 : Array (Option Value)} {oc9 kV9 dc9 pm9 cd9 ct9 : Value}
    {f10 : Addr} {od10 an10 : Option Addr} {sl10 : Array (Option Value)} {oc10 kV10 dc10 pm10 cd10 ct10 : Value}
    {f11 : Addr} {od11 an11 : Option Addr} {sl11 : Array (Option Value)} {oc11 kV11 dc11 pm11 cd11 ct11 : Value}
    {f12 : Addr} {od12 an12 : Option Addr} {sl12 : Array (Option Value)} {oc12 kV12 dc12 pm12 cd12 ct12 : Value}
    {f13 : Addr} {od13 an13 : Option Addr} {sl13 : Array (Option Value)} {oc13 kV13 dc13 pm13 cd13 ct13 : Value}
    {f14 : Addr} {od14 an14 : Option Addr} {sl14 : Array (Option Value)} {oc14 kV14 dc14 pm14 cd14 ct14 : Value}
    (gB : PySem.W.nsIn K mainGlobals "BadBits" = some (some (.ref CB)))
    (gX : PySem.W.nsIn K mainGlobals "BadText" = some (some (.ref CX)))
    (gP : PySem.W.nsIn K mainGlobals "PrintError" = some (some (.ref CP)))
    (qB : PySem.W.excIn K CB [.type "ValueError", .type "Exception", .type "BaseException", .type "object"] "ValueError.__new__" = true)
    (kB : PySem.W.keepIn K (.ref CB) = true)
    (sB : PySem.W.subIn K (.ref CB) (.type "BaseException") = some true)
    (tB : PySem.W.typeIn K (.ref CB) = some (.type "type"))
    (e1 : PySem.W.findIn K (.ref CB) "__getattribute__" = some (some (.builtin "BaseException.__getattribute__")))
    (e2 : PySem.W.findIn K (.ref CB) "__getattr__" = some none)
    (e4 : PySem.W.hasDictIn K CB = true)
    (e5 : PySem.W.findIn K (.ref CB) "__class__" = some (some (.builtin "object.__class__")))
    (e6 : PySem.W.specialIn K (.builtin "object.__class__") "__get__" = some (some (.builtin "getset_descriptor.__get__")))
    (e7 : PySem.W.takesIn K (.builtin "object.__class__") = some true)
    (e8 : PySem.W.mroIn K CB (.type "object") = some true)
    (x1 : PySem.W.exmOne K (.ref CB) (.ref CP) = some true)
    (q1 : PySem.W.kitOne K (.ref CB) (.ref CB) = some true)
    (q2 : PySem.W.kitOne K (.ref CB) (.type "ValueError") = some true)
    (q3 : PySem.W.kitOne K (.ref CB) (.ref CX) = some false)
    (gCL : PySem.W.nsIn K mainGlobals "Layer" = some (some (.ref CL)))
    (pgCL : PySem.W.plainGet K CL Str.empty = true)
    (hdCL : PySem.W.hasDictIn K CL = true)
    (poCL : PySem.W.plainOver K CL = true)
    (saCL : PySem.W.findIn K (.ref CL) "__setattr__" = some (some (.builtin "object.__setattr__")))
    (mkCL : PySem.W.makesIn K CL = true)
    (kcCL : PySem.W.keepIn K (.ref CL) = true)
    (nCL_bits : PySem.W.findIn K (.ref CL) "bits" = some none)
    (nCL_at : PySem.W.findIn K (.ref CL) "at" = some none)
    (nCL_text : PySem.W.findIn K (.ref CL) "text" = some none)
    (nCL_column : PySem.W.findIn K (.ref CL) "column" = some none)
    (a1 : PySem.W.findIn K (.ref CL) "__init__" = some (some (.ref f1)))
    (i1 : PySem.W.isFn K (.ref f1) = true)
    (l1 : K.lookup f1 = some ⟨oc1, od1, .func (PySem.W.fnOf "__init__" "Layer.__init__" (defArgs s_Layer_init) (defBody s_Layer_init) (defScope s_Layer_init) .none kV1 dc1 pm1 an1 cd1 ct1), sl1⟩)
    (c1 : PySem.W.codeIn K cd1 "Layer.__init__" = true)
    (k1 : PySem.W.keepIn K (.ref f1) = true)
    (a2 : PySem.W.findIn K (.ref CL) "put" = some (some (.ref f2)))
    (i2 : PySem.W.isFn K (.ref f2) = true)
    (l2 : K.lookup f2 = some ⟨oc2, od2, .func (PySem.W.fnOf "put" "Layer.put" (defArgs s_Layer_put) (defBody s_Layer_put) (defScope s_Layer_put) .none kV2 dc2 pm2 an2 cd2 ct2), sl2⟩)
    (c2 : PySem.W.codeIn K cd2 "Layer.put" = true)
    (k2 : PySem.W.keepIn K (.ref f2) = true)
    (a3 : PySem.W.findIn K (.ref CL) "side" = some (some (.ref f3)))
    (i3 : PySem.W.isFn K (.ref f3) = true)
    (l3 : K.lookup f3 = some ⟨oc3, od3, .func (PySem.W.fnOf "side" "Layer.side" (defArgs s_Layer_side) (defBody s_Layer_side) (defScope s_Layer_side) .none kV3 dc3 pm3 an3 cd3 ct3), sl3⟩)
    (c3 : PySem.W.codeIn K cd3 "Layer.side" = true)
    (k3 : PySem.W.keepIn K (.ref f3) = true)
    (a4 : PySem.W.findIn K (.ref CL) "lay" = some (some (.ref f4)))
    (i4 : PySem.W.isFn K (.ref f4) = true)
    (l4 : K.lookup f4 = some ⟨oc4, od4, .func (PySem.W.fnOf "lay" "Layer.lay" (defArgs s_Layer_lay) (defBody s_Layer_lay) (defScope s_Layer_lay) .none kV4 dc4 pm4 an4 cd4 ct4), sl4⟩)
    (c4 : PySem.W.codeIn K cd4 "Layer.lay" = true)
    (k4 : PySem.W.keepIn K (.ref f4) = true)
    (a5 : PySem.W.findIn K (.ref CL) "end" = some (some (.ref f5)))
    (i5 : PySem.W.isFn K (.ref f5) = true)
    (l5 : K.lookup f5 = some ⟨oc5, od5, .func (PySem.W.fnOf "end" "Layer.end" (defArgs s_Layer_end) (defBody s_Layer_end) (defScope s_Layer_end) .none kV5 dc5 pm5 an5 cd5 ct5), sl5⟩)
    (c5 : PySem.W.codeIn K cd5 "Layer.end" = true)
    (k5 : PySem.W.keepIn K (.ref f5) = true)
    (a6 : PySem.W.nsIn K mainGlobals "laid" = some (some (.ref f6)))
    (l6 : K.lookup f6 = some ⟨oc6, od6, .func (PySem.W.fnOf "laid" "laid" (defArgs s_laid) (defBody s_laid) (defScope s_laid) .none kV6 dc6 pm6 an6 cd6 ct6), sl6⟩)
    (c6 : PySem.W.codeIn K cd6 "laid" = true)
    (k6 : PySem.W.keepIn K (.ref f6) = true)
    (a7 : PySem.W.nsIn K mainGlobals "_law_cell" = some (some (.ref f7)))
    (l7 : K.lookup f7 = some ⟨oc7, od7, .func (PySem.W.fnOf "_law_cell" "_law_cell" (defArgs s_cell) (defBody s_cell) (defScope s_cell) .none kV7 dc7 pm7 an7 cd7 ct7), sl7⟩)
    (c7 : PySem.W.codeIn K cd7 "_law_cell" = true)
    (k7 : PySem.W.keepIn K (.ref f7) = true)
    (a8 : PySem.W.nsIn K mainGlobals "_law_mix" = some (some (.ref f8)))
    (l8 : K.lookup f8 = some ⟨oc8, od8, .func (PySem.W.fnOf "_law_mix" "_law_mix" (defArgs s_mix) (defBody s_mix) (defScope s_mix) .none kV8 dc8 pm8 an8 cd8 ct8), sl8⟩)
    (c8 : PySem.W.codeIn K cd8 "_law_mix" = true)
    (k8 : PySem.W.keepIn K (.ref f8) = true)
    (a9 : PySem.W.nsIn K mainGlobals "_law_sign" = some (some (.ref f9)))
    (l9 : K.lookup f9 = some ⟨oc9, od9, .func (PySem.W.fnOf "_law_sign" "_law_sign" (defArgs s_sign) (defBody s_sign) (defScope s_sign) .none kV9 dc9 pm9 an9 cd9 ct9), sl9⟩)
    (c9 : PySem.W.codeIn K cd9 "_law_sign" = true)
    (k9 : PySem.W.keepIn K (.ref f9) = true)
    (a10 : PySem.W.nsIn K mainGlobals "_law_text" = some (some (.ref f10)))
    (l10 : K.lookup f10 = some ⟨oc10, od10, .func (PySem.W.fnOf "_law_text" "_law_text" (defArgs s_text) (defBody s_text) (defScope s_text) .none kV10 dc10 pm10 an10 cd10 ct10), sl10⟩)
    (c10 : PySem.W.codeIn K cd10 "_law_text" = true)
    (k10 : PySem.W.keepIn K (.ref f10) = true)
    (a11 : PySem.W.nsIn K mainGlobals "_law_plan" = some (some (.ref f11)))
    (l11 : K.lookup f11 = some ⟨oc11, od11, .func (PySem.W.fnOf "_law_plan" "_law_plan" (defArgs s_plan) (defBody s_plan) (defScope s_plan) .none kV11 dc11 pm11 an11 cd11 ct11), sl11⟩)
    (c11 : PySem.W.codeIn K cd11 "_law_plan" = true)
    (k11 : PySem.W.keepIn K (.ref f11) = true)
    (a12 : PySem.W.nsIn K mainGlobals "_law_lay" = some (some (.ref f12)))
    (l12 : K.lookup f12 = some ⟨oc12, od12, .func (PySem.W.fnOf "_law_lay" "_law_lay" (defArgs s_lay) (defBody s_lay) (defScope s_lay) .none kV12 dc12 pm12 an12 cd12 ct12), sl12⟩)
    (c12 : PySem.W.codeIn K cd12 "_law_lay" = true)
    (k12 : PySem.W.keepIn K (.ref f12) = true)
    (a13 : PySem.W.nsIn K mainGlobals "_law_sides" = some (some (.ref f13)))
    (l13 : K.lookup f13 = some ⟨oc13, od13, .func (PySem.W.fnOf "_law_sides" "_law_sides" (defArgs s_sides) (defBody s_sides) (defScope s_sides) .none kV13 dc13 pm13 an13 cd13 ct13), sl13⟩)
    (c13 : PySem.W.codeIn K cd13 "_law_sides" = true)
    (k13 : PySem.W.keepIn K (.ref f13) = true)
    (a14 : PySem.W.nsIn K mainGlobals "law" = some (some (.ref f14)))
    (l14 : K.lookup f14 = some ⟨oc14, od14, .func (PySem.W.fnOf "law" "law" (defArgs s_law) (defBody s_law) (defScope s_law) .none kV14 dc14 pm14 an14 cd14 ct14), sl14⟩)
    (c14 : PySem.W.codeIn K cd14 "law" = true)
    (k14 : PySem.W.keepIn K (.ref f14) = true)
    (z_len : PySem.W.nsIn K mainGlobals "len" = some none)
    (z_int : PySem.W.nsIn K mainGlobals "int" = some none)
    (z_str : PySem.W.nsIn K mainGlobals "str" = some none)
    (z_list : PySem.W.nsIn K mainGlobals "list" = some none)
    (z_isinstance : PySem.W.nsIn K mainGlobals "isinstance" = some none)
    (z_ValueError : PySem.W.nsIn K mainGlobals "ValueError" = some none)
    : ∃ fd : FuncData, (∀ (s : Shared) (v : Value), BindsTo s fd ⟨[v], []⟩ [("_law_script", v)]) ∧ ∀ base : Heap, K.In base → base.Ns mainGlobals mg → FnOk l.prog w K mg base (L2.CX l.prog w) 14 fa fd ["_law_script"] (spP K 1 RLaw) := by
  have e := hfa.symm.trans (PySem.W.mg_of X G a14)
  cases e
  have clCL : L2.Cls K CL := ⟨pgCL, hdCL, poCL, saCL⟩
  have F_Layer_init := fun_mk (st := s_Layer_init) l1 c1 k1
  have b_Layer_init := F_Layer_init.binds (ps := P_Layer_init) fun _ _ _ _ _ _ us hl => match us, hl with | [_, _], _ => rfl
  have F_Layer_put := fun_mk (st := s_Layer_put) l2 c2 k2
  have b_Layer_put := F_Layer_put.binds (ps := P_Layer_put) fun _ _ _ _ _ _ us hl => match us, hl with | [_, _], _ => rfl
  have F_Layer_side := fun_mk (st := s_Layer_side) l3 c3 k3
  have b_Layer_side := F_Layer_side.binds (ps := P_Layer_side) fun _ _ _ _ _ _ us hl => match us, hl with | [_], _ => rfl
  have F_Layer_lay := fun_mk (st := s_Layer_lay) l4 c4 k4
  have b_Layer_lay := F_Layer_lay.binds (ps := P_Layer_lay) fun _ _ _ _ _ _ us hl => match us, hl with | [_, _, _, _], _ => rfl
  have F_Layer_end := fun_mk (st := s_Layer_end) l5 c5 k5
  have b_Layer_end := F_Layer_end.binds (ps := P_Layer_end) fun _ _ _ _ _ _ us hl => match us, hl with | [_, _, _, _], _ => rfl
  have F_laid := fun_mk (st := s_laid) l6 c6 k6
  have b_laid := F_laid.binds (ps := P_laid) fun _ _ _ _ _ _ us hl => match us, hl with | [_, _], _ => rfl
  have m_laid := PySem.W.mg_of X G a6
  have F_cell := fun_mk (st := s_cell) l7 c7 k7
  have b_cell := F_cell.binds (ps := P_cell) fun _ _ _ _ _ _ us hl => match us, hl with | [_, _], _ => rfl
  have m_cell := PySem.W.mg_of X G a7
  have F_mix := fun_mk (st := s_mix) l8 c8 k8
  have b_mix := F_mix.binds (ps := P_mix) fun _ _ _ _ _ _ us hl => match us, hl with | [_, _], _ => rfl
  have m_mix := PySem.W.mg_of X G a8
  have F_sign := fun_mk (st := s_sign) l9 c9 k9
  have b_sign := F_sign.binds (ps := P_sign) fun _ _ _ _ _ _ us hl => match us, hl with | [_], _ => rfl
  have m_sign := PySem.W.mg_of X G a9
  have F_text := fun_mk (st := s_text) l10 c10 k10
  have b_text := F_text.binds (ps := P_text) fun _ _ _ _ _ _ us hl => match us, hl with | [_, _], _ => rfl
  have m_text := PySem.W.mg_of X G a10
  have F_plan := fun_mk (st := s_plan) l11 c11 k11
  have b_plan := F_plan.binds (ps := P_plan) fun _ _ _ _ _ _ us hl => match us, hl with | [_, _, _], _ => rfl
  have m_plan := PySem.W.mg_of X G a11
  have F_lay := fun_mk (st := s_lay) l12 c12 k12
  have b_lay := F_lay.binds (ps := P_lay) fun _ _ _ _ _ _ us hl => match us, hl with | [_, _, _, _, _], _ => rfl
  have m_lay := PySem.W.mg_of X G a12
  have F_sides := fun_mk (st := s_sides) l13 c13 k13
  have b_sides := F_sides.binds (ps := P_sides) fun _ _ _ _ _ _ us hl => match us, hl with | [_], _ => rfl
  have m_sides := PySem.W.mg_of X G a13
  have F_law := fun_mk (st := s_law) l14 c14 k14
  have zz_len := PySem.W.mg_none_of X G z_len
  have zz_int := PySem.W.mg_none_of X G z_int
  have zz_str := PySem.W.mg_none_of X G z_str
  have zz_list := PySem.W.mg_none_of X G z_list
  have zz_isinstance := PySem.W.mg_none_of X G z_isinstance
  have zz_ValueError := PySem.W.mg_none_of X G z_ValueError
  refine ⟨PySem.W.fnOf "law" "law" (defArgs s_law) (defBody s_law) (defScope s_law) .none kV14 dc14 pm14 an14 cd14 ct14, fun s v => .of_eq rfl, fun base _ _ => ?_⟩
  have T : LayT K mg CL CB := ⟨clCL, nCL_bits, nCL_at, nCL_text, nCL_column, zz_len, zz_list, PySem.W.mg_of X G gB, qB, kB, sB, tB⟩
  have G_put : KnM l.prog w K mg base CL "put" 1 _ := ⟨⟨_, _, _, ok_put F_Layer_put T, ⟨a2, i2, k2⟩, b_Layer_put⟩, clCL⟩
  have G_side : KnM l.prog w K mg base CL "side" 2 _ := ⟨⟨_, _, _, ok_side F_Layer_side T, ⟨a3, i3, k3⟩, b_Layer_side⟩, clCL⟩
  have G_end : KnM l.prog w K mg base CL "end" 2 _ := ⟨⟨_, _, _, ok_end F_Layer_end T G_put, ⟨a5, i5, k5⟩, b_Layer_end⟩, clCL⟩
  have GL := kn_lays F_Layer_lay b_Layer_lay ⟨a4, i4, k4⟩ T G_put G_side G_end 8
  have GC : KnC l.prog w K mg base "Layer" CL 1 (spO K CL 1 RLInit) := ⟨_, _, _, ok_linit F_Layer_init T, ⟨mkCL, a1, i1, kcCL⟩, PySem.W.mg_of X G gCL, b_Layer_init⟩
  have GM := kn_mix (P := l.prog) (w := w) (base := base) F_mix m_mix b_mix (kn_cell F_cell m_cell b_cell zz_len)
  have GSg := kn_sign (P := l.prog) (w := w) (base := base) F_sign m_sign b_sign
  have GT := kn_text F_text m_text b_text GM GSg
  exact ok_law F_law ⟨GM, kn_plan F_plan m_plan b_plan GM GT 4, kn_sides F_sides m_sides b_sides 8, kn_lay F_lay m_lay b_lay zz_len zz_int 8, kn_laid F_laid m_laid b_laid T GC GL, zz_len, zz_list, zz_isinstance, zz_str, zz_ValueError, PySem.W.mg_of X G gB, PySem.W.mg_of X G gX, PySem.W.mg_of X G gP, ⟨e1, e2, sB, e4, e5, e6, e7, e8⟩, x1, q1, q2, q3⟩
end Q
open PySem PySem.W PyProof.Rows in
set_option maxRecDepth 100000 in
set_option maxHeartbeats 0 in
theorem PySem.Challenge.cw_printwell_k01_laid_holds : PySem.Challenge.rw_printwell_k01_laid.Holds := by
  w_on; o_law; k_head; (case hw => w_witness2)
  k_fill
  refine Pw.law_walk (l := PySem.Challenge.rw_printwell_k01_laid) (n := 63) (k := 14) (x := "_law_script") rfl (by decide) rfl ⟨rfl, by decide, by decide⟩ (fun w h Y => PySem.W.kIn_of Y) ?F
  case F =>
    intro w mg fa h KX G hmg
    refine' Q.all_mk KX G hmg ?gB ?gX ?gP ?qB ?kB ?sB ?tB ?e1 ?e2 ?e4 ?e5 ?e6 ?e7 ?e8 ?x1 ?q1 ?q2 ?q3 ?gCL ?pgCL ?hdCL ?poCL ?saCL ?mkCL ?kcCL ?nCL_bits ?nCL_at ?nCL_text ?nCL_column ?a1 ?i1 ?l1 ?c1 ?k1 ?a2 ?i2 ?l2 ?c2 ?k2 ?a3 ?i3 ?l3 ?c3 ?k3 ?a4 ?i4 ?l4 ?c4 ?k4 ?a5 ?i5 ?l5 ?c5 ?k5 ?a6 ?l6 ?c6 ?k6 ?a7 ?l7 ?c7 ?k7 ?a8 ?l8 ?c8 ?k8 ?a9 ?l9 ?c9 ?k9 ?a10 ?l10 ?c10 ?k10 ?a11 ?l11 ?c11 ?k11 ?a12 ?l12 ?c12 ?k12 ?a13 ?l13 ?c13 ?k13 ?a14 ?l14 ?c14 ?k14 ?z_len ?z_int ?z_str ?z_list ?z_isinstance ?z_ValueError
    (case gB => k_is)
    (case gX => k_is)
    (case gP => k_is)
    (case qB => first | kernel_rfl | rfl | k_is)
    (case kB => k_is)
    (case sB => k_is)
    (case tB => k_is)
    (case e1 => k_is)
    (case e2 => k_is)
    (case e4 => k_is)
    (case e5 => k_is)
    (case e6 => k_is)
    (case e7 => k_is)
    (case e8 => k_is)
    (case x1 => first | rfl | k_is)
    (case q1 => first | rfl | k_is)
    (case q2 => first | rfl | k_is)
    (case q3 => first | rfl | k_is)
    (case gCL => k_is)
    (case pgCL => k_is)
    (case hdCL => k_is)
    (case poCL => k_is)
    (case saCL => k_is)
    (case mkCL => k_is)
    (case kcCL => k_is)
    (case nCL_bits => k_is)
    (case nCL_at => k_is)
    (case nCL_text => k_is)
    (case nCL_column => k_is)
    (case a1 => k_is)
    (case i1 => k_is)
    (case l1 => k_is)
    (case c1 => k_is)
    (case k1 => k_is)
    (case a2 => k_is)
    (case i2 => k_is)
    (case l2 => k_is)
    (case c2 => k_is)
    (case k2 => k_is)
    (case a3 => k_is)
    (case i3 => k_is)
    (case l3 => k_is)
    (case c3 => k_is)
    (case k3 => k_is)
    (case a4 => k_is)
    (case i4 => k_is)
    (case l4 => k_is)
    (case c4 => k_is)
    (case k4 => k_is)
    (case a5 => k_is)
    (case i5 => k_is)
    (case l5 => k_is)
    (case c5 => k_is)
    (case k5 => k_is)
    (case a6 => k_is)
    (case l6 => k_is)
    (case c6 => k_is)
    (case k6 => k_is)
    (case a7 => k_is)
    (case l7 => k_is)
    (case c7 => k_is)
    (case k7 => k_is)
    (case a8 => k_is)
    (case l8 => k_is)
    (case c8 => k_is)
    (case k8 => k_is)
    (case a9 => k_is)
    (case l9 => k_is)
    (case c9 => k_is)
    (case k9 => k_is)
    (case a10 => k_is)
    (case l10 => k_is)
    (case c10 => k_is)
    (case k10 => k_is)
    (case a11 => k_is)
    (case l11 => k_is)
    (case c11 => k_is)
    (case k11 => k_is)
    (case a12 => k_is)
    (case l12 => k_is)
    (case c12 => k_is)
    (case k12 => k_is)
    (case a13 => k_is)
    (case l13 => k_is)
    (case c13 => k_is)
    (case k13 => k_is)
    (case a14 => k_is)
    (case l14 => k_is)
    (case c14 => k_is)
    (case k14 => k_is)
    (case z_len => k_is)
    (case z_int => k_is)
    (case z_str => k_is)
    (case z_list => k_is)
    (case z_isinstance => k_is)
    (case z_ValueError => k_is)
