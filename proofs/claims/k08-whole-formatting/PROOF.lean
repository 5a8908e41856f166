import PyProof.Rows.All
import Wide.All
import OpenK.AllK
import Wide.FinOn
import HandS.ForMost
import HandS.ForExc
import HandS.TupAny
import HandS.Deep
import HandS.Style
import HandS.Zip
import HandS.StrMore
import HandS.TupMul
import HandS.IsInst
import HandS.Comp
import KE.GoesEnum
import HandS.SetFor
import HandS.ReplaceLit
import KE.SortData
import KE.KSortTup
import HandS.Set
import HandS.SetKeys
import HandS.ExcIs
import HandS.HotCalls
import KE.RegKIsAll
import KE.RegKTryMore
import PySem.Challenge.RW_coinshapes_k08_whole_formatting
import HandS.ReplaceList
set_option Elab.async false
set_option linter.all false
set_option maxRecDepth 100000
set_option maxHeartbeats 4000000
/-! CoA: the data layer over L2: what a state is worth as plain data. -/
namespace CO
open PySem PySem.Spec PyProof.Rows L2

abbrev D := PyData
abbrev St := L2.St
/-- who owns an object: a slot, a world object, a result on its way -/
inductive Ix where
  | s (i : Nat) | w (j : Nat) | r
  deriving DecidableEq
/-- objects that outlive the names: the law's town, a Table -/
inductive Ob where
  | tn (k : Nat)
  | tb (g : D) (rows : List D) (kept : Int)
inductive Ent where
  | no
  | sh (d : D)
  | ow (ds : List D)
  | dk (kvs : List (Key × D))
  | wr (j : Nat)
  | sc (ns : List Int)
structure En where
  sl : List Ent
  wd : List Ob
def En.get (en : En) (i : Nat) : Ent := en.sl.getD i .no
def En.set (en : En) (i : Nat) (e : Ent) : En := { en with sl := en.sl.set i e }
/-- what a program's top says: its written part, the class Table, the exceptions' classes; the script -/
structure Kx where
  K : PySem.W.Frag
  T : Addr
  ec : Nat → Addr
/-- a snapshot: the world objects' addresses, the owners, the heap that stays, the heap -/
structure Sn where
  ad : List Addr
  O : Addr → Option Ix
  G : Hp
  H : Hp

/-! ### data in a heap that grows -/
mutual
/-- v is worth d in G -/
inductive Dq (G : Hp) : V → D → Prop
  | non : Dq G .non .none
  | bl (b : Bool) : Dq G (.bl b) (.bool b)
  | int (i : Int) : Dq G (.int i) (.int i)
  | str (x : Str) : Dq G (.str x) (.str x)
  | lst {a : Addr} {xs : List V} {ds : List D} : G a = some (.lst xs) → DqAll G xs ds → Dq G (.ref a) (.list ds)
  | tup {a : Addr} {xs : List V} {ds : List D} : G a = some (.tup xs) → DqAll G xs ds → Dq G (.ref a) (.tuple ds)
inductive DqAll (G : Hp) : List V → List D → Prop
  | nil : DqAll G [] []
  | cons {v : V} {vs : List V} {d : D} {ds : List D} : Dq G v d → DqAll G vs ds → DqAll G (v :: vs) (d :: ds)
end
section
variable {K : PySem.W.Frag} {G G' : Hp}
mutual
theorem dq_dp : ∀ (d : D) (v : V), Dq G v d → Dp K G v d
  | .none, _, q => by cases q; exact .non
  | .bool b, _, q => by cases q; exact .bl b
  | .int i, _, q => by cases q; exact .int i
  | .str x, _, q => by cases q; exact .str x
  | .list ds, _, q => by
    cases q with
    | lst hs ha => exact .lst (SqL.of hs) (dqa_dp ds _ ha)
  | .tuple ds, _, q => by
    cases q with
    | tup hs ha => exact .tup (SqT.of hs) (dqa_dp ds _ ha)
  | .dict _, _, q => by cases q
theorem dqa_dp : ∀ (ds : List D) (vs : List V), DqAll G vs ds → DpAll K G vs ds
  | [], _, q => by cases q; exact .nil
  | d :: ds, _, q => by
    cases q with
    | cons q1 q2 => exact .cons (dq_dp d _ q1) (dqa_dp ds _ q2)
end
mutual
theorem dp_mono (h : Same G G') : ∀ (d : D) (v : V), Dq G v d → Dq G' v d
  | .none, _, q => by cases q; exact .non
  | .bool b, _, q => by cases q; exact .bl b
  | .int i, _, q => by cases q; exact .int i
  | .str x, _, q => by cases q; exact .str x
  | .list ds, _, q => by
    cases q with
    | lst hs ha => exact .lst (h _ _ hs) (dpa_mono h ds _ ha)
  | .tuple ds, _, q => by
    cases q with
    | tup hs ha => exact .tup (h _ _ hs) (dpa_mono h ds _ ha)
  | .dict _, _, q => by cases q
theorem dpa_mono (h : Same G G') : ∀ (ds : List D) (vs : List V), DqAll G vs ds → DqAll G' vs ds
  | [], _, q => by cases q; exact .nil
  | d :: ds, _, q => by
    cases q with
    | cons q1 q2 => exact .cons (dp_mono h d _ q1) (dpa_mono h ds _ q2)
end
theorem dpa_len : ∀ {ds : List D} {vs : List V}, DqAll G vs ds → vs.length = ds.length
  | [], _, .nil => rfl
  | _ :: _, _, .cons _ h => by rw [List.length_cons, List.length_cons, dpa_len h]
theorem dpa_get : ∀ {ds : List D} {vs : List V} {i : Nat} {d : D}, DqAll G vs ds → ds[i]? = some d → ∃ v, vs[i]? = some v ∧ Dq G v d
  | _, _, _, _, .nil, h => by simp at h
  | _ :: _, _, 0, _, .cons q _, h => by
    simp at h; subst h; exact ⟨_, rfl, q⟩
  | _ :: _, _, i + 1, _, .cons _ t, h => by
    obtain ⟨v, h1, h2⟩ := dpa_get (i := i) t (by simpa using h)
    exact ⟨v, by simpa using h1, h2⟩
theorem dpa_get' : ∀ {ds : List D} {vs : List V} {i : Nat} {v : V}, DqAll G vs ds → vs[i]? = some v → ∃ d, ds[i]? = some d ∧ Dq G v d
  | _, _, _, _, .nil, h => by simp at h
  | _ :: _, _, 0, _, .cons q _, h => by
    simp at h; subst h; exact ⟨_, rfl, q⟩
  | _ :: _, _, i + 1, _, .cons _ t, h => by
    obtain ⟨v, h1, h2⟩ := dpa_get' (i := i) t (by simpa using h)
    exact ⟨v, by simpa using h1, h2⟩
theorem dpa_app : ∀ {ds es : List D} {vs us : List V}, DqAll G vs ds → DqAll G us es → DqAll G (vs ++ us) (ds ++ es)
  | _, _, _, _, .nil, h => h
  | _, _, _, _, .cons q t, h => .cons q (dpa_app t h)
theorem dpa_one {v : V} {d : D} (h : Dq G v d) : DqAll G [v] [d] := .cons h .nil
theorem dpa_take : ∀ {ds : List D} {vs : List V} (n : Nat), DqAll G vs ds → DqAll G (vs.take n) (ds.take n)
  | _, _, 0, _ => by simp; exact .nil
  | _, _, _ + 1, .nil => .nil
  | _, _, n + 1, .cons q t => .cons q (dpa_take n t)
theorem dpa_drop : ∀ {ds : List D} {vs : List V} (n : Nat), DqAll G vs ds → DqAll G (vs.drop n) (ds.drop n)
  | _, _, 0, h => h
  | _, _, _ + 1, .nil => .nil
  | _, _, n + 1, .cons _ t => dpa_drop n t
theorem dpa_set : ∀ {ds : List D} {vs : List V} {v : V} {d : D} (n : Nat), DqAll G vs ds → Dq G v d → DqAll G (vs.set n v) (ds.set n d)
  | _, _, _, _, _, .nil, _ => .nil
  | _, _, _, _, 0, .cons _ t, h => .cons h t
  | _, _, _, _, n + 1, .cons q t, h => .cons q (dpa_set n t h)
theorem dp_int {v : V} {i : Int} (h : Dq G v (.int i)) : v = .int i := by cases h; rfl
theorem dp_bool {v : V} {b : Bool} (h : Dq G v (.bool b)) : v = .bl b := by cases h; rfl
theorem dp_str {v : V} {x : Str} (h : Dq G v (.str x)) : v = .str x := by cases h; rfl
theorem dp_none {v : V} (h : Dq G v .none) : v = .non := by cases h; rfl
theorem dp_list {v : V} {ds : List D} (h : Dq G v (.list ds)) : ∃ a xs, v = .ref a ∧ G a = some (.lst xs) ∧ DqAll G xs ds := by
  cases h with
  | lst h1 h2 => exact ⟨_, _, rfl, h1, h2⟩
theorem dp_tuple {v : V} {ds : List D} (h : Dq G v (.tuple ds)) : ∃ a xs, v = .ref a ∧ G a = some (.tup xs) ∧ DqAll G xs ds := by
  cases h with
  | tup h1 h2 => exact ⟨_, _, rfl, h1, h2⟩
theorem dpa_strs : ∀ {xs : List Str} {vs : List V}, DqAll G vs (xs.map .str) → vs = xs.map V.str
  | [], _, .nil => rfl
  | _ :: _, _, .cons q t => by rw [dp_str q, dpa_strs t]; rfl
theorem dpa_ints : ∀ {xs : List Int} {vs : List V}, DqAll G vs (xs.map .int) → vs = xs.map V.int
  | [], _, .nil => rfl
  | _ :: _, _, .cons q t => by rw [dp_int q, dpa_ints t]; rfl
theorem dpa_bools : ∀ {xs : List Bool} {vs : List V}, DqAll G vs (xs.map .bool) → vs = xs.map V.bl
  | [], _, .nil => rfl
  | _ :: _, _, .cons q t => by rw [dp_bool q, dpa_bools t]; rfl
theorem dpa_of_strs : ∀ (xs : List Str), DqAll G (xs.map V.str) (xs.map .str)
  | [] => .nil
  | x :: xs => .cons (.str x) (dpa_of_strs xs)
theorem dpa_of_ints : ∀ (xs : List Int), DqAll G (xs.map V.int) (xs.map .int)
  | [] => .nil
  | x :: xs => .cons (.int x) (dpa_of_ints xs)
end
def DpKv (G : Hp) : List (Key × V) → List (Key × D) → Prop := Paired fun p q => p.1 = q.1 ∧ Dq G p.2 q.2
theorem dpkv_mono {G G' : Hp} (h : Same G G') {ks : List (Key × V)} {kvs : List (Key × D)} (q : DpKv G ks kvs) : DpKv G' ks kvs :=
  Paired.mapP q fun _ _ z => ⟨z.1, dp_mono h _ _ z.2⟩

/-! ### entries, objects, states -/
def EntR (κ : Kx) (w : Sn) (ix : Ix) (v : V) : Ent → Prop
  | .no => True
  | .sh d => Dq w.G v d
  | .ow ds => ∃ p xs, v = .ref p ∧ w.O p = some ix ∧ w.H p = some (.lst xs) ∧ DqAll w.G xs ds
  | .dk kvs => ∃ p ks, v = .ref p ∧ w.O p = some ix ∧ w.H p = some (.dK ks) ∧ DpKv w.G ks kvs
  | .wr j => ∃ p, v = .ref p ∧ w.ad[j]? = some p
  | .sc ns => ∃ a, v = .ref a ∧ SqL κ.K w.G a (ns.map V.int)
def SlR (κ : Kx) (w : Sn) (ix : Ix) (o : Option V) (e : Ent) : Prop := e = .no ∨ ∃ v, o = some v ∧ EntR κ w ix v e
def ObR (κ : Kx) (w : Sn) (ix : Ix) (p : Addr) : Ob → Prop
  | .tn k => w.O p = some ix ∧ w.H p = some (.lst (List.replicate k (.int 0)))
  | .tb g rows kept => ∃ dx l vg rs, w.O p = some ix ∧ w.O dx = some ix ∧ w.O l = some ix ∧
      w.H p = some (.ins κ.T dx [("game", vg), ("rows", .ref l), ("kept", .int kept)]) ∧ w.H dx = some (.own p) ∧ w.H l = some (.lst rs) ∧
      Dq w.G vg g ∧ DqAll w.G rs rows
/-- the world part of a state -/
structure WdR (κ : Kx) (w : Sn) (wd : List Ob) : Prop where
  fr : ∀ p i, w.O p = some i → w.G p = none
  su : Same w.G w.H
  wl : w.ad.length = wd.length
  wd : ∀ (j : Nat) (ob : Ob) (p : Addr), wd[j]? = some ob → w.ad[j]? = some p → ObR κ w (.w j) p ob
structure StR (κ : Kx) (w : Sn) (σ : St) (en : En) : Prop where
  wo : WdR κ w en.wd
  ln : en.sl.length = σ.length
  sl : ∀ i, SlR κ w (.s i) (σ.getD i none) (en.get i)
/-- from a snapshot on -/
structure Nx (a b : Sn) : Prop where
  p : a.ad <+: b.ad
  g : Same a.G b.G
  f : ∀ x o, a.H x = some o → a.O x = none → b.H x = some o ∧ b.G x = a.G x ∧ b.O x = none
theorem Nx.refl (a : Sn) : Nx a a := ⟨List.prefix_refl _, Same.refl _, fun _ _ h1 h2 => ⟨h1, rfl, h2⟩⟩
theorem Nx.trans {a b c : Sn} (h : Nx a b) (k : Nx b c) : Nx a c :=
  ⟨h.p.trans k.p, h.g.trans k.g, fun x o h1 h2 => by
    obtain ⟨q1, q2, q3⟩ := h.f x o h1 h2
    obtain ⟨r1, r2, r3⟩ := k.f x o q1 q3
    exact ⟨r1, r2.trans q2, r3⟩⟩

/-! ### results -/
inductive R (α : Type) where
  | ok (a : α) (e : En) | ex (c : Nat) (e : En) | st
def R.bind {α β : Type} (x : R α) (f : α → En → R β) : R β := match x with
  | .ok a e => f a e | .ex c e => .ex c e | .st => .st
/-- a statement's end -/
inductive Fl where
  | nx | rt (r : Ent) | bk | ct

/-- what is wanted behind a result -/
def Po {α : Type} (κ : Kx) (W : WX) (w : Sn) (x : R α) (Q : α → En → Sn → Prop) : Prop := match x with
  | .ok a en' => ∀ w', Nx w w' → Q a en' w'
  | .ex c en' => ∀ σ' w', Nx w w' → StR κ w' σ' en' → W (.ref (κ.ec c)) none σ' w'.H
  | .st => False
section
variable {κ : Kx} {W : WX} {w w' : Sn} {α β : Type}
theorem Po.mono {x : R α} {Q : α → En → Sn → Prop} (h : Po κ W w x Q) (n : Nx w w') : Po κ W w' x Q := by
  cases x with
  | ok a e => exact fun w2 n2 => h w2 (n.trans n2)
  | ex c e => exact fun σ' w2 n2 s2 => h σ' w2 (n.trans n2) s2
  | st => exact h
theorem Po.imp {x : R α} {Q Q' : α → En → Sn → Prop} (h : Po κ W w x Q) (k : ∀ a en' w', Nx w w' → Q a en' w' → Q' a en' w') : Po κ W w x Q' := by
  cases x with
  | ok a e => exact fun w2 n2 => k _ _ _ n2 (h w2 n2)
  | ex c e => exact h
  | st => exact h
theorem Po.bind_of {x : R α} {f : α → En → R β} {Q : β → En → Sn → Prop} (h : Po κ W w (x.bind f) Q) : Po κ W w x (fun a en' w' => Po κ W w' (f a en') Q) := by
  cases x with
  | ok a e => exact fun w2 n2 => Po.mono (x := f a e) h n2
  | ex c e => exact h
  | st => exact h
end
def tOf (κ : Kx) (W : WX) (m : En → R Ent) : TE := fun σ H Q => ∃ w en, w.H = H ∧ StR κ w σ en ∧ Po κ W w (m en) fun r en' w' => ∀ v, StR κ w' σ en' → EntR κ w' .r v r → Q v w'.H
/-- a borrowed value: any owner -/
def tBOf (κ : Kx) (W : WX) (m : En → R Ent) : TE := fun σ H Q => ∃ w en, w.H = H ∧ StR κ w σ en ∧ Po κ W w (m en) fun r en' w' => ∀ v ix, StR κ w' σ en' → EntR κ w' ix v r → Q v w'.H
def tTOf (κ : Kx) (W : WX) (m : En → R Bool) : TT := fun σ H Q => ∃ w en, w.H = H ∧ StR κ w σ en ∧ Po κ W w (m en) fun b en' w' => StR κ w' σ en' → Q b w'.H
def ArgR (κ : Kx) (w : Sn) (v : V) : Ent → Prop
  | .sh d => Dq w.G v d
  | .wr j => ∃ p, v = .ref p ∧ w.ad[j]? = some p
  | .sc ns => ∃ a, v = .ref a ∧ SqL κ.K w.G a (ns.map V.int)
  | _ => False
abbrev ArgsR (κ : Kx) (w : Sn) : List V → List Ent → Prop := Paired (ArgR κ w)
def tAOf (κ : Kx) (W : WX) (m : En → R (List Ent)) : TA := fun σ H Q => ∃ w en, w.H = H ∧ StR κ w σ en ∧ Po κ W w (m en) fun rs en' w' => ∀ vs, StR κ w' σ en' → ArgsR κ w' vs rs → Q vs w'.H
def endS (κ : Kx) (Dn : Ends) (fl : Fl) (en' : En) (w' : Sn) : Prop := match fl with
  | .nx => ∀ σ', StR κ w' σ' en' → Dn.nx σ' w'.H
  | .rt r => ∀ v σ', StR κ w' σ' en' → EntR κ w' .r v r → Dn.rt v w'.H
  | .bk => ∀ σ', StR κ w' σ' en' → Dn.bk σ' w'.H
  | .ct => ∀ σ', StR κ w' σ' en' → Dn.ct σ' w'.H
def tSOf (κ : Kx) (W : WX) (m : En → R Fl) : TS := fun Dn σ H => ∃ w en, w.H = H ∧ StR κ w σ en ∧ Po κ W w (m en) (endS κ Dn)
def tGOf (κ : Kx) (W : WX) (g : Ent → En → R Unit) : TG := fun v σ H Q => ∃ w en r, w.H = H ∧ StR κ w σ en ∧ EntR κ w .r v r ∧ Po κ W w (g r en) fun _ en' w' => ∀ σ', StR κ w' σ' en' → Q σ' w'.H

/-! ### weaker readings -/
section
variable {X : Cx} {e : Expr} {es : List Expr} {st : Stmt} {sts : List Stmt}
theorem pe_imp {t t' : TE} (h : PE X e t) (f : ∀ σ H Q, t' σ H Q → t σ H Q) : PE X e t' := ⟨fun pins s σ H Q I hq => h.run pins s σ H Q I (f σ H Q hq)⟩
theorem pt_imp {t t' : TT} (h : PT X e t) (f : ∀ σ H Q, t' σ H Q → t σ H Q) : PT X e t' := ⟨fun pins s σ H Q I hq => h.run pins s σ H Q I (f σ H Q hq)⟩
theorem pa_imp {t t' : TA} (h : PA X es t) (f : ∀ σ H Q, t' σ H Q → t σ H Q) : PA X es t' := ⟨fun pos pins s σ H Q I hq => h.run pos pins s σ H Q I (f σ H Q hq)⟩
theorem ps_imp {t t' : TS} (h : PS X st t) (f : ∀ Dn σ H, t' Dn σ H → t Dn σ H) : PS X st t' := ⟨fun pins s σ H Dn I hq => h.run pins s σ H Dn I (f Dn σ H hq)⟩
theorem pss_imp {t t' : TS} (h : PSs X sts t) (f : ∀ Dn σ H, t' Dn σ H → t Dn σ H) : PSs X sts t' := ⟨fun pins s σ H Dn I hq => h.run pins s σ H Dn I (f Dn σ H hq)⟩
theorem pg_imp {t t' : TG} (h : PG X e t) (f : ∀ v σ H Q, t' v σ H Q → t v σ H Q) : PG X e t' := ⟨fun pins s σ H v u Q I r hq => h.run pins s σ H v u Q I r (f v σ H Q hq)⟩
end

/-! ### entries from snapshot to snapshot -/
section
variable {κ : Kx} {W : WX} {w w' : Sn} {σ : St} {en : En} {v : V} {ix : Ix} {r : Ent}
theorem ArgR.mono {e : Ent} (h : ArgR κ w v e) (n : Nx w w') : ArgR κ w' v e := by
  cases e with
  | sh d => exact dp_mono n.g _ _ h
  | wr j =>
    obtain ⟨p, h1, h2⟩ := h
    refine ⟨p, h1, ?_⟩
    obtain ⟨t, ht⟩ := n.p
    rw [← ht, List.getElem?_append_left (List.getElem?_eq_some_iff.mp h2).1]
    exact h2
  | sc =>
    obtain ⟨a, h1, h2⟩ := h
    exact ⟨a, h1, n.g.seq h2⟩
  | no => exact h
  | ow ds => exact h
  | dk kvs => exact h
theorem ArgsR.mono {vs : List V} {rs : List Ent} (h : ArgsR κ w vs rs) (n : Nx w w') : ArgsR κ w' vs rs := Paired.mapP h fun _ _ q => q.mono n
/-- everything but the owners of an address of their own kind: a result frozen -/
theorem upG {G : Hp} {p : Addr} {o : HO} (h : G p = none) : Same G (upd G p o) := fun b x e => by
  rw [upd_ne (ne_of_none e h)]
  exact e
/-- the owners' map with p let go -/
def letO (O : Addr → Option Ix) (p : Addr) : Addr → Option Ix := fun b => if b = p then none else O b
theorem letO_ne {O : Addr → Option Ix} {p b : Addr} (h : b ≠ p) : letO O p b = O b := if_neg h
theorem letO_same {O : Addr → Option Ix} {p : Addr} : letO O p p = none := if_pos rfl
/-- p's list goes into the heap that stays -/
def frzAt (w : Sn) (p : Addr) (xs : List V) : Sn := { w with G := upd w.G p (.lst xs), O := letO w.O p }
theorem frz_nx {p : Addr} {xs : List V} (hO : w.O p = some ix) (hG : w.G p = none) : Nx w (frzAt w p xs) :=
  ⟨List.prefix_refl _, upG hG, fun x o h1 h2 => by
    have ne : x ≠ p := fun z => by rw [z, hO] at h2; cases h2
    exact ⟨h1, upd_ne ne, (letO_ne ne).trans h2⟩⟩
theorem EntR.frz {p : Addr} {xs : List V} {j : Ix} (hO : w.O p = some ix) (hG : w.G p = none) (hj : j ≠ ix) (h : EntR κ w j v r) : EntR κ (frzAt w p xs) j v r := by
  have nep : ∀ {q : Addr}, w.O q = some j → q ≠ p := fun e z => by rw [z, hO] at e; exact hj (Option.some.inj e).symm
  cases r with
  | no => trivial
  | sh d => exact dp_mono (upG hG) _ _ h
  | ow ds =>
    obtain ⟨q, ys, e1, e2, e3, e4⟩ := h
    exact ⟨q, ys, e1, (letO_ne (nep e2)).trans e2, e3, dpa_mono (upG hG) _ _ e4⟩
  | dk kvs =>
    obtain ⟨q, ks, e1, e2, e3, e4⟩ := h
    exact ⟨q, ks, e1, (letO_ne (nep e2)).trans e2, e3, dpkv_mono (upG hG) e4⟩
  | wr j => exact h
  | sc =>
    obtain ⟨a, h1, h2⟩ := h
    exact ⟨a, h1, (upG hG).seq h2⟩
theorem ObR.frz {p q : Addr} {xs : List V} {j : Ix} {ob : Ob} (hO : w.O p = some ix) (hG : w.G p = none) (hj : j ≠ ix) (h : ObR κ w j q ob) : ObR κ (frzAt w p xs) j q ob := by
  have nep : ∀ {q : Addr}, w.O q = some j → q ≠ p := fun e z => by rw [z, hO] at e; exact hj (Option.some.inj e).symm
  cases ob with
  | tn k => exact ⟨(letO_ne (nep h.1)).trans h.1, h.2⟩
  | tb g rows kept =>
    obtain ⟨dx, l, vg, rs, a1, a2, a3, a4, a5, a6, a7, a8⟩ := h
    exact ⟨dx, l, vg, rs, (letO_ne (nep a1)).trans a1, (letO_ne (nep a2)).trans a2, (letO_ne (nep a3)).trans a3, a4, a5, a6, dp_mono (upG hG) _ _ a7, dpa_mono (upG hG) _ _ a8⟩
theorem WdR.frz {p : Addr} {xs : List V} {wd : List Ob} (h : WdR κ w wd) (hO : w.O p = some ix) (hx : ∀ j, Ix.w j ≠ ix) (hH : w.H p = some (.lst xs)) : WdR κ (frzAt w p xs) wd where
  fr := fun q i e => by
    have e' : letO w.O p q = some i := e
    have ne : q ≠ p := fun z => by rw [z, letO_same] at e'; cases e'
    rw [letO_ne ne] at e'
    exact (upd_ne ne).trans (h.fr q i e')
  su := fun b o e => by
    by_cases z : b = p
    · subst z
      have e' : upd w.G b (.lst xs) b = some o := e
      rw [upd_same] at e'
      rw [← e']
      exact hH
    · have e' : upd w.G p (.lst xs) b = some o := e
      rw [upd_ne z] at e'
      exact h.su b o e'
  wl := h.wl
  wd := fun j ob q e1 e2 => (h.wd j ob q e1 e2).frz hO (h.fr p _ hO) (hx j)
theorem SlR.frz {p : Addr} {xs : List V} {j : Ix} {o : Option V} {e : Ent} (hO : w.O p = some ix) (hG : w.G p = none) (hj : j ≠ ix) (h : SlR κ w j o e) : SlR κ (frzAt w p xs) j o e := by
  rcases h with h | ⟨v, h1, h2⟩
  · exact .inl h
  · exact .inr ⟨v, h1, h2.frz hO hG hj⟩
/-- a result's list is frozen -/
theorem StR.frzR {p : Addr} {xs : List V} (h : StR κ w σ en) (hO : w.O p = some .r) (hH : w.H p = some (.lst xs)) : StR κ (frzAt w p xs) σ en :=
  ⟨h.wo.frz hO (fun _ q => nomatch q) hH, h.ln, fun i => (h.sl i).frz hO (h.wo.fr p _ hO) (fun q => nomatch q)⟩
theorem get_set_same {en : En} {i : Nat} {e : Ent} : (en.set i e).get i = e ∨ (en.set i e).get i = .no := by
  unfold En.set En.get
  by_cases h : i < en.sl.length
  · left
    rw [List.getD_eq_getElem?_getD, List.getElem?_set_self (by simpa using h)]; rfl
  · right
    rw [List.getD_eq_getElem?_getD, List.getElem?_eq_none (by simpa using h)]; rfl
theorem get_set_ne {en : En} {i j : Nat} {e : Ent} (h : i ≠ j) : (en.set i e).get j = en.get j := by
  unfold En.set En.get
  rw [List.getD_eq_getElem?_getD, List.getD_eq_getElem?_getD, List.getElem?_set_ne h]
theorem gd_ne {σ : St} {i j : Nat} {o : Option V} (h : i ≠ j) : (σ.set i o).getD j none = σ.getD j none := by
  rw [List.getD_eq_getElem?_getD, List.getD_eq_getElem?_getD, List.getElem?_set_ne h]
theorem gd_same {σ : St} {i : Nat} {o : Option V} (h : i < σ.length) : (σ.set i o).getD i none = o := by
  rw [List.getD_eq_getElem?_getD, List.getElem?_set_self h]; rfl
/-- data on its way: what a result is worth -/
def toD (r : Ent) (e : En) : R D := match r with
  | .sh d => .ok d e
  | .ow ds => .ok (.list ds) e
  | _ => .st
def dv (m : En → R Ent) : En → R D := fun en => (m en).bind toD
theorem frz_r {d : D} {e : En} (s : StR κ w σ en) (er : EntR κ w .r v r) (hd : toD r en = .ok d e) : e = en ∧ ∃ w', Nx w w' ∧ w'.H = w.H ∧ StR κ w' σ en ∧ Dq w'.G v d := by
  cases r with
  | sh d' =>
    cases hd
    exact ⟨rfl, w, Nx.refl _, rfl, s, er⟩
  | ow ds =>
    cases hd
    obtain ⟨p, xs, rfl, hO, hH, ha⟩ := er
    have hG := s.wo.fr p _ hO
    exact ⟨rfl, frzAt w p xs, frz_nx hO hG, rfl, s.frzR hO hH, .lst upd_same (dpa_mono (upG hG) _ _ ha)⟩
  | no => cases hd
  | dk kvs => cases hd
  | wr j => cases hd
  | sc => cases hd
/-- a subexpression's value as data -/
theorem poD {α : Type} {m : En → R Ent} {k : D → En → R α} {Q : α → En → Sn → Prop} {Q1 : VK} (s : StR κ w σ en) (h : Po κ W w ((dv m en).bind k) Q)
    (hk : ∀ d en1 v w1, Nx w w1 → StR κ w1 σ en1 → Dq w1.G v d → Po κ W w1 (k d en1) Q → Q1 v w1.H) : Po κ W w (m en) fun r en' w' => ∀ v, StR κ w' σ en' → EntR κ w' .r v r → Q1 v w'.H := by
  unfold dv at h
  cases e : m en with
  | ok r en1 =>
    rw [e] at h
    intro w1 n1 v s1 er
    have h' : Po κ W w ((toD r en1).bind k) Q := h
    cases e2 : toD r en1 with
    | ok d e3 =>
      rw [e2] at h'
      obtain ⟨rfl, w2, n2, hH, s2, dp⟩ := frz_r s1 er e2
      rw [← hH]
      exact hk d e3 v w2 (n1.trans n2) s2 dp (Po.mono h' (n1.trans n2))
    | ex c e3 => cases r <;> cases e2
    | st => rw [e2] at h'; exact h'.elim
  | ex c en1 =>
    rw [e] at h
    exact h
  | st =>
    rw [e] at h
    exact h
theorem goD {α : Type} {m : En → R Ent} {k : D → En → R α} {Q : α → En → Sn → Prop} {Q1 : VK} (s : StR κ w σ en) (h : Po κ W w ((dv m en).bind k) Q)
    (hk : ∀ d en1 v w1, Nx w w1 → StR κ w1 σ en1 → Dq w1.G v d → Po κ W w1 (k d en1) Q → Q1 v w1.H) : tOf κ W m σ w.H Q1 := ⟨w, en, rfl, s, poD s h hk⟩
/-- .. as it is -/
theorem go {α : Type} {m : En → R Ent} {k : Ent → En → R α} {Q : α → En → Sn → Prop} {Q1 : VK} (s : StR κ w σ en) (h : Po κ W w ((m en).bind k) Q)
    (hk : ∀ r en1 v w1, Nx w w1 → StR κ w1 σ en1 → EntR κ w1 .r v r → Po κ W w1 (k r en1) Q → Q1 v w1.H) : tOf κ W m σ w.H Q1 :=
  ⟨w, en, rfl, s, (Po.bind_of h).imp fun r en1 w1 n1 h1 v s1 er => hk r en1 v w1 n1 s1 er h1⟩
theorem goT {α : Type} {m : En → R Bool} {k : Bool → En → R α} {Q : α → En → Sn → Prop} {Q1 : Bool → Hp → Prop} (s : StR κ w σ en) (h : Po κ W w ((m en).bind k) Q)
    (hk : ∀ b en1 w1, Nx w w1 → StR κ w1 σ en1 → Po κ W w1 (k b en1) Q → Q1 b w1.H) : tTOf κ W m σ w.H Q1 :=
  ⟨w, en, rfl, s, (Po.bind_of h).imp fun r en1 w1 n1 h1 s1 => hk r en1 w1 n1 s1 h1⟩
theorem goA {α : Type} {m : En → R (List Ent)} {k : List Ent → En → R α} {Q : α → En → Sn → Prop} {Q1 : List V → Hp → Prop} (s : StR κ w σ en) (h : Po κ W w ((m en).bind k) Q)
    (hk : ∀ rs en1 vs w1, Nx w w1 → StR κ w1 σ en1 → ArgsR κ w1 vs rs → Po κ W w1 (k rs en1) Q → Q1 vs w1.H) : tAOf κ W m σ w.H Q1 :=
  ⟨w, en, rfl, s, (Po.bind_of h).imp fun r en1 w1 n1 h1 vs s1 er => hk r en1 vs w1 n1 s1 er h1⟩
/-- an end: data -/
theorem fin_sh {d : D} {Q : VK} (s : StR κ w σ en) (h : Po κ W w (R.ok (Ent.sh d) en) fun r en' w' => ∀ v, StR κ w' σ en' → EntR κ w' .r v r → Q v w'.H) (hd : Dq w.G v d) : Q v w.H := h w (Nx.refl _) v s hd
/-- new objects that nobody owns: G and H grow alike -/
def grow (w : Sn) (p : Addr) (o : HO) : Sn := { w with G := upd w.G p o, H := upd w.H p o, O := letO w.O p }
theorem grow_nx {p : Addr} {o : HO} (hs : Same w.G w.H) (hp : w.H p = none) : Nx w (grow w p o) :=
  ⟨List.prefix_refl _, upG (hs.free hp), fun x u h1 h2 => by
    have ne : x ≠ p := ne_of_none h1 hp
    exact ⟨(upd_ne ne).trans h1, upd_ne ne, (letO_ne ne).trans h2⟩⟩
theorem EntR.grow {p : Addr} {o : HO} (hs : Same w.G w.H) (hp : w.H p = none) (h : EntR κ w ix v r) : EntR κ (grow w p o) ix v r := by
  have hG := hs.free hp
  cases r with
  | no => trivial
  | sh d => exact dp_mono (upG hG) _ _ h
  | ow ds =>
    obtain ⟨q, ys, e1, e2, e3, e4⟩ := h
    have ne : q ≠ p := ne_of_none e3 hp
    exact ⟨q, ys, e1, (letO_ne ne).trans e2, (upd_ne ne).trans e3, dpa_mono (upG hG) _ _ e4⟩
  | dk kvs =>
    obtain ⟨q, ys, e1, e2, e3, e4⟩ := h
    have ne : q ≠ p := ne_of_none e3 hp
    exact ⟨q, ys, e1, (letO_ne ne).trans e2, (upd_ne ne).trans e3, dpkv_mono (upG hG) e4⟩
  | wr j => exact h
  | sc =>
    obtain ⟨a, h1, h2⟩ := h
    exact ⟨a, h1, (upG hG).seq h2⟩
theorem ObR.grow {p q : Addr} {o : HO} {ob : Ob} (hs : Same w.G w.H) (hp : w.H p = none) (h : ObR κ w ix q ob) : ObR κ (grow w p o) ix q ob := by
  have hG := hs.free hp
  have ne : ∀ {q : Addr} {u : HO}, w.H q = some u → q ≠ p := fun e => ne_of_none e hp
  cases ob with
  | tn k => exact ⟨(letO_ne (ne h.2)).trans h.1, (upd_ne (ne h.2)).trans h.2⟩
  | tb g rows kept =>
    obtain ⟨dx, l, vg, rs, a1, a2, a3, a4, a5, a6, a7, a8⟩ := h
    exact ⟨dx, l, vg, rs, (letO_ne (ne a4)).trans a1, (letO_ne (ne a5)).trans a2, (letO_ne (ne a6)).trans a3, (upd_ne (ne a4)).trans a4, (upd_ne (ne a5)).trans a5, (upd_ne (ne a6)).trans a6, dp_mono (upG hG) _ _ a7, dpa_mono (upG hG) _ _ a8⟩
theorem WdR.grow {p : Addr} {o : HO} {wd : List Ob} (h : WdR κ w wd) (hp : w.H p = none) : WdR κ (grow w p o) wd where
  fr := fun q i e => by
    have e' : letO w.O p q = some i := e
    have ne : q ≠ p := fun z => by rw [z, letO_same] at e'; cases e'
    rw [letO_ne ne] at e'
    exact (upd_ne ne).trans (h.fr q i e')
  su := fun b u e => by
    by_cases z : b = p
    · subst z
      have e' : upd w.G b o b = some u := e
      rw [upd_same] at e'
      show upd w.H b o b = some u
      rw [upd_same]
      exact e'
    · have e' : upd w.G p o b = some u := e
      rw [upd_ne z] at e'
      exact (upd_ne z).trans (h.su b u e')
  wl := h.wl
  wd := fun j ob q e1 e2 => (h.wd j ob q e1 e2).grow h.su hp
theorem StR.grow {p : Addr} {o : HO} (h : StR κ w σ en) (hp : w.H p = none) : StR κ (grow w p o) σ en :=
  ⟨h.wo.grow hp, h.ln, fun i => by
    rcases h.sl i with q | ⟨v, q1, q2⟩
    · exact .inl q
    · exact .inr ⟨v, q1, q2.grow h.wo.su hp⟩⟩
/-- a new list that a result owns -/
def newR (w : Sn) (p : Addr) (o : HO) : Sn := { w with H := upd w.H p o, O := fun b => if b = p then some .r else w.O b }
theorem newR_O {p b : Addr} {o : HO} (h : b ≠ p) : (newR w p o).O b = w.O b := if_neg h
theorem newR_Op {p : Addr} {o : HO} : (newR w p o).O p = some .r := if_pos rfl
theorem newR_nx {p : Addr} {o : HO} (hp : w.H p = none) : Nx w (newR w p o) :=
  ⟨List.prefix_refl _, Same.refl _, fun x u h1 h2 => by
    have ne : x ≠ p := ne_of_none h1 hp
    exact ⟨(upd_ne ne).trans h1, rfl, (newR_O ne).trans h2⟩⟩
theorem EntR.newR {p : Addr} {o : HO} (hp : w.H p = none) (h : EntR κ w ix v r) : EntR κ (newR w p o) ix v r := by
  cases r with
  | no => trivial
  | sh d => exact h
  | ow ds =>
    obtain ⟨q, ys, e1, e2, e3, e4⟩ := h
    have ne : q ≠ p := ne_of_none e3 hp
    exact ⟨q, ys, e1, (newR_O ne).trans e2, (upd_ne ne).trans e3, e4⟩
  | dk kvs =>
    obtain ⟨q, ys, e1, e2, e3, e4⟩ := h
    have ne : q ≠ p := ne_of_none e3 hp
    exact ⟨q, ys, e1, (newR_O ne).trans e2, (upd_ne ne).trans e3, e4⟩
  | wr j => exact h
  | sc => exact h
theorem ObR.newR {p q : Addr} {o : HO} {ob : Ob} (hp : w.H p = none) (h : ObR κ w ix q ob) : ObR κ (newR w p o) ix q ob := by
  have ne : ∀ {q : Addr} {u : HO}, w.H q = some u → q ≠ p := fun e => ne_of_none e hp
  cases ob with
  | tn k => exact ⟨(newR_O (ne h.2)).trans h.1, (upd_ne (ne h.2)).trans h.2⟩
  | tb g rows kept =>
    obtain ⟨dx, l, vg, rs, a1, a2, a3, a4, a5, a6, a7, a8⟩ := h
    exact ⟨dx, l, vg, rs, (newR_O (ne a4)).trans a1, (newR_O (ne a5)).trans a2, (newR_O (ne a6)).trans a3, (upd_ne (ne a4)).trans a4, (upd_ne (ne a5)).trans a5, (upd_ne (ne a6)).trans a6, a7, a8⟩
theorem WdR.newR {p : Addr} {o : HO} {wd : List Ob} (h : WdR κ w wd) (hp : w.H p = none) : WdR κ (newR w p o) wd where
  fr := fun q i e => by
    by_cases z : q = p
    · rw [z]; exact h.su.free hp
    · rw [newR_O z] at e
      exact h.fr q i e
  su := fun b u e => by
    have e' : w.G b = some u := e
    have q := h.su b u e'
    exact (upd_ne (ne_of_none q hp)).trans q
  wl := h.wl
  wd := fun j ob q e1 e2 => (h.wd j ob q e1 e2).newR hp
theorem StR.newR {p : Addr} {o : HO} (h : StR κ w σ en) (hp : w.H p = none) : StR κ (newR w p o) σ en :=
  ⟨h.wo.newR hp, h.ln, fun i => by
    rcases h.sl i with q | ⟨v, q1, q2⟩
    · exact .inl q
    · exact .inr ⟨v, q1, q2.newR hp⟩⟩
/-- an end: a new list of the result's own -/
theorem fin_ow {ds : List D} {xs : List V} {p : Addr} {Q : VK} (s : StR κ w σ en) (h : Po κ W w (R.ok (Ent.ow ds) en) fun r en' w' => ∀ v, StR κ w' σ en' → EntR κ w' .r v r → Q v w'.H) (hd : DqAll w.G xs ds) (hp : w.H p = none) : Q (.ref p) (upd w.H p (.lst xs)) :=
  h (newR w p (.lst xs)) (newR_nx hp) (.ref p) (s.newR hp) ⟨p, xs, rfl, newR_Op, upd_same, hd⟩
/-- .. a new tuple -/
theorem fin_tup {ds : List D} {xs : List V} {p : Addr} {Q : VK} (s : StR κ w σ en) (h : Po κ W w (R.ok (Ent.sh (.tuple ds)) en) fun r en' w' => ∀ v, StR κ w' σ en' → EntR κ w' .r v r → Q v w'.H) (hd : DqAll w.G xs ds) (hp : w.H p = none) : Q (.ref p) (upd w.H p (.tup xs)) :=
  h (grow w p (.tup xs)) (grow_nx s.wo.su hp) (.ref p) (s.grow hp) (Dq.tup upd_same (dpa_mono (upG (s.wo.su.free hp)) _ _ hd))
end
end CO

/-! CoB: expressions over the data layer: constants, names, operators, comparisons, tests, displays, subscripts, slices. -/
namespace CO
open PySem PySem.Spec PyProof.Rows L2

/-- what an expression's end wants -/
abbrev Qe (κ : Kx) (σ : St) (Q : VK) : Ent → En → Sn → Prop := fun r en' w' => ∀ v, StR κ w' σ en' → EntR κ w' .r v r → Q v w'.H
def eC (d : D) (en : En) : R Ent := .ok (.sh d) en
def eN (i : Nat) (en : En) : R Ent := match en.get i with
  | .sh d => .ok (.sh d) en
  | .ow ds => .ok (.sh (.list ds)) (en.set i (.sh (.list ds)))
  | .wr j => .ok (.wr j) en
  | .sc ns => .ok (.sc ns) en
  | _ => .st
/-- a name whose value is handed on for good -/
def eMv (i : Nat) (en : En) : R Ent := match en.get i with
  | .sh d => .ok (.sh d) en
  | .ow ds => .ok (.ow ds) (en.set i .no)
  | .dk kvs => .ok (.dk kvs) (en.set i .no)
  | .wr j => .ok (.wr j) en
  | .sc ns => .ok (.sc ns) en
  | .no => .st
/-- a name that is only looked at -/
def eP (i : Nat) (en : En) : R Ent := match en.get i with
  | .no => .st
  | e => .ok e en

section
variable {X : Cx} {κ : Kx} {W : WX}
/-! ### constants -/
theorem de_c {e : Expr} {d : D} {v : V} (h : PE X e (tC v)) (hd : ∀ G, Dq G v d) : PE X e (tOf κ W (eC d)) :=
  pe_imp h fun σ H Q ⟨w, en, hw, s, p⟩ => by
    subst hw
    exact p w (Nx.refl _) v s (hd _)
theorem de_int {i j pos} : PE X (.Constant (.int i) j pos) (tOf κ W (eC (.int i))) := de_c pe_int fun _ => .int i
theorem de_str {x j pos} : PE X (.Constant (.str x) j pos) (tOf κ W (eC (.str x))) := de_c pe_str fun _ => .str x
theorem de_bl {b j pos} : PE X (.Constant (.bool b) j pos) (tOf κ W (eC (.bool b))) := de_c pe_bl fun _ => .bl b
theorem de_non {j pos} : PE X (.Constant .none j pos) (tOf κ W (eC .none)) := de_c pe_non fun _ => .non
theorem de_globI {x : Str} {i : Int} {t : Tok} {pos : Pos} (hm : X.mg x = some (.int i t)) (hg : Gl X x := by rfl) (hd : (x == ("__debug__" : Str)) = false := by decide) : PE X (.Name x pos) (tOf κ W (eC (.int i))) :=
  de_c (pe_glob hg hm (v := .int i) ⟨t, rfl⟩ hd) fun _ => .int i

/-! ### names -/
theorem slot_of {σ : St} {i : Nat} {v : V} (h : σ.getD i none = some v) : σ[i]? = some (some v) := by
  rw [List.getD_eq_getElem?_getD] at h
  cases e : σ[i]? with
  | none => rw [e] at h; cases h
  | some o => rw [e] at h; exact congrArg some h
theorem StR.at {w : Sn} {σ : St} {en : En} (s : StR κ w σ en) {i : Nat} (h : en.get i ≠ .no) : ∃ v, σ[i]? = some (some v) ∧ EntR κ w (.s i) v (en.get i) := by
  rcases s.sl i with q | ⟨v, q1, q2⟩
  · exact absurd q h
  · exact ⟨v, slot_of q1, q2⟩
/-- slot i's own list goes into the heap that stays -/
theorem StR.frzS {w : Sn} {σ : St} {en : En} (s : StR κ w σ en) {i : Nat} {p : Addr} {xs : List V} {ds : List D} (hv : σ[i]? = some (some (.ref p))) (hO : w.O p = some (.s i)) (hH : w.H p = some (.lst xs)) (ha : DqAll w.G xs ds) :
    StR κ (frzAt w p xs) σ (en.set i (.sh (.list ds))) := by
  have hG := s.wo.fr p _ hO
  refine ⟨s.wo.frz hO (fun _ q => nomatch q) hH, by show (en.sl.set i _).length = _; rw [List.length_set]; exact s.ln, fun j => ?_⟩
  by_cases hj : i = j
  · subst hj
    rcases get_set_same (en := en) (i := i) (e := .sh (.list ds)) with e | e
    · rw [e]
      exact .inr ⟨.ref p, by rw [List.getD_eq_getElem?_getD, hv]; rfl, .lst upd_same (dpa_mono (upG hG) _ _ ha)⟩
    · exact .inl e
  · rw [get_set_ne hj]
    exact (s.sl j).frz hO hG (fun q => hj (by injection q with q; exact q.symm))
theorem de_name (i : Nat) {x : Str} {pos : Pos} (hN : X.N[i]? = some x := by rfl) (hv : Vis X.env.scope x := by first | exact Or.inl rfl | exact Or.inr (Or.inl rfl) | exact Or.inr (Or.inr rfl)) (hd : (x == ("__debug__" : Str)) = false := by decide)
    (hcd : (x == ("__classdict__" : Str)) = false := by decide) : PE X (.Name x pos) (tOf κ W (eN i)) :=
  pe_imp (pv i hN hv hd hcd) fun σ H Q ⟨w, en, hw, s, p⟩ => by
    subst hw
    unfold eN at p
    cases hg : en.get i with
    | no => rw [hg] at p; exact p.elim
    | dk kvs => rw [hg] at p; exact p.elim
    | sh d =>
      rw [hg] at p
      obtain ⟨v, e1, e2⟩ := s.at (i := i) (by rw [hg]; intro q; cases q)
      rw [hg] at e2
      exact ⟨v, e1, p w (Nx.refl _) v s e2⟩
    | wr j =>
      rw [hg] at p
      obtain ⟨v, e1, e2⟩ := s.at (i := i) (by rw [hg]; intro q; cases q)
      rw [hg] at e2
      exact ⟨v, e1, p w (Nx.refl _) v s e2⟩
    | sc =>
      rw [hg] at p
      obtain ⟨v, e1, e2⟩ := s.at (i := i) (by rw [hg]; intro q; cases q)
      rw [hg] at e2
      exact ⟨v, e1, p w (Nx.refl _) v s e2⟩
    | ow ds =>
      rw [hg] at p
      obtain ⟨v, e1, e2⟩ := s.at (i := i) (by rw [hg]; intro q; cases q)
      rw [hg] at e2
      obtain ⟨a, xs, rfl, hO, hH, ha⟩ := e2
      have hG := s.wo.fr a _ hO
      exact ⟨_, e1, p (frzAt w a xs) (frz_nx hO hG) (.ref a) (s.frzS e1 hO hH ha) (.lst upd_same (dpa_mono (upG hG) _ _ ha))⟩
/-- slot i's own object becomes the result's -/
def mvO (w : Sn) (p : Addr) (ix : Ix) : Sn := { w with O := fun b => if b = p then some ix else w.O b }
theorem mvO_nx {w : Sn} {p : Addr} {ix jx : Ix} (hO : w.O p = some jx) : Nx w (mvO w p ix) :=
  ⟨List.prefix_refl _, Same.refl _, fun x o h1 h2 => by
    have ne : x ≠ p := fun z => by rw [z, hO] at h2; cases h2
    exact ⟨h1, rfl, (if_neg ne).trans h2⟩⟩
theorem EntR.mv {w : Sn} {p : Addr} {ix jx kx : Ix} {v : V} {r : Ent} (hO : w.O p = some jx) (hk : kx ≠ jx) (h : EntR κ w kx v r) : EntR κ (mvO w p ix) kx v r := by
  have ne : ∀ {q : Addr}, w.O q = some kx → q ≠ p := fun e z => by rw [z, hO] at e; exact hk (Option.some.inj e).symm
  cases r with
  | no => trivial
  | sh d => exact h
  | ow ds =>
    obtain ⟨q, ys, e1, e2, e3, e4⟩ := h
    exact ⟨q, ys, e1, (if_neg (ne e2)).trans e2, e3, e4⟩
  | dk kvs =>
    obtain ⟨q, ys, e1, e2, e3, e4⟩ := h
    exact ⟨q, ys, e1, (if_neg (ne e2)).trans e2, e3, e4⟩
  | wr j => exact h
  | sc => exact h
theorem WdR.mv {w : Sn} {p : Addr} {ix jx : Ix} {wd : List Ob} (h : WdR κ w wd) (hO : w.O p = some jx) (hj : ∀ j, Ix.w j ≠ jx) : WdR κ (mvO w p ix) wd where
  fr := fun q i e => by
    by_cases z : q = p
    · rw [z]; exact h.fr p _ hO
    · have e' : (if q = p then some ix else w.O q) = some i := e
      rw [if_neg z] at e'
      exact h.fr q i e'
  su := h.su
  wl := h.wl
  wd := fun j ob q e1 e2 => by
    have x := h.wd j ob q e1 e2
    have ne : ∀ {q : Addr}, w.O q = some (.w j) → q ≠ p := fun e z => by rw [z, hO] at e; exact hj j (Option.some.inj e).symm
    cases ob with
    | tn k => exact ⟨(if_neg (ne x.1)).trans x.1, x.2⟩
    | tb g rows kept =>
      obtain ⟨dx, l, vg, rs, a1, a2, a3, a4, a5, a6, a7, a8⟩ := x
      exact ⟨dx, l, vg, rs, (if_neg (ne a1)).trans a1, (if_neg (ne a2)).trans a2, (if_neg (ne a3)).trans a3, a4, a5, a6, a7, a8⟩
theorem StR.mvS {w : Sn} {σ : St} {en : En} (s : StR κ w σ en) {i : Nat} {p : Addr} (hO : w.O p = some (.s i)) : StR κ (mvO w p .r) σ (en.set i .no) := by
  refine ⟨s.wo.mv hO (fun _ q => nomatch q), by show (en.sl.set i _).length = _; rw [List.length_set]; exact s.ln, fun j => ?_⟩
  by_cases hj : i = j
  · subst hj
    rcases get_set_same (en := en) (i := i) (e := .no) with e | e <;> exact .inl e
  · rw [get_set_ne hj]
    rcases s.sl j with q | ⟨v, q1, q2⟩
    · exact .inl q
    · exact .inr ⟨v, q1, q2.mv hO (fun q => hj (by injection q with q; exact q.symm))⟩
theorem de_move (i : Nat) {x : Str} {pos : Pos} (hN : X.N[i]? = some x := by rfl) (hv : Vis X.env.scope x := by first | exact Or.inl rfl | exact Or.inr (Or.inl rfl) | exact Or.inr (Or.inr rfl)) (hd : (x == ("__debug__" : Str)) = false := by decide)
    (hcd : (x == ("__classdict__" : Str)) = false := by decide) : PE X (.Name x pos) (tOf κ W (eMv i)) :=
  pe_imp (pv i hN hv hd hcd) fun σ H Q ⟨w, en, hw, s, p⟩ => by
    subst hw
    unfold eMv at p
    cases hg : en.get i with
    | no => rw [hg] at p; exact p.elim
    | sh d =>
      rw [hg] at p
      obtain ⟨v, e1, e2⟩ := s.at (i := i) (by rw [hg]; intro q; cases q)
      rw [hg] at e2
      exact ⟨v, e1, p w (Nx.refl _) v s e2⟩
    | wr j =>
      rw [hg] at p
      obtain ⟨v, e1, e2⟩ := s.at (i := i) (by rw [hg]; intro q; cases q)
      rw [hg] at e2
      exact ⟨v, e1, p w (Nx.refl _) v s e2⟩
    | sc =>
      rw [hg] at p
      obtain ⟨v, e1, e2⟩ := s.at (i := i) (by rw [hg]; intro q; cases q)
      rw [hg] at e2
      exact ⟨v, e1, p w (Nx.refl _) v s e2⟩
    | ow ds =>
      rw [hg] at p
      obtain ⟨v, e1, e2⟩ := s.at (i := i) (by rw [hg]; intro q; cases q)
      rw [hg] at e2
      obtain ⟨a, xs, rfl, hO, hH, ha⟩ := e2
      exact ⟨_, e1, p (mvO w a .r) (mvO_nx hO) (.ref a) (s.mvS hO) ⟨a, xs, rfl, if_pos rfl, hH, ha⟩⟩
    | dk kvs =>
      rw [hg] at p
      obtain ⟨v, e1, e2⟩ := s.at (i := i) (by rw [hg]; intro q; cases q)
      rw [hg] at e2
      obtain ⟨a, xs, rfl, hO, hH, ha⟩ := e2
      exact ⟨_, e1, p (mvO w a .r) (mvO_nx hO) (.ref a) (s.mvS hO) ⟨a, xs, rfl, if_pos rfl, hH, ha⟩⟩
theorem db_name (i : Nat) {x : Str} {pos : Pos} (hN : X.N[i]? = some x := by rfl) (hv : Vis X.env.scope x := by first | exact Or.inl rfl | exact Or.inr (Or.inl rfl) | exact Or.inr (Or.inr rfl)) (hd : (x == ("__debug__" : Str)) = false := by decide)
    (hcd : (x == ("__classdict__" : Str)) = false := by decide) : PE X (.Name x pos) (tBOf κ W (eP i)) :=
  pe_imp (pv i hN hv hd hcd) fun σ H Q ⟨w, en, hw, s, p⟩ => by
    subst hw
    unfold eP at p
    by_cases hg : en.get i = .no
    · rw [hg] at p; exact p.elim
    · obtain ⟨v, e1, e2⟩ := s.at hg
      refine ⟨v, e1, ?_⟩
      have p' : Po κ W w (R.ok (en.get i) en) fun r en' w' => ∀ v ix, StR κ w' σ en' → EntR κ w' ix v r → Q v w'.H := by
        cases hq : en.get i with
        | no => exact absurd hq hg
        | sh d => rw [hq] at p; exact p
        | ow ds => rw [hq] at p; exact p
        | dk kvs => rw [hq] at p; exact p
        | wr j => rw [hq] at p; exact p
        | sc => rw [hq] at p; exact p
      exact p' w (Nx.refl _) v (.s i) s e2
theorem db_of {e : Expr} {m : En → R Ent} (h : PE X e (tOf κ W m)) : PE X e (tBOf κ W m) :=
  pe_imp h fun σ H Q ⟨w, en, hw, s, p⟩ => ⟨w, en, hw, s, p.imp fun r en' w' n q v s' er => q v .r s' er⟩

/-! ### operators on data -/
/-- f over two values is worth g over data -/
def OpD (X : Cx) (κ : Kx) (F : Value → Value → Sem Value) (g : D → D → En → R Ent) : Prop :=
  ∃ r : R2, OpR X F r ∧ ∀ (W : WX) (w : Sn) (σ : St) (en : En) (x y : V) (a b : D) (Q : VK), StR κ w σ en → Dq w.G x a → Dq w.G y b → Po κ W w (g a b en) (Qe κ σ Q) → r x y w.H Q
def eBin (g : D → D → En → R Ent) (ma mb : En → R Ent) (en : En) : R Ent := (dv ma en).bind fun x e1 => (dv mb e1).bind fun y e2 => g x y e2
theorem tOp_of {F : Value → Value → Sem Value} {g : D → D → En → R Ent} {r : R2} {ma mb : En → R Ent} {σ : St} {H : Hp} {Q : VK}
    (h : ∀ (W : WX) (w : Sn) (σ : St) (en : En) (x y : V) (a b : D) (Q : VK), StR κ w σ en → Dq w.G x a → Dq w.G y b → Po κ W w (g a b en) (Qe κ σ Q) → r x y w.H Q)
    (q : tOf κ W (eBin g ma mb) σ H Q) : tOp r (tOf κ W ma) (tOf κ W mb) σ H Q := by
  obtain ⟨w, en, hw, s, p⟩ := q
  subst hw
  refine goD s p fun x e1 v1 w1 n1 s1 d1 p1 => ?_
  refine goD s1 p1 fun y e2 v2 w2 n2 s2 d2 p2 => ?_
  exact h W w2 σ e2 v1 v2 x y Q s2 (dp_mono n2.g _ _ d1) d2 p2
theorem de_bin {op : Operator} {g : D → D → En → R Ent} {a b : Expr} {ma mb : En → R Ent} {pos : Pos} (ho : OpD X κ (binaryOp op) g) (ha : PE X a (tOf κ W ma)) (hb : PE X b (tOf κ W mb)) : PE X (.BinOp a op b pos) (tOf κ W (eBin g ma mb)) := by
  obtain ⟨r, hr, h⟩ := ho
  exact pe_imp (pe_op hr ha hb) fun σ H Q q => tOp_of (F := binaryOp op) h q
theorem de_cmp {op : CmpOp} {g : D → D → En → R Ent} {a b : Expr} {ma mb : En → R Ent} {pos : Pos} (ho : OpD X κ (compareOp op) g) (ha : PE X a (tOf κ W ma)) (hb : PE X b (tOf κ W mb)) (hm : behindInMarks op b = false := by first | exact nomark _ | rfl) :
    PE X (.Compare a [op] [b] pos) (tOf κ W (eBin g ma mb)) := by
  obtain ⟨r, hr, h⟩ := ho
  exact pe_imp (pe_cmpR hr ha hb hm) fun σ H Q q => tOp_of (F := compareOp op) h q
/-- a value that is a truth value, as a test -/
def tst (m : En → R Ent) (en : En) : R Bool := (dv m en).bind fun d e => match d with | .bool b => .ok b e | _ => .st
theorem tTest_of {m : En → R Ent} {t : TE} (h : ∀ σ H Q, tOf κ W m σ H Q → t σ H Q) {σ : St} {H : Hp} {Q : Bool → Hp → Prop} (q : tTOf κ W (tst m) σ H Q) : tTest t σ H Q := by
  obtain ⟨w, en, hw, s, p⟩ := q
  subst hw
  refine h σ _ _ ?_
  refine goD s p fun d e1 v1 w1 n1 s1 d1 p1 => ?_
  cases d with
  | bool b => exact ⟨b, dp_bool d1, p1 w1 (Nx.refl _) s1⟩
  | _ => exact False.elim p1
theorem dt_cmp {op : CmpOp} {g : D → D → En → R Ent} {a b : Expr} {ma mb : En → R Ent} {pos : Pos} (ho : OpD X κ (compareOp op) g) (ha : PE X a (tOf κ W ma)) (hb : PE X b (tOf κ W mb)) (hm : behindInMarks op b = false := by first | exact nomark _ | rfl) :
    PT X (.Compare a [op] [b] pos) (tTOf κ W (tst (eBin g ma mb))) := by
  obtain ⟨r, hr, h⟩ := ho
  exact pt_imp (pt_cmpR hr ha hb hm) fun σ H Q q => tTest_of (fun σ H Q z => tOp_of (F := compareOp op) h z) q
theorem dt_val {e : Expr} {m : En → R Ent} (h : PE X e (tOf κ W m)) (he : ∀ whole, isTrue e X.env whole = (do let v ← whole; standAt e.pos; holding [v] (truthy v)) := by intro _; rfl) : PT X e (tTOf κ W (tst m)) :=
  pt_imp (pt_val h he) fun σ H Q q => tTest_of (t := tOf κ W m) (fun _ _ _ z => z) q
/-- a < b < c -/
def eChain (g g' : D → D → En → R Ent) (ma mb mc : En → R Ent) (en : En) : R Ent := (dv ma en).bind fun x e1 => (dv mb e1).bind fun y e2 => (dv (g x y) e2).bind fun z e3 => match z with
  | .bool true => (dv mc e3).bind fun u e4 => g' y u e4
  | .bool false => .ok (.sh (.bool false)) e3
  | _ => .st
theorem tChain_of {g g' : D → D → En → R Ent} {r r' : R2} {ma mb mc : En → R Ent} {σ : St} {H : Hp} {Q : VK}
    (h : ∀ (W : WX) (w : Sn) (σ : St) (en : En) (x y : V) (a b : D) (Q : VK), StR κ w σ en → Dq w.G x a → Dq w.G y b → Po κ W w (g a b en) (Qe κ σ Q) → r x y w.H Q)
    (h' : ∀ (W : WX) (w : Sn) (σ : St) (en : En) (x y : V) (a b : D) (Q : VK), StR κ w σ en → Dq w.G x a → Dq w.G y b → Po κ W w (g' a b en) (Qe κ σ Q) → r' x y w.H Q)
    (q : tOf κ W (eChain g g' ma mb mc) σ H Q) : tChain r r' (tOf κ W ma) (tOf κ W mb) (tOf κ W mc) σ H Q := by
  obtain ⟨w, en, hw, s, p⟩ := q
  subst hw
  refine goD s p fun x e1 v1 w1 n1 s1 d1 p1 => ?_
  refine goD s1 p1 fun y e2 v2 w2 n2 s2 d2 p2 => ?_
  refine h W w2 σ e2 v1 v2 x y _ s2 (dp_mono n2.g _ _ d1) d2 ?_
  refine poD (m := g x y) (Q1 := fun z H3 => ∃ k, z = .bl k ∧ (if k = true then tOf κ W mc σ H3 fun w' H4 => r' v2 w' H4 Q else Q (.bl false) H3)) s2 p2 fun z e3 v3 w3 n3 s3 d3 p3 => ?_
  cases z with
  | bool b =>
    refine ⟨b, dp_bool d3, ?_⟩
    cases b with
    | true =>
      rw [if_pos rfl]
      refine goD s3 p3 fun u e4 v4 w4 n4 s4 d4 p4 => ?_
      exact h' W w4 σ e4 v2 v4 y u Q s4 (dp_mono (n3.trans n4).g _ _ d2) d4 p4
    | false =>
      rw [if_neg Bool.false_ne_true]
      exact p3 w3 (Nx.refl _) (.bl false) s3 (.bl false)
  | _ => exact False.elim p3
theorem de_chain {op op' : CmpOp} {g g' : D → D → En → R Ent} {a b c : Expr} {ma mb mc : En → R Ent} {pos : Pos} (ho : OpD X κ (compareOp op) g) (ho' : OpD X κ (compareOp op') g') (ha : PE X a (tOf κ W ma)) (hb : PE X b (tOf κ W mb)) (hc : PE X c (tOf κ W mc)) (hm : lastMarks [op, op'] [b, c] = false := by with_unfolding_all rfl) :
    PE X (.Compare a [op, op'] [b, c] pos) (tOf κ W (eChain g g' ma mb mc)) := by
  obtain ⟨r, hr, h⟩ := ho
  obtain ⟨r', hr', h'⟩ := ho'
  exact pe_imp (pe_chain hr hr' ha hb hc hm) fun σ H Q q => tChain_of h h' q
theorem dt_chain {op op' : CmpOp} {g g' : D → D → En → R Ent} {a b c : Expr} {ma mb mc : En → R Ent} {pos : Pos} (ho : OpD X κ (compareOp op) g) (ho' : OpD X κ (compareOp op') g') (ha : PE X a (tOf κ W ma)) (hb : PE X b (tOf κ W mb)) (hc : PE X c (tOf κ W mc)) (hm : lastMarks [op, op'] [b, c] = false := by with_unfolding_all rfl) :
    PT X (.Compare a [op, op'] [b, c] pos) (tTOf κ W (tst (eChain g g' ma mb mc))) := by
  obtain ⟨r, hr, h⟩ := ho
  obtain ⟨r', hr', h'⟩ := ho'
  exact pt_imp (pt_chain hr hr' ha hb hc hm) fun σ H Q q => tTest_of (fun _ _ _ z => tChain_of h h' z) q

/-! ### and, or, not, if -/
def tAndM (m1 m2 : En → R Bool) (en : En) : R Bool := (m1 en).bind fun b e => if b = true then m2 e else .ok false e
def tOrM (m1 m2 : En → R Bool) (en : En) : R Bool := (m1 en).bind fun b e => if b = true then .ok true e else m2 e
def tNotM (m1 : En → R Bool) (en : En) : R Bool := (m1 en).bind fun b e => .ok (!b) e
variable {a b c e : Expr} {rest : List Expr} {pos : Pos} {m m' ma mb : En → R Ent} {t t' : En → R Bool}
theorem pw_imp {t t' : TT} (h : PW X e t) (f : ∀ σ H Q, t' σ H Q → t σ H Q) : PW X e t' := ⟨fun wh pins s σ H Q I hq => h.run wh pins s σ H Q I (f σ H Q hq)⟩
theorem dw_and (ha : PT X a (tTOf κ W t)) (hb : PW X (.BoolOp .And (b :: rest) pos) (tTOf κ W t')) : PW X (.BoolOp .And (a :: b :: rest) pos) (tTOf κ W (tAndM t t')) :=
  pw_imp (pw_and ha hb) fun σ H Q ⟨w, en, hw, s, p⟩ => by
    subst hw
    refine goT (k := fun b e => if b = true then t' e else .ok false e) s p fun b e1 w1 n1 s1 p1 => ?_
    cases b with
    | true =>
      rw [if_pos rfl] at p1 ⊢
      exact ⟨w1, e1, rfl, s1, p1⟩
    | false =>
      rw [if_neg Bool.false_ne_true] at p1 ⊢
      exact p1 w1 (Nx.refl _) s1
theorem dw_and1 (ha : PT X a (tTOf κ W t)) : PW X (.BoolOp .And [a] pos) (tTOf κ W t) := pw_and1 ha
theorem dw_or (ha : PT X a (tTOf κ W t)) (hb : PW X (.BoolOp .Or (b :: rest) pos) (tTOf κ W t')) : PW X (.BoolOp .Or (a :: b :: rest) pos) (tTOf κ W (tOrM t t')) :=
  pw_imp (pw_or ha hb) fun σ H Q ⟨w, en, hw, s, p⟩ => by
    subst hw
    refine goT (k := fun b e => if b = true then .ok true e else t' e) s p fun b e1 w1 n1 s1 p1 => ?_
    cases b with
    | true =>
      rw [if_pos rfl] at p1 ⊢
      exact p1 w1 (Nx.refl _) s1
    | false =>
      rw [if_neg Bool.false_ne_true] at p1 ⊢
      exact ⟨w1, e1, rfl, s1, p1⟩
theorem dw_or1 (ha : PT X a (tTOf κ W t)) : PW X (.BoolOp .Or [a] pos) (tTOf κ W t) := pw_or1 ha
theorem dt_not (ha : PT X a (tTOf κ W t)) : PT X (.UnaryOp .Not a pos) (tTOf κ W (tNotM t)) :=
  pt_imp (pt_not ha) fun σ H Q ⟨w, en, hw, s, p⟩ => by
    subst hw
    exact goT (k := fun b e => .ok (!b) e) s p fun b e1 w1 n1 s1 p1 => p1 w1 (Nx.refl _) s1
/-- .. as values -/
def eAnd (m m' : En → R Ent) (en : En) : R Ent := (tst m en).bind fun b e => if b = true then m' e else .ok (.sh (.bool false)) e
def eOr (m m' : En → R Ent) (en : En) : R Ent := (tst m en).bind fun b e => if b = true then .ok (.sh (.bool true)) e else m' e
def eNot (m : En → R Ent) (en : En) : R Ent := (tst m en).bind fun b e => .ok (.sh (.bool (!b))) e
def eIf (t : En → R Bool) (m m' : En → R Ent) (en : En) : R Ent := (t en).bind fun b e => if b = true then m e else m' e
/-- a truth value's place in a reading -/
theorem goB {w : Sn} {σ : St} {en : En} {α : Type} {k : Bool → En → R α} {Q : α → En → Sn → Prop} {Q1 : VK} (s : StR κ w σ en) (h : Po κ W w ((tst m en).bind k) Q)
    (hk : ∀ b en1 w1, Nx w w1 → StR κ w1 σ en1 → Po κ W w1 (k b en1) Q → Q1 (.bl b) w1.H) : tOf κ W m σ w.H Q1 := by
  have h' : Po κ W w ((dv m en).bind fun d e => (match d with | .bool b => R.ok b e | _ => .st : R Bool).bind k) Q := by
    unfold tst at h
    cases e : dv m en with
    | ok d e1 => rw [e] at h; exact h
    | ex c e1 => rw [e] at h; exact h
    | st => rw [e] at h; exact h
  refine goD s h' fun d e1 v1 w1 n1 s1 d1 p1 => ?_
  cases d with
  | bool b =>
    rw [dp_bool d1]
    exact hk b e1 w1 n1 s1 p1
  | _ => exact False.elim p1
theorem de_and (ha : PE X a (tOf κ W m)) (hb : PE X (.BoolOp .And (b :: rest) pos) (tOf κ W m')) : PE X (.BoolOp .And (a :: b :: rest) pos) (tOf κ W (eAnd m m')) :=
  pe_imp (pe_and ha hb) fun σ H Q ⟨w, en, hw, s, p⟩ => by
    subst hw
    refine goB s p fun b e1 w1 n1 s1 p1 => ⟨b, rfl, ?_⟩
    cases b with
    | true =>
      rw [if_pos rfl] at p1 ⊢
      exact ⟨w1, e1, rfl, s1, p1⟩
    | false =>
      rw [if_neg Bool.false_ne_true] at p1 ⊢
      exact p1 w1 (Nx.refl _) _ s1 (.bl false)
theorem de_or (ha : PE X a (tOf κ W m)) (hb : PE X (.BoolOp .Or (b :: rest) pos) (tOf κ W m')) : PE X (.BoolOp .Or (a :: b :: rest) pos) (tOf κ W (eOr m m')) :=
  pe_imp (pe_or ha hb) fun σ H Q ⟨w, en, hw, s, p⟩ => by
    subst hw
    refine goB s p fun b e1 w1 n1 s1 p1 => ⟨b, rfl, ?_⟩
    cases b with
    | true =>
      rw [if_pos rfl] at p1 ⊢
      exact p1 w1 (Nx.refl _) _ s1 (.bl true)
    | false =>
      rw [if_neg Bool.false_ne_true] at p1 ⊢
      exact ⟨w1, e1, rfl, s1, p1⟩
theorem de_one {op : BoolOp} (ha : PE X a (tOf κ W m)) : PE X (.BoolOp op [a] pos) (tOf κ W m) := pe_one ha
theorem de_not (ha : PE X a (tOf κ W m)) : PE X (.UnaryOp .Not a pos) (tOf κ W (eNot m)) :=
  pe_imp (pe_not ha) fun σ H Q ⟨w, en, hw, s, p⟩ => by
    subst hw
    exact goB (k := fun (b : Bool) (e : En) => R.ok (Ent.sh (PyData.bool (!b))) e) s p fun b e1 w1 n1 s1 p1 => ⟨b, rfl, p1 w1 (Nx.refl _) _ s1 (.bl _)⟩
theorem de_if (hc : PT X c (tTOf κ W t)) (ha : PE X a (tOf κ W m)) (hb : PE X b (tOf κ W m')) : PE X (.IfExp c a b pos) (tOf κ W (eIf t m m')) :=
  pe_imp (pe_ifExp hc ha hb) fun σ H Q ⟨w, en, hw, s, p⟩ => by
    subst hw
    refine goT (k := fun b e => if b = true then m e else m' e) s p fun b e1 w1 n1 s1 p1 => ?_
    cases b with
    | true =>
      rw [if_pos rfl] at p1 ⊢
      exact ⟨w1, e1, rfl, s1, p1⟩
    | false =>
      rw [if_neg Bool.false_ne_true] at p1 ⊢
      exact ⟨w1, e1, rfl, s1, p1⟩

/-! ### arguments -/
/-- an argument: data, or a world object -/
def toA (r : Ent) (e : En) : R Ent := match r with
  | .sh d => .ok (.sh d) e
  | .ow ds => .ok (.sh (.list ds)) e
  | .wr j => .ok (.wr j) e
  | .sc ns => .ok (.sc ns) e
  | _ => .st
def aNil (en : En) : R (List Ent) := .ok [] en
def aCons (m : En → R Ent) (ms : En → R (List Ent)) (en : En) : R (List Ent) := (m en).bind fun r e => (toA r e).bind fun r' e' => (ms e').bind fun rs e2 => .ok (r' :: rs) e2
theorem frz_a {w : Sn} {σ : St} {en : En} {v : V} {r r' : Ent} {e : En} (s : StR κ w σ en) (er : EntR κ w .r v r) (hd : toA r en = .ok r' e) : e = en ∧ ∃ w', Nx w w' ∧ w'.H = w.H ∧ StR κ w' σ en ∧ ArgR κ w' v r' := by
  cases r with
  | sh d' =>
    cases hd
    exact ⟨rfl, w, Nx.refl _, rfl, s, er⟩
  | ow ds =>
    cases hd
    obtain ⟨p, xs, rfl, hO, hH, ha⟩ := er
    have hG := s.wo.fr p _ hO
    exact ⟨rfl, frzAt w p xs, frz_nx hO hG, rfl, s.frzR hO hH, Dq.lst upd_same (dpa_mono (upG hG) _ _ ha)⟩
  | no => cases hd
  | dk kvs => cases hd
  | wr j =>
    cases hd
    exact ⟨rfl, w, Nx.refl _, rfl, s, er⟩
  | sc =>
    cases hd
    exact ⟨rfl, w, Nx.refl _, rfl, s, er⟩
theorem goE {w : Sn} {σ : St} {en : En} {α : Type} {k : Ent → En → R α} {Q : α → En → Sn → Prop} {Q1 : VK} (s : StR κ w σ en) (h : Po κ W w ((m en).bind fun r e => (toA r e).bind k) Q)
    (hk : ∀ r en1 v w1, Nx w w1 → StR κ w1 σ en1 → ArgR κ w1 v r → Po κ W w1 (k r en1) Q → Q1 v w1.H) : tOf κ W m σ w.H Q1 := by
  refine go s h fun r en1 v w1 n1 s1 er p1 => ?_
  cases e2 : toA r en1 with
  | ok r' e3 =>
    rw [e2] at p1
    obtain ⟨rfl, w2, n2, hH, s2, dp⟩ := frz_a s1 er e2
    rw [← hH]
    exact hk r' e3 v w2 (n1.trans n2) s2 dp (Po.mono (x := k r' e3) p1 n2)
  | ex c e3 => cases r <;> cases e2
  | st => rw [e2] at p1; exact False.elim p1
theorem da_nil : PA X [] (tAOf κ W aNil) := pa_imp pa_nil fun σ H Q ⟨w, en, hw, s, p⟩ => by
  subst hw
  exact p w (Nx.refl _) [] s .nil
theorem da_cons {es : List Expr} {ms : En → R (List Ent)} (h : PE X e (tOf κ W m)) (hs : PA X es (tAOf κ W ms)) (hst : starEach (e :: es) X.env = (false, eval e X.env) :: starEach es X.env := by rfl) : PA X (e :: es) (tAOf κ W (aCons m ms)) :=
  pa_imp (pa_cons h hs hst) fun σ H Q ⟨w, en, hw, s, p⟩ => by
    subst hw
    refine goE s p fun r e1 v w1 n1 s1 a1 p1 => ?_
    exact goA s1 p1 fun rs e2 vs w2 n2 s2 a2 p2 => p2 w2 (Nx.refl _) (v :: vs) s2 (.cons (a1.mono n2) a2)
/-- all data -/
def asDs : List Ent → Option (List D)
  | [] => some []
  | .sh d :: r => (asDs r).map (d :: ·)
  | _ :: _ => none
theorem asDs_all {w : Sn} : ∀ {rs : List Ent} {ds : List D} {vs : List V}, asDs rs = some ds → ArgsR κ w vs rs → DqAll w.G vs ds
  | [], ds, vs, h, a => by
    cases a
    cases h
    exact .nil
  | .sh d :: r, ds, _, h, .cons q t => by
    have h' : (asDs r).map (d :: ·) = some ds := h
    cases e : asDs r with
    | none => rw [e] at h'; cases h'
    | some es =>
      rw [e] at h'
      cases h'
      exact .cons q (asDs_all e t)
  | .no :: _, _, _, h, _ => by cases h
  | .ow _ :: _, _, _, h, _ => by cases h
  | .dk _ :: _, _, _, h, _ => by cases h
  | .wr _ :: _, _, _, h, _ => by cases h
  | .sc _ :: _, _, _, h, _ => by cases h
def dvs (ms : En → R (List Ent)) (en : En) : R (List D) := (ms en).bind fun rs e => match asDs rs with | some ds => .ok ds e | none => .st
theorem goDs {w : Sn} {σ : St} {en : En} {ms : En → R (List Ent)} {α : Type} {k : List D → En → R α} {Q : α → En → Sn → Prop} {Q1 : List V → Hp → Prop} (s : StR κ w σ en) (h : Po κ W w ((dvs ms en).bind k) Q)
    (hk : ∀ ds en1 vs w1, Nx w w1 → StR κ w1 σ en1 → DqAll w1.G vs ds → Po κ W w1 (k ds en1) Q → Q1 vs w1.H) : tAOf κ W ms σ w.H Q1 := by
  have h' : Po κ W w ((ms en).bind fun rs e => (match asDs rs with | some ds => R.ok ds e | none => .st : R (List D)).bind k) Q := by
    unfold dvs at h
    cases e : ms en with
    | ok d e1 => rw [e] at h; exact h
    | ex c e1 => rw [e] at h; exact h
    | st => rw [e] at h; exact h
  refine goA s h' fun rs e1 vs w1 n1 s1 a1 p1 => ?_
  cases e : asDs rs with
  | none => rw [e] at p1; exact False.elim p1
  | some ds =>
    rw [e] at p1
    exact hk ds e1 vs w1 n1 s1 (asDs_all e a1) p1

/-! ### displays -/
def lim : Nat := 100000
theorem lim_ok {n : Nat} (h : n ≤ lim) : n ≤ sizeLine := Nat.le_trans h (by unfold lim; rw [sizeLine_eq]; decide)
theorem lim_lt {n : Nat} (h : n < lim) : n < sizeLine := Nat.lt_of_lt_of_le h (by unfold lim; rw [sizeLine_eq]; decide)
def eTup (ms : En → R (List Ent)) (en : En) : R Ent := (dvs ms en).bind fun ds e => if ds.length ≤ lim then .ok (.sh (.tuple ds)) e else .st
def eLst (ms : En → R (List Ent)) (en : En) : R Ent := (dvs ms en).bind fun ds e => if ds.length ≤ lim then .ok (.ow ds) e else .st
theorem de_tup {es : List Expr} {ms : En → R (List Ent)} {k : Nat} (h : PA X es (tAOf κ W ms)) : PE X (.Tuple es k pos) (tOf κ W (eTup ms)) :=
  pe_imp (pe_tup h) fun σ H Q ⟨w, en, hw, s, p⟩ => by
    subst hw
    refine goDs (k := fun (ds : List D) (e : En) => if ds.length ≤ lim then R.ok (Ent.sh (PyData.tuple ds)) e else R.st) s p fun ds e1 vs w1 n1 s1 d1 p1 => ?_
    by_cases hl : ds.length ≤ lim
    · rw [if_pos hl] at p1
      exact ⟨by rw [dpa_len d1]; exact lim_ok hl, fun a ha => fin_tup s1 p1 d1 ha⟩
    · rw [if_neg hl] at p1
      exact False.elim p1
theorem de_lst {es : List Expr} {ms : En → R (List Ent)} (h : PA X es (tAOf κ W ms)) : PE X (.List es pos) (tOf κ W (eLst ms)) :=
  pe_imp (pe_lst h) fun σ H Q ⟨w, en, hw, s, p⟩ => by
    subst hw
    refine goDs (k := fun (ds : List D) (e : En) => if ds.length ≤ lim then R.ok (Ent.ow ds) e else R.st) s p fun ds e1 vs w1 n1 s1 d1 p1 => ?_
    by_cases hl : ds.length ≤ lim
    · rw [if_pos hl] at p1
      exact ⟨by rw [dpa_len d1]; exact lim_ok hl, fun a ha => fin_ow s1 p1 d1 ha⟩
    · rw [if_neg hl] at p1
      exact False.elim p1
end
end CO

/-! CoC: operators, subscripts, slices over the data layer. -/
namespace CO
open PySem PySem.Spec PyProof.Rows L2

/-! ### what operators do to data -/
def gAdd : D → D → En → R Ent
  | .int i, .int j, e => .ok (.sh (.int (i + j))) e
  | .str x, .str y, e => if x.length + y.length ≤ lim then .ok (.sh (.str (x ++ y))) e else .st
  | .list xs, .list ys, e => if xs.length + ys.length ≤ lim then .ok (.ow (xs ++ ys)) e else .st
  | .tuple xs, .tuple ys, e => if xs.length + ys.length ≤ lim then .ok (.sh (.tuple (xs ++ ys))) e else .st
  | _, _, _ => .st
def gSub : D → D → En → R Ent
  | .int i, .int j, e => .ok (.sh (.int (i - j))) e
  | _, _, _ => .st
/-- a text many times -/
def mulS (x : Str) (n : Int) : Str := Txt.mul x n
def gMul : D → D → En → R Ent
  | .int i, .int j, e => if (-(2 ^ 64) < i ∧ i < 2 ^ 64) ∨ (-(2 ^ 64) < j ∧ j < 2 ^ 64) then .ok (.sh (.int (i * j))) e else .st
  | .str x, .int n, e => if x.length ≤ 1000 ∧ 0 ≤ n ∧ n ≤ 1000 then .ok (.sh (.str (mulS x n))) e else .st
  | .list xs, .int n, e => if xs.length ≤ 1000 ∧ 0 ≤ n ∧ n ≤ 1000 then .ok (.ow (List.replicate n.toNat xs).flatten) e else .st
  | .tuple xs, .int n, e => if xs ≠ [] ∧ xs.length ≤ 1000 ∧ 2 ≤ n ∧ n ≤ 1000 then .ok (.sh (.tuple (List.replicate n.toNat xs).flatten)) e else .st
  | _, _, _ => .st
def gDiv : D → D → En → R Ent
  | .int i, .int j, e => if 0 < j ∧ j < 1073741824 then .ok (.sh (.int (i / j))) e else .st
  | _, _, _ => .st
def gMod : D → D → En → R Ent
  | .int i, .int j, e => if 0 < j then .ok (.sh (.int (i % j))) e else .st
  | _, _, _ => .st
def gPow : D → D → En → R Ent
  | .int i, .int j, e => if 0 ≤ j ∧ j ≤ 1000000 ∧ i.natAbs < 2 ^ 64 then .ok (.sh (.int (i ^ j.toNat))) e else .st
  | _, _, _ => .st
def gEq (a b : D) (e : En) : R Ent := if SeqAt.shaped a = true ∧ SeqAt.shaped b = true then .ok (.sh (.bool (PyData.eqv a b))) e else .st
def gNe (a b : D) (e : En) : R Ent := if SeqAt.shaped a = true ∧ SeqAt.shaped b = true then .ok (.sh (.bool (!PyData.eqv a b))) e else .st
def gLt : D → D → En → R Ent
  | .int i, .int j, e => .ok (.sh (.bool (decide (i < j)))) e
  | .str x, .str y, e => .ok (.sh (.bool (decide (x.cps.toList < y.cps.toList)))) e
  | _, _, _ => .st
def gLe : D → D → En → R Ent
  | .int i, .int j, e => .ok (.sh (.bool (decide (i ≤ j)))) e
  | _, _, _ => .st
def gGt : D → D → En → R Ent
  | .int i, .int j, e => .ok (.sh (.bool (decide (j < i)))) e
  | _, _, _ => .st
def gGe : D → D → En → R Ent
  | .int i, .int j, e => .ok (.sh (.bool (decide (j ≤ i)))) e
  | _, _, _ => .st
/-- y in x: a text in a text -/
def inS (y x : Str) : Bool := !(Builtin.Str.occurrences x y 0 x.length 1).isEmpty
/-- flat data -/
def flatD : D → Bool
  | .none => true | .bool _ => true | .int _ => true | .str _ => true | _ => false
def gInB (a b : D) : Option Bool := match b with
  | .str y => match a with | .str x => some (inS x y) | _ => none
  | .list ds => if SeqAt.shaped a = true ∧ SeqAt.shaped (.list ds) = true then some (ds.any fun z => PyData.eqv z a) else none
  | .tuple ds => if flatD a = true ∧ ds.all flatD = true then some (ds.any fun z => PyData.eqv z a) else none
  | _ => none
def gIn (a b : D) (e : En) : R Ent := match gInB a b with | some k => .ok (.sh (.bool k)) e | none => .st
def gNotIn (a b : D) (e : En) : R Ent := match gInB a b with | some k => .ok (.sh (.bool (!k))) e | none => .st
def isD : D → D → Option Bool
  | .none, .none => some true
  | _, .none => some false
  | .bool a, .bool b => some (decide (a = b))
  | _, _ => none
def gIs (a b : D) (e : En) : R Ent := match isD a b with | some k => .ok (.sh (.bool k)) e | none => .st
def gIsNot (a b : D) (e : En) : R Ent := match isD a b with | some k => .ok (.sh (.bool (!k))) e | none => .st

section
variable {X : Cx} {κ : Kx}
/-- ints to an int -/
theorem opd_of {F : Value → Value → Sem Value} {g : D → D → En → R Ent} {r : R2} (hr : OpR X F r)
    (h : ∀ (W : WX) (w : Sn) (σ : St) (en : En) (x y : V) (a b : D) (Q : VK), StR κ w σ en → Dq w.G x a → Dq w.G y b → Po κ W w (g a b en) (Qe κ σ Q) → r x y w.H Q) : OpD X κ F g := ⟨r, hr, h⟩
theorem od_add : OpD X κ (binaryOp .Add) gAdd := by
  refine opd_of (op_add.or (op_add_str.or (op_cat.or op_catA))) fun W w σ en x y a b Q s ha hb p => ?_
  cases ha with
  | int i =>
    cases hb with
    | int j => exact .inl ⟨i, j, rfl, rfl, fin_sh s p (.int _)⟩
    | _ => exact False.elim p
  | str i =>
    cases hb with
    | str j =>
      have p' : Po κ W w (if i.length + j.length ≤ lim then R.ok (Ent.sh (.str (i ++ j))) en else .st) (Qe κ σ Q) := p
      by_cases hl : i.length + j.length ≤ lim
      · rw [if_pos hl] at p'
        exact .inr (.inl ⟨i, j, rfl, rfl, lim_ok hl, fin_sh s p' (.str _)⟩)
      · rw [if_neg hl] at p'
        exact p'.elim
    | _ => exact False.elim p
  | lst h1 h2 =>
    rename_i p1 xs ds
    cases hb with
    | lst h3 h4 =>
      rename_i p2 ys es
      have p' : Po κ W w (if ds.length + es.length ≤ lim then R.ok (Ent.ow (ds ++ es)) en else .st) (Qe κ σ Q) := p
      by_cases hl : ds.length + es.length ≤ lim
      · rw [if_pos hl] at p'
        exact .inr (.inr (.inl ⟨p1, p2, xs, ys, rfl, rfl, s.wo.su _ _ h1, s.wo.su _ _ h3, by rw [dpa_len h2, dpa_len h4]; exact lim_ok hl, fun a ha => fin_ow s p' (dpa_app h2 h4) ha⟩))
      · rw [if_neg hl] at p'
        exact p'.elim
    | _ => exact False.elim p
  | tup h1 h2 =>
    rename_i p1 xs ds
    cases hb with
    | tup h3 h4 =>
      rename_i p2 ys es
      have p' : Po κ W w (if ds.length + es.length ≤ lim then R.ok (Ent.sh (.tuple (ds ++ es))) en else .st) (Qe κ σ Q) := p
      by_cases hl : ds.length + es.length ≤ lim
      · rw [if_pos hl] at p'
        refine .inr (.inr (.inr ⟨p1, p2, xs, ys, rfl, rfl, SqT.of (s.wo.su _ _ h1), SqT.of (s.wo.su _ _ h3), by rw [dpa_len h2, dpa_len h4]; exact lim_ok hl, fun e => ?_, fun _ e => ?_, fun _ _ a ha => fin_tup s p' (dpa_app h2 h4) ha⟩))
        · subst e
          have e2 := dpa_len h2
          have e3 : ds = [] := List.eq_nil_of_length_eq_zero e2.symm
          subst e3
          exact fin_sh s p' (.tup h3 h4)
        · subst e
          have e2 := dpa_len h4
          have e3 : es = [] := List.eq_nil_of_length_eq_zero e2.symm
          subst e3
          exact fin_sh s p' (.tup h1 (by rw [List.append_nil]; exact h2))
      · rw [if_neg hl] at p'
        exact p'.elim
    | _ => exact False.elim p
  | non => exact False.elim p
  | bl b => exact False.elim p
theorem od_sub : OpD X κ (binaryOp .Sub) gSub := by
  refine opd_of op_sub fun W w σ en x y a b Q s ha hb p => ?_
  cases ha with
  | int i =>
    cases hb with
    | int j => exact ⟨i, j, rfl, rfl, fin_sh s p (.int _)⟩
    | _ => exact False.elim p
  | _ => exact False.elim p
theorem op_mulStr : OpR X (binaryOp .Mult) (fun x y H Q => ∃ i n, x = .str i ∧ y = .int n ∧ i.length ≤ 1000 ∧ 0 ≤ n ∧ n ≤ 1000 ∧ Q (.str (mulS i n)) H) := by
  intro pins s σ H x y v u Q I rx ry h
  obtain ⟨i, n, rfl, rfl, h1, h2, h3, q⟩ := h
  obtain ⟨t, rfl⟩ := rx
  obtain ⟨t', rfl⟩ := ry
  refine PySem.SB.mul ⟨?_, fun h4 _ => ?_, fun h4 _ => ?_⟩ fun t' k => ⟨.str (mulS i n), H, I.tok _, ⟨_, rfl⟩, q⟩
  · have e1 : decide (n < -(2 ^ 63 : Int)) = false := decide_eq_false (by omega)
    have e2 : decide (n ≥ 2 ^ 63) = false := decide_eq_false (by omega)
    rw [e1, e2]; rfl
  · intro h5
    have : (2 ^ 63 - 1 : Int) / n ≥ (2 ^ 63 - 1) / 1000 := by
      apply Int.le_ediv_of_mul_le (by omega)
      have : (2 ^ 63 - 1 : Int) / 1000 * n ≤ (2 ^ 63 - 1 : Int) / 1000 * 1000 := Int.mul_le_mul_of_nonneg_left h3 (by decide)
      omega
    omega
  · have a1 : i.length * n.toNat ≤ 1000 * 1000 := Nat.mul_le_mul h1 (by omega)
    unfold PySem.Builtin.Str.tooLong
    rw [sizeLine_eq]
    exact decide_eq_false (by omega)
theorem dpa_rep {G : Hp} {vs : List V} {ds : List D} (h : DqAll G vs ds) : ∀ n : Nat, DqAll G (List.replicate n vs).flatten (List.replicate n ds).flatten
  | 0 => .nil
  | n + 1 => by
    rw [List.replicate_succ, List.replicate_succ, List.flatten_cons, List.flatten_cons]
    exact dpa_app h (dpa_rep h n)
theorem od_mul : OpD X κ (binaryOp .Mult) gMul := by
  refine opd_of (op_mul.or (op_mulStr.or (op_rep.or op_repT))) fun W w σ en x y a b Q s ha hb p => ?_
  cases hb with
  | int n =>
    cases ha with
    | int i =>
      have p' : Po κ W w (if (-(2 ^ 64) < i ∧ i < 2 ^ 64) ∨ (-(2 ^ 64) < n ∧ n < 2 ^ 64) then R.ok (Ent.sh (.int (i * n))) en else .st) (Qe κ σ Q) := p
      by_cases hl : (-(2 ^ 64) < i ∧ i < 2 ^ 64) ∨ (-(2 ^ 64) < n ∧ n < 2 ^ 64)
      · rw [if_pos hl] at p'
        exact .inl ⟨i, n, rfl, rfl, hl, fin_sh s p' (.int _)⟩
      · rw [if_neg hl] at p'
        exact p'.elim
    | str i =>
      have p' : Po κ W w (if i.length ≤ 1000 ∧ 0 ≤ n ∧ n ≤ 1000 then R.ok (Ent.sh (.str (mulS i n))) en else .st) (Qe κ σ Q) := p
      by_cases hl : i.length ≤ 1000 ∧ 0 ≤ n ∧ n ≤ 1000
      · rw [if_pos hl] at p'
        exact .inr (.inl ⟨i, n, rfl, rfl, hl.1, hl.2.1, hl.2.2, fin_sh s p' (.str _)⟩)
      · rw [if_neg hl] at p'
        exact p'.elim
    | lst h1 h2 =>
      rename_i p1 xs ds
      have p' : Po κ W w (if ds.length ≤ 1000 ∧ 0 ≤ n ∧ n ≤ 1000 then R.ok (Ent.ow (List.replicate n.toNat ds).flatten) en else .st) (Qe κ σ Q) := p
      by_cases hl : ds.length ≤ 1000 ∧ 0 ≤ n ∧ n ≤ 1000
      · rw [if_pos hl] at p'
        refine .inr (.inr (.inl ⟨p1, n, xs, rfl, rfl, s.wo.su _ _ h1, by omega, by omega, ?_, fun a ha => fin_ow s p' (dpa_rep h2 n.toNat) ha⟩))
        have a1 : xs.length * n.toNat ≤ 1000 * 1000 := Nat.mul_le_mul (by rw [dpa_len h2]; exact hl.1) (by omega)
        rw [sizeLine_eq]; omega
      · rw [if_neg hl] at p'
        exact p'.elim
    | tup h1 h2 =>
      rename_i p1 xs ds
      have p' : Po κ W w (if ds ≠ [] ∧ ds.length ≤ 1000 ∧ 2 ≤ n ∧ n ≤ 1000 then R.ok (Ent.sh (.tuple (List.replicate n.toNat ds).flatten)) en else .st) (Qe κ σ Q) := p
      by_cases hl : ds ≠ [] ∧ ds.length ≤ 1000 ∧ 2 ≤ n ∧ n ≤ 1000
      · rw [if_pos hl] at p'
        refine .inr (.inr (.inr ⟨p1, n, xs, rfl, rfl, SqT.of (s.wo.su _ _ h1), fun e => ?_, hl.2.2.1, hl.2.2.2, by rw [dpa_len h2]; exact hl.2.1, fun a ha => fin_tup s p' (dpa_rep h2 n.toNat) ha⟩))
        subst e
        exact hl.1 (List.eq_nil_of_length_eq_zero (dpa_len h2).symm)
      · rw [if_neg hl] at p'
        exact p'.elim
    | non => exact False.elim p
    | bl b => exact False.elim p
  | _ => cases ha <;> exact False.elim p
theorem od_div : OpD X κ (binaryOp .FloorDiv) gDiv := by
  refine opd_of op_fdiv fun W w σ en x y a b Q s ha hb p => ?_
  cases ha with
  | int i =>
    cases hb with
    | int j =>
      have p' : Po κ W w (if 0 < j ∧ j < 1073741824 then R.ok (Ent.sh (.int (i / j))) en else .st) (Qe κ σ Q) := p
      by_cases hl : 0 < j ∧ j < 1073741824
      · rw [if_pos hl] at p'
        exact ⟨i, j, rfl, rfl, hl, fin_sh s p' (.int _)⟩
      · rw [if_neg hl] at p'
        exact p'.elim
    | _ => exact False.elim p
  | _ => exact False.elim p
theorem od_mod : OpD X κ (binaryOp .Mod) gMod := by
  refine opd_of op_mod fun W w σ en x y a b Q s ha hb p => ?_
  cases ha with
  | int i =>
    cases hb with
    | int j =>
      have p' : Po κ W w (if 0 < j then R.ok (Ent.sh (.int (i % j))) en else .st) (Qe κ σ Q) := p
      by_cases hl : 0 < j
      · rw [if_pos hl] at p'
        exact ⟨i, j, rfl, rfl, hl, fin_sh s p' (.int _)⟩
      · rw [if_neg hl] at p'
        exact p'.elim
    | _ => exact False.elim p
  | _ => exact False.elim p
theorem od_pow : OpD X κ (binaryOp .Pow) gPow := by
  refine opd_of op_pow fun W w σ en x y a b Q s ha hb p => ?_
  cases ha with
  | int i =>
    cases hb with
    | int j =>
      have p' : Po κ W w (if 0 ≤ j ∧ j ≤ 1000000 ∧ i.natAbs < 2 ^ 64 then R.ok (Ent.sh (.int (i ^ j.toNat))) en else .st) (Qe κ σ Q) := p
      by_cases hl : 0 ≤ j ∧ j ≤ 1000000 ∧ i.natAbs < 2 ^ 64
      · rw [if_pos hl] at p'
        exact ⟨i, j, rfl, rfl, hl, fin_sh s p' (.int _)⟩
      · rw [if_neg hl] at p'
        exact p'.elim
    | _ => exact False.elim p
  | _ => exact False.elim p
theorem od_eq (hu : X.A.units + 64 < cLine) : OpD X κ (compareOp .Eq) gEq := by
  refine opd_of (op_eqD hu) fun W w σ en x y a b Q s ha hb p => ?_
  unfold gEq at p
  by_cases hl : SeqAt.shaped a = true ∧ SeqAt.shaped b = true
  · rw [if_pos hl] at p
    exact ⟨a, b, dp_mono' s ha, dp_mono' s hb, hl.1, hl.2, fin_sh s p (.bl _)⟩
  · rw [if_neg hl] at p
    exact p.elim
where dp_mono' {X : Cx} {κ : Kx} {w : Sn} {σ : St} {en : En} {v : V} {d : D} (s : StR κ w σ en) (h : Dq w.G v d) : Dp X.K w.H v d := dq_dp _ _ (dp_mono s.wo.su _ _ h)
theorem dqH {w : Sn} {σ : St} {en : En} {v : V} {d : D} (s : StR κ w σ en) (h : Dq w.G v d) : Dp X.K w.H v d := dq_dp _ _ (dp_mono s.wo.su _ _ h)
theorem od_ne (hu : X.A.units + 64 < cLine) : OpD X κ (compareOp .NotEq) gNe := by
  refine opd_of (op_neD hu) fun W w σ en x y a b Q s ha hb p => ?_
  unfold gNe at p
  by_cases hl : SeqAt.shaped a = true ∧ SeqAt.shaped b = true
  · rw [if_pos hl] at p
    exact ⟨a, b, dqH s ha, dqH s hb, hl.1, hl.2, fin_sh s p (.bl _)⟩
  · rw [if_neg hl] at p
    exact p.elim
theorem od_lt : OpD X κ (compareOp .Lt) gLt := by
  refine opd_of (op_lt.or op_lt_str) fun W w σ en x y a b Q s ha hb p => ?_
  cases ha with
  | int i =>
    cases hb with
    | int j => exact .inl ⟨i, j, rfl, rfl, fin_sh s p (.bl _)⟩
    | _ => exact False.elim p
  | str i =>
    cases hb with
    | str j => exact .inr ⟨i, j, rfl, rfl, fin_sh s p (.bl _)⟩
    | _ => exact False.elim p
  | _ => exact False.elim p
theorem od_le : OpD X κ (compareOp .LtE) gLe := by
  refine opd_of op_le fun W w σ en x y a b Q s ha hb p => ?_
  cases ha with
  | int i =>
    cases hb with
    | int j => exact ⟨i, j, rfl, rfl, fin_sh s p (.bl _)⟩
    | _ => exact False.elim p
  | _ => exact False.elim p
theorem od_gt : OpD X κ (compareOp .Gt) gGt := by
  refine opd_of op_gt fun W w σ en x y a b Q s ha hb p => ?_
  cases ha with
  | int i =>
    cases hb with
    | int j => exact ⟨i, j, rfl, rfl, fin_sh s p (.bl _)⟩
    | _ => exact False.elim p
  | _ => exact False.elim p
theorem od_ge : OpD X κ (compareOp .GtE) gGe := by
  refine opd_of op_ge fun W w σ en x y a b Q s ha hb p => ?_
  cases ha with
  | int i =>
    cases hb with
    | int j => exact ⟨i, j, rfl, rfl, fin_sh s p (.bl _)⟩
    | _ => exact False.elim p
  | _ => exact False.elim p
theorem flat_dv {G : Hp} {v : V} {d : D} (h : Dq G v d) (f : flatD d = true) : flatV v = true := by
  cases h <;> first | rfl | cases f
theorem eqv_flat {G : Hp} {v u : V} {d e : D} (h : Dq G v d) (k : Dq G u e) (f : flatD d = true) (f' : flatD e = true) : eqV v u = PyData.eqv d e := by
  cases h <;> cases k <;> first | (simp only [eqV, PyData.eqv]; done) | (exact absurd f (by unfold flatD; exact Bool.false_ne_true)) | (exact absurd f' (by unfold flatD; exact Bool.false_ne_true)) | (simp [eqV, PyData.eqv]; done)
theorem any_flat {G : Hp} {v : V} {d : D} (h : Dq G v d) (f : flatD d = true) : ∀ {vs : List V} {ds : List D}, DqAll G vs ds → ds.all flatD = true → vs.all flatV = true ∧ inV v vs = ds.any fun z => PyData.eqv z d
  | _, _, .nil, _ => ⟨rfl, rfl⟩
  | _, _, .cons q t, g => by
    rw [List.all_cons, Bool.and_eq_true] at g
    obtain ⟨i1, i2⟩ := any_flat h f t g.2
    refine ⟨by rw [List.all_cons, flat_dv q g.1, i1]; rfl, ?_⟩
    have e1 := eqv_flat q h g.1 f
    have i2' := i2
    unfold inV at i2' ⊢
    rw [List.any_cons, List.any_cons, e1, i2']
theorem od_in (hu : X.A.units + 65 < cLine) : OpD X κ (compareOp .In) gIn := by
  refine opd_of (op_in_str.or ((op_inD hu).or op_in_seq)) fun W w σ en x y a b Q s ha hb p => ?_
  unfold gIn gInB at p
  cases hb with
  | str j =>
    cases ha with
    | str i => exact .inl ⟨i, j, rfl, rfl, fin_sh s p (.bl _)⟩
    | _ => exact False.elim p
  | lst h1 h2 =>
    rename_i p1 xs ds
    dsimp only at p
    by_cases hl : SeqAt.shaped a = true ∧ SeqAt.shaped (.list ds) = true
    · rw [if_pos hl] at p
      exact .inr (.inl ⟨a, ds, dqH s ha, dqH s (.lst h1 h2), hl.1, hl.2, fin_sh s p (.bl _)⟩)
    · rw [if_neg hl] at p
      exact p.elim
  | tup h1 h2 =>
    rename_i p1 xs ds
    dsimp only at p
    by_cases hl : flatD a = true ∧ ds.all flatD = true
    · rw [if_pos hl] at p
      obtain ⟨i1, i2⟩ := any_flat ha hl.1 h2 hl.2
      refine .inr (.inr ⟨p1, xs, rfl, .inr (SqT.of (s.wo.su _ _ h1)), flat_dv ha hl.1, i1, ?_⟩)
      show Q (.bl (inV x xs)) w.H
      rw [i2]
      exact fin_sh s p (.bl _)
    · rw [if_neg hl] at p
      exact p.elim
  | _ => exact False.elim p
theorem od_notIn (hu : X.A.units + 65 < cLine) : OpD X κ (compareOp .NotIn) gNotIn := by
  refine opd_of (op_notin_str.or ((op_notInD hu).or op_notIn_seq)) fun W w σ en x y a b Q s ha hb p => ?_
  unfold gNotIn gInB at p
  cases hb with
  | str j =>
    cases ha with
    | str i => exact .inl ⟨i, j, rfl, rfl, fin_sh s p (.bl _)⟩
    | _ => exact False.elim p
  | lst h1 h2 =>
    rename_i p1 xs ds
    dsimp only at p
    by_cases hl : SeqAt.shaped a = true ∧ SeqAt.shaped (.list ds) = true
    · rw [if_pos hl] at p
      exact .inr (.inl ⟨a, ds, dqH s ha, dqH s (.lst h1 h2), hl.1, hl.2, fin_sh s p (.bl _)⟩)
    · rw [if_neg hl] at p
      exact p.elim
  | tup h1 h2 =>
    rename_i p1 xs ds
    dsimp only at p
    by_cases hl : flatD a = true ∧ ds.all flatD = true
    · rw [if_pos hl] at p
      obtain ⟨i1, i2⟩ := any_flat ha hl.1 h2 hl.2
      refine .inr (.inr ⟨p1, xs, rfl, .inr (SqT.of (s.wo.su _ _ h1)), flat_dv ha hl.1, i1, ?_⟩)
      show Q (.bl (!inV x xs)) w.H
      rw [i2]
      exact fin_sh s p (.bl _)
    · rw [if_neg hl] at p
      exact p.elim
  | _ => exact False.elim p
theorem dec_non {G : Hp} {v : V} {d : D} (h : Dq G v d) : isD d .none = some (decide (v = .non)) := by
  cases h <;> simp [isD]
theorem od_is : OpD X κ (compareOp .Is) gIs := by
  refine opd_of (op_isN.or op_isBl) fun W w σ en x y a b Q s ha hb p => ?_
  unfold gIs at p
  cases hb with
  | non =>
    rw [dec_non ha] at p
    exact .inl ⟨rfl, fin_sh s p (.bl _)⟩
  | bl b =>
    cases ha with
    | bl c => exact .inr ⟨c, b, rfl, rfl, fin_sh s p (.bl _)⟩
    | _ => exact False.elim p
  | _ => cases ha <;> exact False.elim p
theorem od_isNot : OpD X κ (compareOp .IsNot) gIsNot := by
  refine opd_of (op_notN.or op_notBl) fun W w σ en x y a b Q s ha hb p => ?_
  unfold gIsNot at p
  cases hb with
  | non =>
    rw [dec_non ha] at p
    exact .inl ⟨rfl, fin_sh s p (.bl _)⟩
  | bl b =>
    cases ha with
    | bl c => exact .inr ⟨c, b, rfl, rfl, fin_sh s p (.bl _)⟩
    | _ => exact False.elim p
  | _ => cases ha <;> exact False.elim p
end
end CO

/-! CoD: subscripts, slices, calls of built-ins and of built-in methods over the data layer. -/
namespace CO
open PySem PySem.Spec PyProof.Rows L2

/-! ### subscripts -/
/-- item k of what an entry holds -/
def itemE (r : Ent) (k : Int) (e : En) : R Ent := match r with
  | .sh (.list ds) => match atI ds k with | some d => .ok (.sh d) e | none => .st
  | .sh (.tuple ds) => match atI ds k with | some d => .ok (.sh d) e | none => .st
  | .sh (.str x) => if x.length ≤ lim then match atI x.cps.toList k with | some c => .ok (.sh (.str ⟨#[c]⟩)) e | none => .st else .st
  | .ow ds => match atI ds k with | some d => .ok (.sh d) e | none => .st
  | _ => .st
/-- e[i], e any -/
def eIx (m mi : En → R Ent) (en : En) : R Ent := (dv m en).bind fun a e1 => (dv mi e1).bind fun k e2 => match k with | .int k => itemE (.sh a) k e2 | _ => .st
/-- x[i], x a name -/
def eIxN (i : Nat) (mi : En → R Ent) (en : En) : R Ent := match en.get i with
  | .no => .st
  | _ => (dv mi en).bind fun k e2 => match k with | .int k => itemE (e2.get i) k e2 | _ => .st
section
variable {X : Cx} {κ : Kx} {W : WX} {w : Sn} {σ : St} {en : En}
theorem atI_at {ds : List D} {xs : List V} {k : Int} {d : D} (h : DqAll w.G xs ds) (e : atI ds k = some d) : ∃ v, atI xs k = some v ∧ Dq w.G v d := by
  unfold atI at e ⊢
  rw [dpa_len h]
  cases q : ixN ds.length k with
  | none => rw [q] at e; cases e
  | some j =>
    rw [q] at e
    exact dpa_get h e
theorem item_ok {ix : Ix} {r : Ent} {v : V} {k : Int} {Q : VK} (s : StR κ w σ en) (er : EntR κ w ix v r) (p : Po κ W w (itemE r k en) (Qe κ σ Q)) : rIx X.K v (.int k) w.H Q := by
  unfold itemE at p
  cases r with
  | sh a =>
    cases a with
    | list ds =>
      obtain ⟨q, xs, rfl, h1, h2⟩ := dp_list er
      dsimp only at p
      cases e : atI ds k with
      | none => rw [e] at p; exact False.elim p
      | some d =>
        rw [e] at p
        obtain ⟨u, e1, e2⟩ := atI_at h2 e
        exact .inl ⟨q, xs, k, u, rfl, rfl, SqL.of (s.wo.su _ _ h1), e1, fin_sh s p e2⟩
    | tuple ds =>
      obtain ⟨q, xs, rfl, h1, h2⟩ := dp_tuple er
      dsimp only at p
      cases e : atI ds k with
      | none => rw [e] at p; exact False.elim p
      | some d =>
        rw [e] at p
        obtain ⟨u, e1, e2⟩ := atI_at h2 e
        exact .inr (.inl ⟨q, xs, k, u, rfl, rfl, SqT.of (s.wo.su _ _ h1), e1, fin_sh s p e2⟩)
    | str x =>
      have := dp_str er
      subst this
      dsimp only at p
      by_cases hl : x.length ≤ lim
      · rw [if_pos hl] at p
        cases e : atI x.cps.toList k with
        | none => rw [e] at p; exact False.elim p
        | some c =>
          rw [e] at p
          exact .inr (.inr ⟨x, k, c, rfl, rfl, lim_ok hl, e, fin_sh s p (.str _)⟩)
      · rw [if_neg hl] at p
        exact False.elim p
    | _ => exact False.elim p
  | ow ds =>
    obtain ⟨q, xs, rfl, hO, hH, h2⟩ := er
    dsimp only at p
    cases e : atI ds k with
    | none => rw [e] at p; exact False.elim p
    | some d =>
      rw [e] at p
      obtain ⟨u, e1, e2⟩ := atI_at h2 e
      exact .inl ⟨q, xs, k, u, rfl, rfl, SqL.of hH, e1, fin_sh s p e2⟩
  | _ => exact False.elim p
theorem de_ix {a b : Expr} {m mi : En → R Ent} {pos : Pos} (ha : PE X a (tOf κ W m)) (hb : PE X b (tOf κ W mi)) (hs : PlainIx b := by exact fun _ _ => rfl) : PE X (.Subscript a b pos) (tOf κ W (eIx m mi)) :=
  pe_imp (pe_ix ix_seq ha hb hs) fun σ H Q ⟨w, en, hw, s, p⟩ => by
    subst hw
    refine goD s p fun a e1 v1 w1 n1 s1 d1 p1 => ?_
    refine goD s1 p1 fun k e2 v2 w2 n2 s2 d2 p2 => ?_
    cases k with
    | int k =>
      rw [dp_int d2]
      exact item_ok (ix := .r) (r := .sh a) s2 (dp_mono n2.g _ _ d1) p2
    | _ => exact False.elim p2
theorem de_ixN (i : Nat) {x : Str} {b : Expr} {mi : En → R Ent} {px pos : Pos} (hb : PE X b (tOf κ W mi)) (hs : PlainIx b := by exact fun _ _ => rfl) (hN : X.N[i]? = some x := by rfl)
    (hv : Vis X.env.scope x := by first | exact Or.inl rfl | exact Or.inr (Or.inl rfl) | exact Or.inr (Or.inr rfl)) (hd : (x == ("__debug__" : Str)) = false := by decide) (hcd : (x == ("__classdict__" : Str)) = false := by decide) :
    PE X (.Subscript (.Name x px) b pos) (tOf κ W (eIxN i mi)) :=
  pe_imp (pe_ix ix_seq (pv i hN hv hd hcd) hb hs) fun σ H Q ⟨w, en, hw, s, p⟩ => by
    subst hw
    unfold eIxN at p
    by_cases hg : en.get i = .no
    · rw [hg] at p
      exact False.elim p
    · obtain ⟨v, ev, _⟩ := s.at hg
      have p' : Po κ W w ((dv mi en).bind fun k e2 => match k with | .int k => itemE (e2.get i) k e2 | _ => .st) (Qe κ σ Q) := by
        cases hq : en.get i with
        | no => exact absurd hq hg
        | sh d => rw [hq] at p; exact p
        | ow ds => rw [hq] at p; exact p
        | dk kvs => rw [hq] at p; exact p
        | wr j => rw [hq] at p; exact p
        | sc => rw [hq] at p; exact p
      refine ⟨v, ev, ?_⟩
      refine goD s p' fun k e2 v2 w2 n2 s2 d2 p2 => ?_
      cases k with
      | int k =>
        rw [dp_int d2]
        dsimp only at p2
        by_cases hg2 : e2.get i = .no
        · rw [hg2] at p2
          exact False.elim p2
        · obtain ⟨v', ev', er⟩ := s2.at hg2
          rw [ev] at ev'
          cases ev'
          exact item_ok s2 er p2
      | _ => exact False.elim p2

/-! ### slices -/
def tPOf (κ : Kx) (W : WX) (m : En → R (Option Int)) : TO := fun σ H Q => ∃ w en, w.H = H ∧ StR κ w σ en ∧ Po κ W w (m en) fun o en' w' => StR κ w' σ en' → Q o w'.H
def pNo (en : En) : R (Option Int) := .ok none en
def pSo (m : En → R Ent) (en : En) : R (Option Int) := (dv m en).bind fun k e => match k with | .int k => .ok (some k) e | _ => .st
theorem po_imp {e : Option Expr} {t t' : TO} (h : PO X e t) (f : ∀ σ H Q, t' σ H Q → t σ H Q) : PO X e t' := ⟨fun pins s σ H Q I hq => h.run pins s σ H Q I (f σ H Q hq)⟩
theorem dp_no : PO X none (tPOf κ W pNo) := po_imp po_none fun σ H Q ⟨w, en, hw, s, p⟩ => by
  subst hw
  exact p w (Nx.refl _) s
theorem dp_so {e : Expr} {m : En → R Ent} (h : PE X e (tOf κ W m)) : PO X (some e) (tPOf κ W (pSo m)) := po_imp (po_some h) fun σ H Q ⟨w, en, hw, s, p⟩ => by
  subst hw
  refine goD s p fun k e2 v2 w2 n2 s2 d2 p2 => ?_
  cases k with
  | int k => exact ⟨k, dp_int d2, p2 w2 (Nx.refl _) s2⟩
  | _ => exact False.elim p2
theorem goP {α : Type} {m : En → R (Option Int)} {k : Option Int → En → R α} {Q : α → En → Sn → Prop} {Q1 : Option Int → Hp → Prop} (s : StR κ w σ en) (h : Po κ W w ((m en).bind k) Q)
    (hk : ∀ o en1 w1, Nx w w1 → StR κ w1 σ en1 → Po κ W w1 (k o en1) Q → Q1 o w1.H) : tPOf κ W m σ w.H Q1 :=
  ⟨w, en, rfl, s, (Po.bind_of h).imp fun r en1 w1 n1 h1 s1 => hk r en1 w1 n1 s1 h1⟩
/-- xs[lo:hi] -/
def cutL {α : Type} (xs : List α) (lo hi : Option Int) : List α := (xs.drop (HT.sIx xs.length 0 lo)).take (HT.sIx xs.length xs.length hi - HT.sIx xs.length 0 lo)
theorem dpa_cut {G : Hp} {vs : List V} {ds : List D} (h : DqAll G vs ds) (lo hi : Option Int) : DqAll G (cutV vs lo hi) (cutL ds lo hi) := by
  unfold cutV cutL
  rw [dpa_len h]
  exact dpa_take _ (dpa_drop _ h)
def cutD (a : D) (lo hi : Option Int) (e : En) : R Ent := match a with
  | .list ds => .ok (.ow (cutL ds lo hi)) e
  | .tuple ds => .ok (.sh (.tuple (cutL ds lo hi))) e
  | .str x => if x.length ≤ lim then .ok (.sh (.str (cutS x lo hi))) e else .st
  | _ => .st
def eSl (m : En → R Ent) (l h : En → R (Option Int)) (en : En) : R Ent := (dv m en).bind fun a e1 => (l e1).bind fun lo e2 => (h e2).bind fun hi e3 => cutD a lo hi e3
theorem de_slice {e : Expr} {m : En → R Ent} {lo hi : Option Expr} {l h : En → R (Option Int)} {p2 pos : Pos} (he : PE X e (tOf κ W m)) (hl : PO X lo (tPOf κ W l)) (hh : PO X hi (tPOf κ W h)) : PE X (.Subscript e (.Slice lo hi none p2) pos) (tOf κ W (eSl m l h)) :=
  pe_imp (pe_slice (sl_list.or (sl_tupA.or sl_str)) he hl hh) fun σ H Q ⟨w, en, hw, s, p⟩ => by
    subst hw
    refine goD s p fun a e1 v1 w1 n1 s1 d1 p1 => ?_
    refine goP s1 p1 fun lo e2 w2 n2 s2 p2 => ?_
    refine goP s2 p2 fun hi e3 w3 n3 s3 p3 => ?_
    have d3 := dp_mono (n2.trans n3).g _ _ d1
    unfold cutD at p3
    cases a with
    | list ds =>
      obtain ⟨q, xs, rfl, h1, h2⟩ := dp_list d3
      exact .inl ⟨q, xs, rfl, SqL.of (s3.wo.su _ _ h1), fun b hb => fin_ow s3 p3 (dpa_cut h2 lo hi) hb⟩
    | tuple ds =>
      obtain ⟨q, xs, rfl, h1, h2⟩ := dp_tuple d3
      refine .inr (.inl ⟨q, xs, rfl, SqT.of (s3.wo.su _ _ h1), fun hw => ?_, fun _ b hb => fin_tup s3 p3 (dpa_cut h2 lo hi) hb⟩)
      have e4 : cutL ds lo hi = ds := by
        unfold cutL
        rw [← dpa_len h2, hw.1, hw.2, List.drop_zero, dpa_len h2]
        exact List.take_of_length_le (by omega)
      dsimp only at p3
      rw [e4] at p3
      exact fin_sh s3 p3 d3
    | str x =>
      have := dp_str d3
      subst this
      dsimp only at p3
      by_cases hl : x.length ≤ lim
      · rw [if_pos hl] at p3
        exact .inr (.inr ⟨x, rfl, lim_ok hl, fin_sh s3 p3 (.str _)⟩)
      · rw [if_neg hl] at p3
        exact False.elim p3
    | _ => exact False.elim p3
/-- xs[::-1] of a list -/
def eRev (m : En → R Ent) (en : En) : R Ent := (dv m en).bind fun a e => match a with | .list ds => .ok (.ow ds.reverse) e | _ => .st
theorem dpa_rev {G : Hp} : ∀ {vs : List V} {ds : List D}, DqAll G vs ds → DqAll G vs.reverse ds.reverse
  | _, _, .nil => .nil
  | _, _, .cons q t => by
    rw [List.reverse_cons, List.reverse_cons]
    exact dpa_app (dpa_rev t) (dpa_one q)
theorem de_rev {e : Expr} {m : En → R Ent} {k : Nat} {p1 p2 p3 pos : Pos} (he : PE X e (tOf κ W m)) : PE X (.Subscript e (.Slice none none (some (.UnaryOp .USub (.Constant (.int 1) k p1) p2)) p3) pos) (tOf κ W (eRev m)) :=
  pe_imp (pe_revL he) fun σ H Q ⟨w, en, hw, s, p⟩ => by
    subst hw
    refine goD s p fun a e1 v1 w1 n1 s1 d1 p1 => ?_
    cases a with
    | list ds =>
      obtain ⟨q, xs, rfl, h1, h2⟩ := dp_list d1
      exact ⟨q, xs, rfl, SqL.of (s1.wo.su _ _ h1), fun b hb => fin_ow s1 p1 (dpa_rev h2) hb⟩
    | _ => exact False.elim p1

/-! ### built-in functions and types -/
def CallD (X : Cx) (κ : Kx) (f : Value) (g : List D → En → R Ent) : Prop :=
  ∃ r, CallR X f r ∧ ∀ (W : WX) (w : Sn) (σ : St) (en : En) (vs : List V) (ds : List D) (Q : VK), StR κ w σ en → DqAll w.G vs ds → Po κ W w (g ds en) (Qe κ σ Q) → r vs w.H Q
def eCall (g : List D → En → R Ent) (ms : En → R (List Ent)) (en : En) : R Ent := (dvs ms en).bind g
theorem tCB_of {g : List D → En → R Ent} {r : List V → Hp → VK → Prop} {ms : En → R (List Ent)} {H : Hp} {Q : VK}
    (h : ∀ (W : WX) (w : Sn) (σ : St) (en : En) (vs : List V) (ds : List D) (Q : VK), StR κ w σ en → DqAll w.G vs ds → Po κ W w (g ds en) (Qe κ σ Q) → r vs w.H Q)
    (q : tOf κ W (eCall g ms) σ H Q) : tCB r (tAOf κ W ms) σ H Q := by
  obtain ⟨w, en, hw, s, p⟩ := q
  subst hw
  exact goDs s p fun ds e1 vs w1 n1 s1 d1 p1 => h W w1 σ e1 vs ds Q s1 d1 p1
theorem de_callB {x : Str} {id : String} {e : Expr} {es : List Expr} {g : List D → En → R Ent} {ms : En → R (List Ent)} {p pos : Pos} (hc : CallD X κ (.builtin id) g) (hm : X.mg x = none) (ha : PA X (e :: es) (tAOf κ W ms)) (hg : Gl X x := by rfl)
    (hv : bootBuiltins x = some (.builtin id) := by decide +kernel) (hn : x ≠ "__name__" := by decide) (hdb : (x == ("__debug__" : Str)) = false := by decide)
    (he : starEach (e :: es) X.env = (false, eval e X.env) :: starEach es X.env := by rfl) (hpl : (backTo pos (starEach es X.env)).any (·.1) = false := by rfl) : PE X (.Call (.Name x p) (e :: es) [] pos) (tOf κ W (eCall g ms)) := by
  obtain ⟨r, hr, h⟩ := hc
  exact pe_imp (pe_callB hr hg hm hv ha hn hdb he hpl) fun σ H Q q => tCB_of h q
theorem de_callTy {x : Str} {T : String} {e : Expr} {es : List Expr} {g : List D → En → R Ent} {ms : En → R (List Ent)} {p pos : Pos} (hc : CallD X κ (.type T) g) (hm : X.mg x = none) (ha : PA X (e :: es) (tAOf κ W ms)) (hg : Gl X x := by rfl)
    (hv : bootBuiltins x = some (.type T) := by decide +kernel) (hn : x ≠ "__name__" := by decide) (hdb : (x == ("__debug__" : Str)) = false := by decide)
    (he : starEach (e :: es) X.env = (false, eval e X.env) :: starEach es X.env := by rfl) (hpl : (backTo pos (starEach es X.env)).any (·.1) = false := by rfl) : PE X (.Call (.Name x p) (e :: es) [] pos) (tOf κ W (eCall g ms)) := by
  obtain ⟨r, hr, h⟩ := hc
  exact pe_imp (pe_callTy hr hg hm hv ha hn hdb he hpl) fun σ H Q q => tCB_of h q
/-- len -/
def lenD : D → Option Nat
  | .str x => if x.length ≤ lim then some x.length else none
  | .list ds => some ds.length
  | .tuple ds => some ds.length
  | _ => none
def gLen : List D → En → R Ent
  | [a], e => match lenD a with | some n => .ok (.sh (.int n)) e | none => .st
  | _, _ => .st
theorem lenV_of {v : V} {a : D} {n : Nat} (s : StR κ w σ en) (h : Dq w.G v a) (e : lenD a = some n) : LenV X.K v w.H n := by
  cases h with
  | str x =>
    have e' : (if x.length ≤ lim then some x.length else none) = some n := e
    by_cases hl : x.length ≤ lim
    · rw [if_pos hl] at e'
      exact ⟨lim_ok hl, (Option.some.inj e').symm⟩
    · rw [if_neg hl] at e'
      cases e'
  | lst h1 h2 => exact .inl ⟨_, SqL.of (s.wo.su _ _ h1), by rw [dpa_len h2]; exact (Option.some.inj e).symm⟩
  | tup h1 h2 => exact .inr ⟨_, SqT.of (s.wo.su _ _ h1), by rw [dpa_len h2]; exact (Option.some.inj e).symm⟩
  | _ => cases e
theorem cd_len : CallD X κ (.builtin "len") gLen := by
  refine ⟨_, call_len, fun W w σ en vs ds Q s h p => ?_⟩
  cases h with
  | nil => exact False.elim p
  | cons h t =>
    rename_i v vs d ds
    cases t with
    | cons _ _ => exact False.elim p
    | nil =>
      have p' : Po κ W w (match lenD d with | some n => R.ok (Ent.sh (.int n)) en | none => .st) (Qe κ σ Q) := p
      cases e : lenD d with
      | none => rw [e] at p'; exact False.elim p'
      | some n =>
        rw [e] at p'
        exact ⟨_, n, rfl, lenV_of s h e, fin_sh s p' (.int _)⟩
/-- len(x), x a name -/
def eLenN (i : Nat) (en : En) : R Ent := match en.get i with
  | .sh a => match lenD a with | some n => .ok (.sh (.int n)) en | none => .st
  | .ow ds => .ok (.sh (.int ds.length)) en
  | .wr j => match en.wd[j]? with | some (.tn k) => .ok (.sh (.int k)) en | _ => .st
  | _ => .st
theorem de_lenN (i : Nat) {x : Str} {p px pos : Pos} (hm : X.mg "len" = none) (hg : Gl X "len" := by rfl) (hN : X.N[i]? = some x := by rfl)
    (hv : Vis X.env.scope x := by first | exact Or.inl rfl | exact Or.inr (Or.inl rfl) | exact Or.inr (Or.inr rfl)) (hd : (x == ("__debug__" : Str)) = false := by decide) (hcd : (x == ("__classdict__" : Str)) = false := by decide)
    (he : starEach [.Name x px] X.env = (false, eval (.Name x px) X.env) :: starEach [] X.env := by rfl) (hpl : (backTo pos (starEach [] X.env)).any (·.1) = false := by rfl) :
    PE X (.Call (.Name "len" p) [.Name x px] [] pos) (tOf κ W (eLenN i)) :=
  pe_imp (pe_callB call_len hg hm PySem.boot_len (pa_cons (pv i hN hv hd hcd) pa_nil he) (by decide) (by decide) he hpl) fun σ H Q ⟨w, en, hw, s, p⟩ => by
    subst hw
    unfold eLenN at p
    cases hq : en.get i with
    | sh a =>
      rw [hq] at p
      obtain ⟨v, ev, er⟩ := s.at (i := i) (by rw [hq]; intro z; cases z)
      rw [hq] at er
      dsimp only at p
      cases e : lenD a with
      | none => rw [e] at p; exact False.elim p
      | some n =>
        rw [e] at p
        exact ⟨v, ev, v, n, rfl, lenV_of s er e, fin_sh s p (.int _)⟩
    | ow ds =>
      rw [hq] at p
      obtain ⟨v, ev, er⟩ := s.at (i := i) (by rw [hq]; intro z; cases z)
      rw [hq] at er
      obtain ⟨q, xs, rfl, hO, hH, h2⟩ := er
      exact ⟨_, ev, _, ds.length, rfl, .inl ⟨xs, SqL.of hH, (dpa_len h2).symm⟩, fin_sh s p (.int _)⟩
    | wr j =>
      rw [hq] at p
      obtain ⟨v, ev, er⟩ := s.at (i := i) (by rw [hq]; intro z; cases z)
      rw [hq] at er
      obtain ⟨q, rfl, ea⟩ := er
      dsimp only at p
      cases eo : en.wd[j]? with
      | none => rw [eo] at p; exact False.elim p
      | some ob =>
        rw [eo] at p
        cases ob with
        | tn k =>
          obtain ⟨_, hH⟩ := s.wo.wd j _ q eo ea
          exact ⟨_, ev, _, k, rfl, .inl ⟨_, SqL.of hH, by rw [List.length_replicate]⟩, fin_sh s p (.int _)⟩
        | tb g rows kept => exact False.elim p
    | no => rw [hq] at p; exact False.elim p
    | dk kvs => rw [hq] at p; exact False.elim p
    | sc => rw [hq] at p; exact False.elim p
/-- list(x), tuple(x) -/
def gList : List D → En → R Ent
  | [.list ds], e => .ok (.ow ds) e
  | [.tuple ds], e => .ok (.ow ds) e
  | _, _ => .st
theorem cd_list : CallD X κ (.type "list") gList := by
  refine ⟨_, call_list_of, fun W w σ en vs ds Q s h p => ?_⟩
  cases h with
  | nil => exact False.elim p
  | cons h t =>
    cases t with
    | cons _ _ => cases h <;> exact False.elim p
    | nil =>
      cases h with
      | lst h1 h2 => exact ⟨_, _, rfl, .inl (SqL.of (s.wo.su _ _ h1)), fun b hb => fin_ow s p h2 hb⟩
      | tup h1 h2 => exact ⟨_, _, rfl, .inr (SqT.of (s.wo.su _ _ h1)), fun b hb => fin_ow s p h2 hb⟩
      | _ => exact False.elim p
def gTuple : List D → En → R Ent
  | [.list ds], e => .ok (.sh (.tuple ds)) e
  | [.tuple ds], e => .ok (.sh (.tuple ds)) e
  | _, _ => .st
theorem cd_tuple : CallD X κ (.type "tuple") gTuple := by
  refine ⟨_, call_tuple_of, fun W w σ en vs ds Q s h p => ?_⟩
  cases h with
  | nil => exact False.elim p
  | cons h t =>
    cases t with
    | cons _ _ => cases h <;> exact False.elim p
    | nil =>
      cases h with
      | lst h1 h2 => exact ⟨_, _, rfl, .inl ⟨SqL.of (s.wo.su _ _ h1), fun b hb => fin_tup s p h2 hb⟩⟩
      | tup h1 h2 => exact ⟨_, _, rfl, .inr ⟨SqT.of (s.wo.su _ _ h1), fin_sh s p (.tup h1 h2)⟩⟩
      | _ => exact False.elim p
/-- ints, truth values of a list -/
def asInts : List D → Option (List Int)
  | [] => some []
  | .int i :: r => (asInts r).map (i :: ·)
  | _ :: _ => none
def asBools : List D → Option (List Bool)
  | [] => some []
  | .bool i :: r => (asBools r).map (i :: ·)
  | _ :: _ => none
def asStrs : List D → Option (List Str)
  | [] => some []
  | .str i :: r => (asStrs r).map (i :: ·)
  | _ :: _ => none
theorem asInts_eq : ∀ {ds : List D} {ns : List Int}, asInts ds = some ns → ds = ns.map .int
  | [], _, h => by cases h; rfl
  | .int i :: r, ns, h => by
    have h' : (asInts r).map (i :: ·) = some ns := h
    cases e : asInts r with
    | none => rw [e] at h'; cases h'
    | some es =>
      rw [e] at h'
      cases h'
      rw [asInts_eq e]; rfl
  | .none :: _, _, h => by cases h
  | .bool _ :: _, _, h => by cases h
  | .str _ :: _, _, h => by cases h
  | .list _ :: _, _, h => by cases h
  | .tuple _ :: _, _, h => by cases h
  | .dict _ :: _, _, h => by cases h
theorem asBools_eq : ∀ {ds : List D} {ns : List Bool}, asBools ds = some ns → ds = ns.map .bool
  | [], _, h => by cases h; rfl
  | .bool i :: r, ns, h => by
    have h' : (asBools r).map (i :: ·) = some ns := h
    cases e : asBools r with
    | none => rw [e] at h'; cases h'
    | some es =>
      rw [e] at h'
      cases h'
      rw [asBools_eq e]; rfl
  | .none :: _, _, h => by cases h
  | .int _ :: _, _, h => by cases h
  | .str _ :: _, _, h => by cases h
  | .list _ :: _, _, h => by cases h
  | .tuple _ :: _, _, h => by cases h
  | .dict _ :: _, _, h => by cases h
theorem asStrs_eq : ∀ {ds : List D} {ns : List Str}, asStrs ds = some ns → ds = ns.map .str
  | [], _, h => by cases h; rfl
  | .str i :: r, ns, h => by
    have h' : (asStrs r).map (i :: ·) = some ns := h
    cases e : asStrs r with
    | none => rw [e] at h'; cases h'
    | some es =>
      rw [e] at h'
      cases h'
      rw [asStrs_eq e]; rfl
  | .none :: _, _, h => by cases h
  | .int _ :: _, _, h => by cases h
  | .bool _ :: _, _, h => by cases h
  | .list _ :: _, _, h => by cases h
  | .tuple _ :: _, _, h => by cases h
  | .dict _ :: _, _, h => by cases h
@[simp] theorem asInts_map : ∀ ns : List Int, asInts (ns.map .int) = some ns
  | [] => rfl
  | n :: ns => by show (asInts (ns.map .int)).map (n :: ·) = _; rw [asInts_map ns]; rfl
@[simp] theorem asBools_map : ∀ ns : List Bool, asBools (ns.map .bool) = some ns
  | [] => rfl
  | n :: ns => by show (asBools (ns.map .bool)).map (n :: ·) = _; rw [asBools_map ns]; rfl
@[simp] theorem asStrs_map : ∀ ns : List Str, asStrs (ns.map .str) = some ns
  | [] => rfl
  | n :: ns => by show (asStrs (ns.map .str)).map (n :: ·) = _; rw [asStrs_map ns]; rfl
def maxI : List Int → Int
  | [] => 0
  | [a] => a
  | a :: b :: r => let m := maxI (b :: r); if m < a then a else m
theorem maxI_ge : ∀ (ns : List Int) (y : Int), y ∈ ns → y ≤ maxI ns
  | [], _, h => by cases h
  | [a], y, h => by
    have e : y = a := by simpa using h
    rw [e]
    exact Int.le_refl _
  | a :: b :: r, y, h => by
    have ih := maxI_ge (b :: r)
    show y ≤ if maxI (b :: r) < a then a else maxI (b :: r)
    rcases List.mem_cons.mp h with e | h
    · split <;> omega
    · have := ih y h
      split <;> omega
theorem maxI_mem : ∀ (ns : List Int), ns ≠ [] → maxI ns ∈ ns
  | [], h => absurd rfl h
  | [a], _ => by show a ∈ [a]; simp
  | a :: b :: r, _ => by
    have ih := maxI_mem (b :: r) (by simp)
    show (if maxI (b :: r) < a then a else maxI (b :: r)) ∈ a :: b :: r
    split
    · exact List.mem_cons_self
    · exact List.mem_cons_of_mem _ ih
theorem maxI_uniq {ns : List Int} {m : Int} (h1 : m ∈ ns) (h2 : ∀ y, y ∈ ns → y ≤ m) : m = maxI ns := by
  have a := maxI_ge ns m h1
  have b := h2 _ (maxI_mem ns (by intro e; rw [e] at h1; cases h1))
  omega
def gSum : List D → En → R Ent
  | [.list ds], e => match asInts ds with | some ns => .ok (.sh (.int ns.sum)) e | none => .st
  | _, _ => .st
def gMax : List D → En → R Ent
  | [.list ds], e => match asInts ds with | some ns => if ns = [] then .st else .ok (.sh (.int (maxI ns))) e | none => .st
  | [.int i, .int j], e => .ok (.sh (.int (if j > i then j else i))) e
  | _, _ => .st
def gMin : List D → En → R Ent
  | [.int i, .int j], e => .ok (.sh (.int (if j < i then j else i))) e
  | _, _ => .st
def gAll : List D → En → R Ent
  | [.list ds], e => match asBools ds with | some ns => .ok (.sh (.bool (ns.all id))) e | none => .st
  | _, _ => .st
theorem cd_sum (hc : X.calm = true) : CallD X κ (.builtin "sum") gSum := by
  refine ⟨_, cr_sum hc, fun W w σ en vs ds Q s h p => ?_⟩
  cases h with
  | nil => exact False.elim p
  | cons h t =>
    cases t with
    | cons _ _ => cases h <;> exact False.elim p
    | nil =>
      cases h with
      | lst h1 h2 =>
        rename_i a xs ds
        have p' : Po κ W w (match asInts ds with | some ns => R.ok (Ent.sh (.int ns.sum)) en | none => .st) (Qe κ σ Q) := p
        cases e : asInts ds with
        | none => rw [e] at p'; exact False.elim p'
        | some ns =>
          rw [e] at p'
          have := asInts_eq e
          subst this
          have := dpa_ints h2
          subst this
          exact ⟨a, ns, rfl, SqL.of (s.wo.su _ _ h1), fin_sh s p' (.int _)⟩
      | _ => exact False.elim p
theorem cd_all (hc : X.calm = true) : CallD X κ (.builtin "all") gAll := by
  refine ⟨_, cr_all hc, fun W w σ en vs ds Q s h p => ?_⟩
  cases h with
  | nil => exact False.elim p
  | cons h t =>
    cases t with
    | cons _ _ => cases h <;> exact False.elim p
    | nil =>
      cases h with
      | lst h1 h2 =>
        rename_i a xs ds
        have p' : Po κ W w (match asBools ds with | some ns => R.ok (Ent.sh (.bool (ns.all id))) en | none => .st) (Qe κ σ Q) := p
        cases e : asBools ds with
        | none => rw [e] at p'; exact False.elim p'
        | some ns =>
          rw [e] at p'
          have := asBools_eq e
          subst this
          have := dpa_bools h2
          subst this
          exact ⟨a, ns, rfl, SqL.of (s.wo.su _ _ h1), fin_sh s p' (.bl _)⟩
      | _ => exact False.elim p
theorem cd_max (hc : X.calm = true) : CallD X κ (.builtin "max") gMax := by
  refine ⟨_, (cr_max hc).or (call_max2 hc), fun W w σ en vs ds Q s h p => ?_⟩
  cases h with
  | nil => exact False.elim p
  | cons h t =>
    cases h with
    | lst h1 h2 =>
      cases t with
      | cons _ _ => exact False.elim p
      | nil =>
        rename_i a xs ds
        have p' : Po κ W w (match asInts ds with | some ns => if ns = [] then R.st else R.ok (Ent.sh (.int (maxI ns))) en | none => .st) (Qe κ σ Q) := p
        cases e : asInts ds with
        | none => rw [e] at p'; exact False.elim p'
        | some ns =>
          rw [e] at p'
          have := asInts_eq e
          subst this
          have := dpa_ints h2
          subst this
          dsimp only at p'
          by_cases hn : ns = []
          · rw [if_pos hn] at p'
            exact False.elim p'
          · rw [if_neg hn] at p'
            refine .inl ⟨a, ns, rfl, SqL.of (s.wo.su _ _ h1), List.length_pos_iff.mpr hn, fun m hm hle => ?_⟩
            rw [maxI_uniq hm hle]
            exact fin_sh s p' (.int _)
    | int i =>
      cases t with
      | nil => exact False.elim p
      | cons h2 t2 =>
        cases h2 with
        | int j =>
          cases t2 with
          | nil => exact .inr ⟨i, j, rfl, fin_sh s p (.int _)⟩
          | cons _ _ => exact False.elim p
        | _ => exact False.elim p
    | _ => exact False.elim p
theorem cd_min (hc : X.calm = true) : CallD X κ (.builtin "min") gMin := by
  refine ⟨_, call_min2 hc, fun W w σ en vs ds Q s h p => ?_⟩
  cases h with
  | nil => exact False.elim p
  | cons h t =>
    cases h with
    | int i =>
      cases t with
      | nil => exact False.elim p
      | cons h2 t2 =>
        cases h2 with
        | int j =>
          cases t2 with
          | nil => exact ⟨i, j, rfl, fin_sh s p (.int _)⟩
          | cons _ _ => exact False.elim p
        | _ => exact False.elim p
    | _ => exact False.elim p
/-- str(n), str(text) ; int(text) -/
def gStr : List D → En → R Ent
  | [.int i], e => if i.natAbs.log2 < 1920 then .ok (.sh (.str (toString i))) e else .st
  | _, _ => .st
theorem cd_str : CallD X κ (.type "str") gStr := by
  refine ⟨_, call_str_int, fun W w σ en vs ds Q s h p => ?_⟩
  cases h with
  | nil => exact False.elim p
  | cons h t =>
    cases h with
    | int i =>
      cases t with
      | nil =>
        have p' : Po κ W w (if i.natAbs.log2 < 1920 then R.ok (Ent.sh (.str (toString i))) en else .st) (Qe κ σ Q) := p
        by_cases hl : i.natAbs.log2 < 1920
        · rw [if_pos hl] at p'
          exact ⟨i, rfl, hl, fin_sh s p' (.str _)⟩
        · rw [if_neg hl] at p'
          exact False.elim p'
      | cons _ _ => exact False.elim p
    | _ => exact False.elim p
def gInt : List D → En → R Ent
  | [.str x], e => if x.length ≤ 640 then match PySem.intText? x with | some n => .ok (.sh (.int n)) e | none => .st else .st
  | _, _ => .st
theorem cd_int : CallD X κ (.type "int") gInt := by
  refine ⟨_, call_int_str, fun W w σ en vs ds Q s h p => ?_⟩
  cases h with
  | nil => exact False.elim p
  | cons h t =>
    cases h with
    | str x =>
      cases t with
      | nil =>
        have p' : Po κ W w (if x.length ≤ 640 then match PySem.intText? x with | some n => R.ok (Ent.sh (.int n)) en | none => .st else .st) (Qe κ σ Q) := p
        by_cases hl : x.length ≤ 640
        · rw [if_pos hl] at p'
          cases e : PySem.intText? x with
          | none => rw [e] at p'; exact False.elim p'
          | some n =>
            rw [e] at p'
            exact ⟨x, n, rfl, e, hl, fin_sh s p' (.int _)⟩
        · rw [if_neg hl] at p'
          exact False.elim p'
      | cons _ _ => exact False.elim p
    | _ => exact False.elim p
/-- isinstance(e, T), T one of int, bool, str, tuple, list -/
def isT (T : String) : D → Bool
  | .none => false
  | .bool _ => T == "bool" || T == "int"
  | .int _ => T == "int"
  | .str _ => T == "str"
  | .list _ => T == "list"
  | .tuple _ => T == "tuple"
  | .dict _ => false
def eIsi (T : String) (m : En → R Ent) (en : En) : R Ent := (dv m en).bind fun a e => .ok (.sh (.bool (isT T a))) e
def KitAll (T : String) : Prop := kitB "NoneType" T = some false ∧ kitB "bool" T = some (T == "bool" || T == "int") ∧ kitB "int" T = some (T == "int") ∧ kitB "str" T = some (T == "str") ∧ kitB "list" T = some (T == "list") ∧ kitB "tuple" T = some (T == "tuple")
theorem kitAll_int : KitAll "int" := by refine ⟨?_, ?_, ?_, ?_, ?_, ?_⟩ <;> decide +kernel
theorem kitAll_bool : KitAll "bool" := by refine ⟨?_, ?_, ?_, ?_, ?_, ?_⟩ <;> decide +kernel
theorem kitAll_str : KitAll "str" := by refine ⟨?_, ?_, ?_, ?_, ?_, ?_⟩ <;> decide +kernel
theorem kitAll_tuple : KitAll "tuple" := by refine ⟨?_, ?_, ?_, ?_, ?_, ?_⟩ <;> decide +kernel
theorem de_isi {T : String} {x : Str} {e : Expr} {m : En → R Ent} {p px pos : Pos} (kt : KitAll T) (hm : X.mg "isinstance" = none) (hmT : X.mg x = none) (he : PE X e (tOf κ W m)) (hg : Gl X "isinstance" := by rfl) (hgT : Gl X x := by rfl) (hvT : bootBuiltins x = some (.type T) := by decide +kernel)
    (hn : x ≠ "__name__" := by decide) (hdb : (x == ("__debug__" : Str)) = false := by decide)
    (hs : starEach [e, .Name x px] X.env = (false, eval e X.env) :: starEach [.Name x px] X.env := by rfl) (hs2 : starEach [.Name x px] X.env = (false, eval (.Name x px) X.env) :: starEach [] X.env := by rfl)
    (hpl : (backTo pos (starEach [.Name x px] X.env)).any (·.1) = false := by rfl) :
    PE X (.Call (.Name "isinstance" p) [e, .Name x px] [] pos) (tOf κ W (eIsi T m)) :=
  pe_imp (pe_callB call_isi hg hm (by decide +kernel) (pa_cons he (pa_cons (pe_bltn (v := .ty T) hgT hmT hvT rfl hn hdb) pa_nil hs2) hs) (by decide) (by decide) hs hpl) fun σ H Q ⟨w, en, hw, s, po⟩ => by
    subst hw
    refine goD s po fun a e1 v1 w1 n1 s1 d1 p1 => ?_
    obtain ⟨k1, k2, k3, k4, k5, k6⟩ := kt
    cases d1 with
    | non => exact ⟨_, _, _, _, _, rfl, .ty T, .base .non, kit_ty k1, fin_sh s1 p1 (.bl _)⟩
    | bl b => exact ⟨_, _, _, _, _, rfl, .ty T, .base (.bl b), kit_ty k2, fin_sh s1 p1 (.bl _)⟩
    | int i => exact ⟨_, _, _, _, _, rfl, .ty T, .base (.int i), kit_ty k3, fin_sh s1 p1 (.bl _)⟩
    | str y => exact ⟨_, _, _, _, _, rfl, .ty T, .base (.str y), kit_ty k4, fin_sh s1 p1 (.bl _)⟩
    | lst h1 h2 => exact ⟨_, _, _, _, _, rfl, .ty T, .base (.lst (s1.wo.su _ _ h1)), kit_ty k5, fin_sh s1 p1 (.bl _)⟩
    | tup h1 h2 => exact ⟨_, _, _, _, _, rfl, .ty T, .base (.tup (s1.wo.su _ _ h1)), kit_ty k6, fin_sh s1 p1 (.bl _)⟩
end
end CO

/-! CoE: statements over the data layer, targets, loops, comprehensions, defs and their calls. -/
namespace CO
open PySem PySem.Spec PyProof.Rows L2
section
variable {κ : Kx} {W : WX} {w w' : Sn} {σ : St} {en : En}
/-- a value whose object nobody owns -/
def Raw (w : Sn) (κ : Kx) (v : V) : Ent → Prop
  | .no => False
  | .sh d => Dq w.G v d
  | .ow ds => ∃ p xs, v = .ref p ∧ w.O p = none ∧ w.G p = none ∧ w.H p = some (.lst xs) ∧ DqAll w.G xs ds
  | .dk kvs => ∃ p ks, v = .ref p ∧ w.O p = none ∧ w.G p = none ∧ w.H p = some (.dK ks) ∧ DpKv w.G ks kvs
  | .wr j => ∃ p, v = .ref p ∧ w.ad[j]? = some p
  | .sc ns => ∃ a, v = .ref a ∧ SqL κ.K w.G a (ns.map V.int)
def own? (r : Ent) (v : V) : Option Addr := match r, v with
  | .ow _, .ref p => some p
  | .dk _, .ref p => some p
  | _, _ => none
def hideO (w : Sn) (o : Option Addr) : Sn := match o with | some p => { w with O := letO w.O p } | none => w
theorem Nx.ad {a b : Sn} (n : Nx a b) {j : Nat} {p : Addr} (h : a.ad[j]? = some p) : b.ad[j]? = some p := by
  obtain ⟨t, ht⟩ := n.p
  rw [← ht, List.getElem?_append_left (List.getElem?_eq_some_iff.mp h).1]
  exact h
theorem Raw.mono {v : V} {r : Ent} (h : Raw w κ v r) (n : Nx w w') : Raw w' κ v r := by
  cases r with
  | no => exact h
  | sh d => exact dp_mono n.g _ _ h
  | ow ds =>
    obtain ⟨p, xs, e1, e2, e3, e4, e5⟩ := h
    obtain ⟨q1, q2, q3⟩ := n.f p _ e4 e2
    exact ⟨p, xs, e1, q3, q2.trans e3, q1, dpa_mono n.g _ _ e5⟩
  | dk kvs =>
    obtain ⟨p, xs, e1, e2, e3, e4, e5⟩ := h
    obtain ⟨q1, q2, q3⟩ := n.f p _ e4 e2
    exact ⟨p, xs, e1, q3, q2.trans e3, q1, dpkv_mono n.g e5⟩
  | wr j =>
    obtain ⟨p, h1, h2⟩ := h
    exact ⟨p, h1, n.ad h2⟩
  | sc =>
    obtain ⟨a, h1, h2⟩ := h
    exact ⟨a, h1, n.g.seq h2⟩
theorem EntR.let {p : Addr} {ix jx : Ix} {v : V} {r : Ent} (hO : w.O p = some ix) (hj : jx ≠ ix) (h : EntR κ w jx v r) : EntR κ { w with O := letO w.O p } jx v r := by
  have ne : ∀ {q : Addr}, w.O q = some jx → q ≠ p := fun e z => by rw [z, hO] at e; exact hj (Option.some.inj e).symm
  cases r with
  | no => trivial
  | sh d => exact h
  | ow ds =>
    obtain ⟨q, ys, e1, e2, e3, e4⟩ := h
    exact ⟨q, ys, e1, (letO_ne (ne e2)).trans e2, e3, e4⟩
  | dk kvs =>
    obtain ⟨q, ys, e1, e2, e3, e4⟩ := h
    exact ⟨q, ys, e1, (letO_ne (ne e2)).trans e2, e3, e4⟩
  | wr j => exact h
  | sc => exact h
theorem WdR.let {p : Addr} {ix : Ix} {wd : List Ob} (h : WdR κ w wd) (hO : w.O p = some ix) (hj : ∀ j, Ix.w j ≠ ix) : WdR κ { w with O := letO w.O p } wd where
  fr := fun q i e => by
    have e' : letO w.O p q = some i := e
    have ne : q ≠ p := fun z => by rw [z, letO_same] at e'; cases e'
    rw [letO_ne ne] at e'
    exact h.fr q i e'
  su := h.su
  wl := h.wl
  wd := fun j ob q e1 e2 => by
    have x := h.wd j ob q e1 e2
    have ne : ∀ {q : Addr}, w.O q = some (.w j) → q ≠ p := fun e z => by rw [z, hO] at e; exact hj j (Option.some.inj e).symm
    cases ob with
    | tn k => exact ⟨(letO_ne (ne x.1)).trans x.1, x.2⟩
    | tb g rows kept =>
      obtain ⟨dx, l, vg, rs, a1, a2, a3, a4, a5, a6, a7, a8⟩ := x
      exact ⟨dx, l, vg, rs, (letO_ne (ne a1)).trans a1, (letO_ne (ne a2)).trans a2, (letO_ne (ne a3)).trans a3, a4, a5, a6, a7, a8⟩
theorem StR.letR {p : Addr} (s : StR κ w σ en) (hO : w.O p = some .r) : StR κ { w with O := letO w.O p } σ en :=
  ⟨s.wo.let hO (fun _ q => nomatch q), s.ln, fun i => by
    rcases s.sl i with q | ⟨v, q1, q2⟩
    · exact .inl q
    · exact .inr ⟨v, q1, q2.let hO (fun q => nomatch q)⟩⟩
theorem let_nx {p : Addr} {ix : Ix} (hO : w.O p = some ix) : Nx w { w with O := letO w.O p } :=
  ⟨List.prefix_refl _, Same.refl _, fun x o h1 h2 => by
    have ne : x ≠ p := fun z => by rw [z, hO] at h2; cases h2
    exact ⟨h1, rfl, (letO_ne ne).trans h2⟩⟩
/-- a result is put aside -/
theorem hide {v : V} {r : Ent} (s : StR κ w σ en) (er : EntR κ w .r v r) (hr : r ≠ .no) : ∃ w', Nx w w' ∧ w'.H = w.H ∧ w'.G = w.G ∧ w'.ad = w.ad ∧ StR κ w' σ en ∧ Raw w' κ v r ∧ (∀ p, w'.O p = w.O p ∨ (own? r v = some p ∧ w.O p = some .r ∧ w'.O p = none)) := by
  cases r with
  | no => exact absurd rfl hr
  | sh d => exact ⟨w, Nx.refl _, rfl, rfl, rfl, s, er, fun p => .inl rfl⟩
  | ow ds =>
    obtain ⟨p, xs, rfl, e2, e3, e4⟩ := er
    refine ⟨_, let_nx e2, rfl, rfl, rfl, s.letR e2, ⟨p, xs, rfl, letO_same, s.wo.fr p _ e2, e3, e4⟩, fun q => ?_⟩
    by_cases z : q = p
    · subst z; exact .inr ⟨rfl, e2, letO_same⟩
    · exact .inl (letO_ne z)
  | dk kvs =>
    obtain ⟨p, xs, rfl, e2, e3, e4⟩ := er
    refine ⟨_, let_nx e2, rfl, rfl, rfl, s.letR e2, ⟨p, xs, rfl, letO_same, s.wo.fr p _ e2, e3, e4⟩, fun q => ?_⟩
    by_cases z : q = p
    · subst z; exact .inr ⟨rfl, e2, letO_same⟩
    · exact .inl (letO_ne z)
  | wr j => exact ⟨w, Nx.refl _, rfl, rfl, rfl, s, er, fun p => .inl rfl⟩
  | sc => exact ⟨w, Nx.refl _, rfl, rfl, rfl, s, er, fun p => .inl rfl⟩
/-- owners behind a store at slot i of a value whose object is at o -/
def stoO (O : Addr → Option Ix) (i : Nat) (o : Option Addr) : Addr → Option Ix := fun b => if o = some b then some (.s i) else if O b = some (.s i) then none else O b
theorem stoO_at {O : Addr → Option Ix} {i : Nat} {p : Addr} : stoO O i (some p) p = some (.s i) := if_pos rfl
theorem stoO_ne {O : Addr → Option Ix} {i : Nat} {o : Option Addr} {b : Addr} (h : o ≠ some b) (h2 : O b ≠ some (.s i)) : stoO O i o b = O b := by
  unfold stoO
  rw [if_neg h, if_neg h2]
/-- a slot's store: the object at o is owned by nobody -/
theorem StR.sto {v : V} {r : Ent} {i : Nat} (s : StR κ w σ en) (hr : Raw w κ v r) : StR κ { w with O := stoO w.O i (own? r v) } (σ.set i (some v)) (en.set i r) := by
  have free : ∀ b, own? r v = some b → w.O b = none ∧ w.G b = none := fun b e => by
    cases r with
    | ow ds =>
      obtain ⟨p, xs, rfl, e2, e3, _, _⟩ := hr
      cases e
      exact ⟨e2, e3⟩
    | dk kvs =>
      obtain ⟨p, xs, rfl, e2, e3, _, _⟩ := hr
      cases e
      exact ⟨e2, e3⟩
    | no => cases e
    | sh d => cases e
    | wr j => cases e
    | sc => cases e
  have keep : ∀ {b : Addr} {jx : Ix}, jx ≠ .s i → w.O b = some jx → stoO w.O i (own? r v) b = some jx := fun {b jx} h1 h2 => by
    have n1 : own? r v ≠ some b := fun z => by rw [(free b z).1] at h2; cases h2
    rw [stoO_ne n1 (fun z => by rw [z] at h2; exact h1 (Option.some.inj h2).symm)]
    exact h2
  refine ⟨⟨fun p ix e => ?_, s.wo.su, s.wo.wl, fun j ob p e1 e2 => ?_⟩, ?_, fun k => ?_⟩
  · have e' : stoO w.O i (own? r v) p = some ix := e
    unfold stoO at e'
    by_cases h1 : own? r v = some p
    · exact (free p h1).2
    · rw [if_neg h1] at e'
      by_cases h2 : w.O p = some (.s i)
      · exact s.wo.fr p _ h2
      · rw [if_neg h2] at e'
        exact s.wo.fr p _ e'
  · have x := s.wo.wd j ob p e1 e2
    have k : ∀ {b : Addr}, w.O b = some (.w j) → stoO w.O i (own? r v) b = some (.w j) := fun h => keep (fun z => nomatch z) h
    cases ob with
    | tn n => exact ⟨k x.1, x.2⟩
    | tb g rows kept =>
      obtain ⟨dx, l, vg, rs, a1, a2, a3, a4, a5, a6, a7, a8⟩ := x
      exact ⟨dx, l, vg, rs, k a1, k a2, k a3, a4, a5, a6, a7, a8⟩
  · show (en.sl.set i r).length = (σ.set i (some v)).length
    rw [List.length_set, List.length_set]
    exact s.ln
  · by_cases hk : i = k
    · subst hk
      rcases get_set_same (en := en) (i := i) (e := r) with e | e
      · rw [e]
        by_cases hi : i < σ.length
        · refine .inr ⟨v, gd_same hi, ?_⟩
          cases r with
          | no => trivial
          | sh d => exact hr
          | ow ds =>
            obtain ⟨p, xs, rfl, e2, e3, e4, e5⟩ := hr
            exact ⟨p, xs, rfl, stoO_at, e4, e5⟩
          | dk kvs =>
            obtain ⟨p, xs, rfl, e2, e3, e4, e5⟩ := hr
            exact ⟨p, xs, rfl, stoO_at, e4, e5⟩
          | wr j => exact hr
          | sc => exact hr
        · left
          have q : (en.set i r).get i = .no := by
            unfold En.set En.get
            rw [List.getD_eq_getElem?_getD, List.getElem?_eq_none (by rw [List.length_set, s.ln]; omega)]; rfl
          rw [← e]
          exact q
      · exact .inl e
    · rw [get_set_ne hk, gd_ne hk]
      rcases s.sl k with q | ⟨u, q1, q2⟩
      · exact .inl q
      · refine .inr ⟨u, q1, ?_⟩
        have kk : ∀ {b : Addr}, w.O b = some (.s k) → stoO w.O i (own? r v) b = some (.s k) := fun h => keep (fun z => hk (by injection z with z; exact z.symm)) h
        cases h : en.get k with
        | no => trivial
        | sh d => rw [h] at q2; exact q2
        | ow ds =>
          rw [h] at q2
          obtain ⟨p, xs, e1, e2, e3, e4⟩ := q2
          exact ⟨p, xs, e1, kk e2, e3, e4⟩
        | dk kvs =>
          rw [h] at q2
          obtain ⟨p, xs, e1, e2, e3, e4⟩ := q2
          exact ⟨p, xs, e1, kk e2, e3, e4⟩
        | wr j => rw [h] at q2; exact q2
        | sc => rw [h] at q2; exact q2
/-- .. seen from an elder snapshot, ahead of which the object was not there (or owned) -/
theorem sto_nx {w0 : Sn} {i : Nat} {o : Option Addr} (n : Nx w0 w) (h : ∀ p, o = some p → ∀ u, w0.H p = some u → w0.O p ≠ none) : Nx w0 { w with O := stoO w.O i o } :=
  ⟨n.p, n.g, fun x u h1 h2 => by
    obtain ⟨q1, q2, q3⟩ := n.f x u h1 h2
    refine ⟨q1, q2, ?_⟩
    have n1 : o ≠ some x := fun z => h x z u h1 h2
    show stoO w.O i o x = none
    rw [stoO_ne n1 (by rw [q3]; intro z; cases z)]
    exact q3⟩
/-- a result is stored -/
theorem StR.store {v : V} {r : Ent} (i : Nat) (s : StR κ w σ en) (er : EntR κ w .r v r) (hr : r ≠ .no) : ∃ w', Nx w w' ∧ w'.H = w.H ∧ w'.G = w.G ∧ StR κ w' (σ.set i (some v)) (en.set i r) := by
  obtain ⟨w1, n1, hH, hG, ha, s1, r1, hO⟩ := hide s er hr
  refine ⟨{ w1 with O := stoO w1.O i (own? r v) }, sto_nx n1 (fun p e u _ => ?_), hH, hG, s1.sto r1⟩
  rcases hO p with q | ⟨_, q, _⟩
  · intro z
    cases r with
    | ow ds =>
      obtain ⟨p', xs, rfl, e2, _, _⟩ := er
      cases e
      rw [e2] at z; cases z
    | dk kvs =>
      obtain ⟨p', xs, rfl, e2, _, _⟩ := er
      cases e
      rw [e2] at z; cases z
    | no => cases e
    | sh d => cases e
    | wr j => cases e
    | sc => cases e
  · rw [q]; intro z; cases z
end

/-! ### blocks -/
def sPass (en : En) : R Fl := .ok .nx en
def thenS (b : En → R Fl) (f : Fl) (e : En) : R Fl := match f with | .nx => b e | f => .ok f e
def sSeq (a b : En → R Fl) (en : En) : R Fl := (a en).bind (thenS b)
def sEx (m : En → R Ent) (en : En) : R Fl := (m en).bind fun _ e => .ok .nx e
def sRet (m : En → R Ent) (en : En) : R Fl := (m en).bind fun r e => match r with | .no => .st | r => .ok (.rt r) e
def sIf (t : En → R Bool) (a b : En → R Fl) (en : En) : R Fl := (t en).bind fun k e => if k = true then a e else b e
def sSet (i : Nat) (m : En → R Ent) (en : En) : R Fl := (m en).bind fun r e => match r with | .no => .st | r => .ok .nx (e.set i r)
def sBk (en : En) : R Fl := .ok .bk en
def sEx_ (c : Nat) (en : En) : R Fl := .ex c en
section
variable {X : Cx} {κ : Kx} {W : WX} {st : Stmt} {rest : List Stmt} {a b : En → R Fl} {m : En → R Ent} {e : Expr} {pos : Pos}
theorem dss_cons (h1 : PS X st (tSOf κ W a)) (h2 : PSs X rest (tSOf κ W b)) : PSs X (st :: rest) (tSOf κ W (sSeq a b)) :=
  pss_imp (pss_cons h1 h2) fun Dn σ H ⟨w, en, hw, s, p⟩ => ⟨w, en, hw, s, (Po.bind_of (f := thenS b) p).imp fun f e w' n q => by
    cases f with
    | nx => exact fun σ' s' => ⟨w', e, rfl, s', q⟩
    | rt r => exact q w' (Nx.refl _)
    | bk => exact q w' (Nx.refl _)
    | ct => exact q w' (Nx.refl _)⟩
theorem dss_one (h1 : PS X st (tSOf κ W a)) : PSs X [st] (tSOf κ W a) := pss_one h1
theorem dss_nil : PSs X [] (tSOf κ W sPass) := pss_imp pss_nil fun Dn σ H ⟨w, en, hw, s, p⟩ => by
  subst hw
  exact p w (Nx.refl _) σ s
theorem ds_expr (h : PE X e (tOf κ W m)) (hs : swapsWith e none pos.line X.env = pure false := by rfl) : PS X (.Expr e pos) (tSOf κ W (sEx m)) :=
  ps_imp (ps_expr h hs) fun Dn σ H ⟨w, en, hw, s, p⟩ => by
    subst hw
    exact go (k := fun _ e => R.ok Fl.nx e) s p fun r e1 v w1 n1 s1 er p1 => p1 w1 (Nx.refl _) σ s1
theorem ds_ret (h : PE X e (tOf κ W m)) : PS X (.Return (some e) pos) (tSOf κ W (sRet m)) :=
  ps_imp (ps_ret h) fun Dn σ H ⟨w, en, hw, s, p⟩ => by
    subst hw
    refine go (k := fun r e => match r with | .no => R.st | r => R.ok (Fl.rt r) e) s p fun r e1 v w1 n1 s1 er p1 => ?_
    cases r with
    | no => exact False.elim p1
    | sh d => exact p1 w1 (Nx.refl _) v σ s1 er
    | ow d => exact p1 w1 (Nx.refl _) v σ s1 er
    | dk d => exact p1 w1 (Nx.refl _) v σ s1 er
    | wr d => exact p1 w1 (Nx.refl _) v σ s1 er
    | sc => exact p1 w1 (Nx.refl _) v σ s1 er
theorem ds_if {c : Expr} {sa sb : List Stmt} {t : En → R Bool} (hc : PT X c (tTOf κ W t)) (ha : PSs X sa (tSOf κ W a)) (hb : PSs X sb (tSOf κ W b)) : PS X (.If c sa sb pos) (tSOf κ W (sIf t a b)) :=
  ps_imp (ps_if hc ha hb) fun Dn σ H ⟨w, en, hw, s, p⟩ => by
    subst hw
    refine goT (k := fun k e => if k = true then a e else b e) s p fun k e1 w1 n1 s1 p1 => ?_
    cases k with
    | true =>
      rw [if_pos rfl] at p1 ⊢
      exact ⟨w1, e1, rfl, s1, p1⟩
    | false =>
      rw [if_neg Bool.false_ne_true] at p1 ⊢
      exact ⟨w1, e1, rfl, s1, p1⟩
theorem tSet_of {σ : St} {Dn : Ends} {H : Hp} {i : Nat} (q : tSOf κ W (sSet i m) Dn σ H) : tAsg (tOf κ W m) (gName i) Dn σ H := by
  obtain ⟨w, en, hw, s, p⟩ := q
  subst hw
  refine go (k := fun r e => match r with | .no => R.st | r => R.ok Fl.nx (e.set i r)) s p fun r e1 v w1 n1 s1 er p1 => ?_
  have fin : r ≠ .no → (∀ w', Nx w1 w' → ∀ σ', StR κ w' σ' (e1.set i r) → Dn.nx σ' w'.H) → Dn.nx (σ.set i (some v)) w1.H := fun hr q => by
    obtain ⟨w2, n2, hH, _, s2⟩ := s1.store i er hr
    rw [← hH]
    exact q w2 n2 _ s2
  cases r with
  | no => exact False.elim p1
  | sh d => exact fin (fun z => nomatch z) p1
  | ow d => exact fin (fun z => nomatch z) p1
  | dk d => exact fin (fun z => nomatch z) p1
  | wr d => exact fin (fun z => nomatch z) p1
  | sc => exact fin (fun z => nomatch z) p1
theorem ds_set (i : Nat) {x : Str} {pos' : Pos} (hN : X.N.Nodup) (h : PE X e (tOf κ W m)) (hi : X.N[i]? = some x := by rfl) (hx : Loc X.env.scope x := by first | exact Or.inl rfl | exact Or.inr rfl) (hs : swapsWith e (some (.Name x pos')) pos.line X.env = pure false := by rfl)
    (hf : X.fn x = true ∨ X.env.scope.names.lookup x = some .local := by first | exact .inl rfl | exact .inr rfl) : PS X (.Assign [.Name x pos'] e pos) (tSOf κ W (sSet i m)) :=
  ps_imp (ps_set hN hi hx h hs hf) fun Dn σ H q => tSet_of q
theorem ds_break : PS X (.Break pos) (tSOf κ W sBk) := ps_imp ps_break fun Dn σ H ⟨w, en, hw, s, p⟩ => by
  subst hw
  exact p w (Nx.refl _) σ s
/-- raise C('..') -/
theorem ds_raise (c : Nat) {x mm : Str} {j : Nat} {p p2 pos' : Pos} {bmB : List Value} {B newId initId : String} (hc : X.calm = true) (tk : Takes X W) (F : ExcBaseFacts B newId initId bmB) (q : PySem.W.excIn X.K (κ.ec c) bmB newId = true) (gC : X.mg x = some (.ref (κ.ec c)))
    (kC : PySem.W.keepIn X.K (.ref (κ.ec c)) = true) (r : Raises X (.ref (κ.ec c))) (hg : Gl X x := by rfl) (hdb : (x == ("__debug__" : Str)) = false := by decide) :
    PS X (.Raise (some (.Call (.Name x p) [.Constant (.str mm) j p2] [] pos')) none pos) (tSOf κ W (sEx_ c)) :=
  ps_imp (ps_raise hc tk (pmk_own F q gC kC r hg hdb)) fun Dn σ H ⟨w, en, hw, s, po⟩ => by
    subst hw
    exact po σ w (Nx.refl _) s
end

/-! ### targets -/
def gN (i : Nat) (r : Ent) (en : En) : R Unit := match r with | .no => .st | r => .ok () (en.set i r)
/-- several names from a tuple's data -/
def setAll : List Nat → List D → En → R Unit
  | [], [], en => .ok () en
  | i :: is, d :: ds, en => setAll is ds (en.set i (.sh d))
  | _, _, _ => .st
def gT (is : List Nat) (r : Ent) (en : En) : R Unit := match r with | .sh (.tuple ds) => setAll is ds en | _ => .st
/-- alike but in the slots is -/
def AlikeBut (is : List Nat) (σ σ' : St) : Prop := ∀ vs, (∀ i ∈ is, i ∈ vs) → wipe σ' vs = wipe σ vs
theorem wipe_in {σ : St} {k : Nat} : ∀ {vs : List Nat}, k ∈ vs → (wipe σ vs)[k]? = if k < σ.length then some none else none
  | v :: vs, h => by
    unfold wipe
    by_cases hv : v = k
    · subst hv
      by_cases hl : v < σ.length
      · rw [if_pos hl, List.getElem?_set_self (by rw [wipe_length]; exact hl)]
      · rw [if_neg hl, List.getElem?_eq_none (by rw [List.length_set, wipe_length]; omega)]
    · rw [List.getElem?_set_ne hv]
      exact wipe_in ((List.mem_cons.mp h).resolve_left (Ne.symm hv))
theorem wipe_set {σ : St} {i : Nat} {o : Option V} {vs : List Nat} (h : i ∈ vs) : wipe (σ.set i o) vs = wipe σ vs := by
  apply List.ext_getElem?
  intro k
  by_cases hk : k ∈ vs
  · rw [wipe_in hk, wipe_in hk, List.length_set]
  · rw [wipe_out hk, wipe_out hk, List.getElem?_set_ne (fun z : i = k => hk (by rw [← z]; exact h))]
/-- a target's store, its slots named -/
def tGv (κ : Kx) (W : WX) (g : Ent → En → R Unit) (is : List Nat) : TG := fun v σ H Q => ∃ w en r, w.H = H ∧ StR κ w σ en ∧ EntR κ w .r v r ∧ Po κ W w (g r en) fun _ en' w' => ∀ σ', StR κ w' σ' en' → AlikeBut is σ σ' → Q σ' w'.H
section
variable {X : Cx} {κ : Kx} {W : WX} {pos : Pos}
theorem dg_of {e : Expr} {g : Ent → En → R Unit} {is : List Nat} (h : PG X e (tGv κ W g is)) : PG X e (tGOf κ W g) :=
  pg_imp h fun v σ H Q ⟨w, en, r, hw, s, er, p⟩ => ⟨w, en, r, hw, s, er, p.imp fun _ en' w' n q σ' s' _ => q σ' s'⟩
theorem dg_name (i : Nat) {x : Str} (hN : X.N.Nodup) (hi : X.N[i]? = some x := by rfl) (hx : Loc X.env.scope x := by first | exact Or.inl rfl | exact Or.inr rfl)
    (hf : X.fn x = true ∨ X.env.scope.names.lookup x = some .local := by first | exact .inl rfl | exact .inr rfl) : PG X (.Name x pos) (tGv κ W (gN i) [i]) :=
  pg_imp (pg_name hN hi hx hf) fun v σ H Q ⟨w, en, r, hw, s, er, p⟩ => by
    subst hw
    have fin : r ≠ .no → (∀ w', Nx w w' → ∀ σ', StR κ w' σ' (en.set i r) → AlikeBut [i] σ σ' → Q σ' w'.H) → Q (σ.set i (some v)) w.H := fun hr q => by
      obtain ⟨w2, n2, hH, _, s2⟩ := s.store i er hr
      rw [← hH]
      exact q w2 n2 _ s2 fun vs h => wipe_set (h i (by simp))
    cases r with
    | no => exact False.elim p
    | sh d => exact fin (fun z => nomatch z) p
    | ow d => exact fin (fun z => nomatch z) p
    | dk d => exact fin (fun z => nomatch z) p
    | wr d => exact fin (fun z => nomatch z) p
    | sc => exact fin (fun z => nomatch z) p
/-- the targets of a tuple, by their slots -/
def PGsD (X : Cx) (κ : Kx) (ts : List Expr) (is : List Nat) : Prop := ∃ t : TGs, PGs X ts t ∧ ∀ (w : Sn) (σ : St) (en : En) (xs : List V) (ds : List D) (W : WX) (Q : St → Hp → Prop), StR κ w σ en → DqAll w.G xs ds →
  Po κ W w (setAll is ds en) (fun _ en' w' => ∀ σ', StR κ w' σ' en' → AlikeBut is σ σ' → Q σ' w'.H) → t xs σ w.H Q
theorem dgs_nil : PGsD X κ [] [] := ⟨_, pgs_nil, fun w σ en xs ds W Q s h p => by
  cases h with
  | nil => exact ⟨rfl, p w (Nx.refl _) σ s fun _ _ => rfl⟩
  | cons _ _ => exact False.elim p⟩
theorem dgs_name (i : Nat) {x : Str} {es : List Expr} {is : List Nat} (hN : X.N.Nodup) (h : PGsD X κ es is) (hi : X.N[i]? = some x := by rfl) (hx : Loc X.env.scope x := by first | exact Or.inl rfl | exact Or.inr rfl)
    (hf : X.fn x = true ∨ X.env.scope.names.lookup x = some .local := by first | exact .inl rfl | exact .inr rfl)
    (hs : (assignEach (.Name x pos :: es) X.env).map (·.2) = assign (.Name x pos) X.env :: (assignEach es X.env).map (·.2) := by rfl) : PGsD X κ (.Name x pos :: es) (i :: is) := by
  obtain ⟨t, ht, hh⟩ := h
  refine ⟨_, pgs_cons (pg_name hN hi hx hf) ht hs, fun w σ en xs ds W Q s hd p => ?_⟩
  cases hd with
  | nil => exact False.elim p
  | cons h1 h2 =>
    refine ⟨_, _, rfl, ?_⟩
    obtain ⟨w2, n2, hH, hG, s2⟩ := s.store (r := .sh _) i h1 (fun z => nomatch z)
    rw [← hH]
    refine hh w2 _ _ _ _ W Q s2 (by rw [hG]; exact h2) ((Po.mono p n2).imp fun _ en' w' n q σ' s' al => q σ' s' fun vs hvs => ?_)
    rw [al vs fun k hk => hvs k (List.mem_cons_of_mem _ hk)]
    exact wipe_set (hvs i List.mem_cons_self)
theorem dg_tup {es : List Expr} {k n : Nat} {is : List Nat} (hc : X.calm = true) (h : PGsD X κ es is) (hil : is.length = n := by rfl) (hn : (assignEach es X.env).length = n := by rfl) (hst : (assignEach es X.env).findIdx? (·.1) = none := by rfl) : PG X (.Tuple es k pos) (tGv κ W (gT is) is) := by
  obtain ⟨t, ht, hh⟩ := h
  refine pg_imp (pg_tup hc ht hn hst) fun v σ H Q ⟨w, en, r, hw, s, er, p⟩ => ?_
  subst hw
  cases r with
  | sh d =>
    cases d with
    | tuple ds =>
      obtain ⟨a, xs, rfl, h1, h2⟩ := dp_tuple er
      refine ⟨a, xs, rfl, SqT.of (s.wo.su _ _ h1), ?_, hh w σ en xs ds W Q s h2 p⟩
      rw [dpa_len h2, ← hil]
      have go : ∀ (is : List Nat) (ds : List D) (en : En) (Q : Unit → En → Sn → Prop), Po κ W w (setAll is ds en) Q → ds.length = is.length := by
        intro is
        induction is with
        | nil =>
          intro ds en Q p
          cases ds with
          | nil => rfl
          | cons _ _ => exact False.elim p
        | cons i is ih =>
          intro ds en Q p
          cases ds with
          | nil => exact False.elim p
          | cons d ds => rw [List.length_cons, List.length_cons, ih ds _ _ p]
      exact go is ds en _ p
    | _ => exact False.elim p
  | _ => exact False.elim p
/-- target = value, any target -/
def sAsg (g : Ent → En → R Unit) (m : En → R Ent) (en : En) : R Fl := (m en).bind fun r e => (g r e).bind fun _ e' => .ok .nx e'
theorem ds_asg {tg e : Expr} {m : En → R Ent} {g : Ent → En → R Unit} {is : List Nat} (he : PE X e (tOf κ W m)) (hg : PG X tg (tGv κ W g is)) (hs : swapsWithSole [tg] e pos.line X.env = pure false := by rfl) (hw : swappedStores [tg] e X.env = pure none := by rfl)
    (h1 : (assignEach [tg] X.env).map (·.2) = [assign tg X.env] := by rfl) : PS X (.Assign [tg] e pos) (tSOf κ W (sAsg g m)) :=
  ps_imp (ps_asg he (dg_of hg) hs hw h1) fun Dn σ H ⟨w, en, hw, s, p⟩ => by
    subst hw
    refine go (k := fun r e => (g r e).bind fun _ e' => R.ok Fl.nx e') s p fun r e1 v w1 n1 s1 er p1 => ?_
    exact ⟨w1, e1, r, rfl, s1, er, (Po.bind_of p1).imp fun _ e2 w2 n2 p2 => fun σ' s2 => p2 w2 (Nx.refl _) σ' s2⟩
end

/-! ### a, b = x, y -/
def sPar2 (i j : Nat) (m1 m2 : En → R Ent) (en : En) : R Fl := (m1 en).bind fun r1 e1 => (m2 e1).bind fun r2 e2 => match r1, r2 with
  | .no, _ => .st | _, .no => .st | r1, r2 => .ok .nx ((e2.set i r1).set j r2)
def sPar3 (i j l : Nat) (m1 m2 m3 : En → R Ent) (en : En) : R Fl := (m1 en).bind fun r1 e1 => (m2 e1).bind fun r2 e2 => (m3 e2).bind fun r3 e3 => match r1, r2, r3 with
  | .no, _, _ => .st | _, .no, _ => .st | _, _, .no => .st | r1, r2, r3 => .ok .nx (((e3.set i r1).set j r2).set l r3)
section
variable {X : Cx} {κ : Kx} {W : WX} {pos : Pos} {w w0 : Sn} {σ : St} {en : En}
theorem own_raw {v : V} {r : Ent} {p : Addr} (h : Raw w κ v r) (e : own? r v = some p) : w.O p = none ∧ ∃ u, w.H p = some u := by
  cases r with
  | ow ds =>
    obtain ⟨q, xs, rfl, e2, _, e4, _⟩ := h
    cases e
    exact ⟨e2, _, e4⟩
  | dk kvs =>
    obtain ⟨q, xs, rfl, e2, _, e4, _⟩ := h
    cases e
    exact ⟨e2, _, e4⟩
  | no => cases e
  | sh d => cases e
  | wr j => cases e
  | sc => cases e
theorem own_ent {v : V} {r : Ent} {p : Addr} (h : EntR κ w .r v r) (e : own? r v = some p) : w.O p = some .r := by
  cases r with
  | ow ds =>
    obtain ⟨q, xs, rfl, e2, _⟩ := h
    cases e
    exact e2
  | dk kvs =>
    obtain ⟨q, xs, rfl, e2, _⟩ := h
    cases e
    exact e2
  | no => cases e
  | sh d => cases e
  | wr j => cases e
  | sc => cases e
/-- not standing unowned at w0 -/
def Apart (w0 : Sn) (o : Option Addr) : Prop := ∀ p, o = some p → ∀ u, w0.H p = some u → w0.O p ≠ none
theorem apart_of {v : V} {r : Ent} (n : Nx w0 w) (h : EntR κ w .r v r) : Apart w0 (own? r v) := fun p e u h1 h2 => by
  have q := (n.f p u h1 h2).2.2
  rw [own_ent h e] at q
  cases q
theorem Raw.sto {v v' : V} {r r' : Ent} {i : Nat} (h : Raw w κ v r) (hne : ∀ p, own? r v = some p → own? r' v' ≠ some p) : Raw { w with O := stoO w.O i (own? r' v') } κ v r := by
  have k : ∀ p, own? r v = some p → w.O p = none → stoO w.O i (own? r' v') p = none := fun p e e2 => by
    rw [stoO_ne (hne p e) (by rw [e2]; intro z; cases z)]
    exact e2
  cases r with
  | no => exact h
  | sh d => exact h
  | ow ds =>
    obtain ⟨p, xs, rfl, e2, e3⟩ := h
    exact ⟨p, xs, rfl, k p rfl e2, e3⟩
  | dk kvs =>
    obtain ⟨p, xs, rfl, e2, e3⟩ := h
    exact ⟨p, xs, rfl, k p rfl e2, e3⟩
  | wr j => exact h
  | sc => exact h
/-- .. with the equation of the part, the end's wish where it stood -/
theorem goQ {α : Type} {m : En → R Ent} {k : Ent → En → R α} {Q : α → En → Sn → Prop} {Q1 : VK} (n0 : Nx w0 w) (s : StR κ w σ en) (h : Po κ W w0 ((m en).bind k) Q)
    (hk : ∀ r en1 v w1, m en = .ok r en1 → Nx w w1 → StR κ w1 σ en1 → EntR κ w1 .r v r → Po κ W w0 (k r en1) Q → Q1 v w1.H) : tOf κ W m σ w.H Q1 := by
  refine ⟨w, en, rfl, s, ?_⟩
  cases e : m en with
  | ok r en1 =>
    rw [e] at h
    exact fun w1 n1 v s1 er => hk r en1 v w1 e n1 s1 er h
  | ex c en1 =>
    rw [e] at h
    exact fun σ' w1 n1 s1 => h σ' w1 (n0.trans n1) s1
  | st =>
    rw [e] at h
    exact h
theorem ds_par2 (i j : Nat) {x y : Str} {a b : Expr} {m1 m2 : En → R Ent} {px py pt : Pos} {kt k2 pt2} (hc : X.calm = true) (hN : X.N.Nodup) (ha : PE X a (tOf κ W m1)) (hb : PE X b (tOf κ W m2)) (hi : X.N[i]? = some x := by rfl) (hj : X.N[j]? = some y := by rfl) (hij : i ≠ j := by decide)
    (hx : X.env.scope.names.lookup x = some .local := by rfl) (hy : X.env.scope.names.lookup y = some .local := by rfl)
    (hw : swappedStores [.Tuple [.Name x px, .Name y py] kt pt] (.Tuple [a, b] k2 pt2) X.env = pure (some [x, y]) := by rfl)
    (hs : swapsWithSole [.Tuple [.Name x px, .Name y py] kt pt] (.Tuple [a, b] k2 pt2) pos.line X.env = pure false := by rfl) (h1 : starEach [a, b] X.env = (false, eval a X.env) :: starEach [b] X.env := by rfl) (h2 : starEach [b] X.env = (false, eval b X.env) :: starEach [] X.env := by rfl) :
    PS X (.Assign [.Tuple [.Name x px, .Name y py] kt pt] (.Tuple [a, b] k2 pt2) pos) (tSOf κ W (sPar2 i j m1 m2)) :=
  ps_imp (ps_par hc hN hi hj hij hx hy (pa_cons ha (pa_cons hb pa_nil h2) h1) hw hs) fun Dn σ H ⟨w, en, hw', s, p⟩ => by
    subst hw'
    refine goQ (Q1 := fun v1 H1 => tOf κ W m2 σ H1 fun v2 H2 => ∃ v w, [v1, v2] = [v, w] ∧ Dn.nx ((σ.set i (some v)).set j (some w)) H2) (Nx.refl w) s p fun r1 e1 v1 w1 q1 n1 s1 er1 p1 => ?_
    by_cases hr1 : r1 = .no
    · subst hr1
      exact ⟨w1, e1, rfl, s1, ((Po.bind_of p1).mono n1).imp fun r2 e2 w2 n2 p2 => False.elim p2⟩
    obtain ⟨w1h, nh, hH, hG, had, s1h, raw1, hO1⟩ := hide s1 er1 hr1
    rw [← hH]
    refine goQ (n1.trans nh) s1h p1 fun r2 e2 v2 w2 q2 n2 s2 er2 p2 => ⟨v1, v2, rfl, ?_⟩
    by_cases hr2 : r2 = .no
    · subst hr2
      cases r1 <;> exact False.elim p2
    have raw1' := raw1.mono n2
    obtain ⟨w2h, nh2, hH2, hG2, had2, s2h, raw2, hO2⟩ := hide s2 er2 hr2
    have raw1'' := raw1'.mono nh2
    have hne : ∀ q, own? r2 v2 = some q → own? r1 v1 ≠ some q := fun q e e' => by
      have z1 := (own_raw raw1' e').1
      rw [own_ent er2 e] at z1
      cases z1
    have st3 := s2h.sto (i := i) raw1''
    have raw3 := raw2.sto (i := i) (r' := r1) (v' := v1) hne
    have st4 := st3.sto (i := j) raw3
    have nAll : Nx w w2h := ((n1.trans nh).trans n2).trans nh2
    have n3 : Nx w { w2h with O := stoO w2h.O i (own? r1 v1) } := sto_nx nAll (apart_of n1 er1)
    have n4 : Nx w { w2h with O := stoO (stoO w2h.O i (own? r1 v1)) j (own? r2 v2) } := sto_nx (w := { w2h with O := stoO w2h.O i (own? r1 v1) }) n3 (apart_of ((n1.trans nh).trans n2) er2)
    have fin : Po κ W w (R.ok Fl.nx ((e2.set i r1).set j r2)) (endS κ Dn) := by
      cases r1 <;> first | exact absurd rfl hr1 | (cases r2 <;> first | exact absurd rfl hr2 | exact p2)
    have q := fin _ n4 _ st4
    rw [← hH2]
    exact q
theorem ds_par3 (i j l : Nat) {x y z : Str} {a b c : Expr} {m1 m2 m3 : En → R Ent} {px py pz pt : Pos} {kt k2 pt2} (hc : X.calm = true) (hN : X.N.Nodup) (ha : PE X a (tOf κ W m1)) (hb : PE X b (tOf κ W m2)) (hcc : PE X c (tOf κ W m3))
    (hi : X.N[i]? = some x := by rfl) (hj : X.N[j]? = some y := by rfl) (hl : X.N[l]? = some z := by rfl) (hij : i ≠ j := by decide) (hil : i ≠ l := by decide) (hjl : j ≠ l := by decide)
    (hx : X.env.scope.names.lookup x = some .local := by rfl) (hy : X.env.scope.names.lookup y = some .local := by rfl) (hz : X.env.scope.names.lookup z = some .local := by rfl)
    (hw : swappedStores [.Tuple [.Name x px, .Name y py, .Name z pz] kt pt] (.Tuple [a, b, c] k2 pt2) X.env = pure (some [x, y, z]) := by rfl)
    (hs : swapsWithSole [.Tuple [.Name x px, .Name y py, .Name z pz] kt pt] (.Tuple [a, b, c] k2 pt2) pos.line X.env = pure false := by rfl)
    (h1 : starEach [a, b, c] X.env = (false, eval a X.env) :: starEach [b, c] X.env := by rfl) (h2 : starEach [b, c] X.env = (false, eval b X.env) :: starEach [c] X.env := by rfl) (h3 : starEach [c] X.env = (false, eval c X.env) :: starEach [] X.env := by rfl) :
    PS X (.Assign [.Tuple [.Name x px, .Name y py, .Name z pz] kt pt] (.Tuple [a, b, c] k2 pt2) pos) (tSOf κ W (sPar3 i j l m1 m2 m3)) :=
  ps_imp (ps_par3 hc hN hi hj hl hij hil hjl hx hy hz (pa_cons ha (pa_cons hb (pa_cons hcc pa_nil h3) h2) h1) hw hs) fun Dn σ H ⟨w, en, hw', s, p⟩ => by
    subst hw'
    refine goQ (Q1 := fun v1 H1 => tOf κ W m2 σ H1 fun v2 H2 => tOf κ W m3 σ H2 fun v3 H3 => ∃ u v w, [v1, v2, v3] = [u, v, w] ∧ Dn.nx (((σ.set i (some u)).set j (some v)).set l (some w)) H3) (Nx.refl w) s p fun r1 e1 v1 w1 q1 n1 s1 er1 p1 => ?_
    by_cases hr1 : r1 = .no
    · subst hr1
      refine ⟨w1, e1, rfl, s1, ((Po.bind_of p1).mono n1).imp fun r2 e2 w2 n2 p2 v2 s2 er2 => ⟨w2, e2, rfl, s2, (Po.bind_of p2).imp fun r3 e3 w3 n3 p3 => False.elim p3⟩⟩
    obtain ⟨w1h, nh, hH, hG, had, s1h, raw1, hO1⟩ := hide s1 er1 hr1
    rw [← hH]
    refine goQ (Q1 := fun v2 H2 => tOf κ W m3 σ H2 fun v3 H3 => ∃ u v w, [v1, v2, v3] = [u, v, w] ∧ Dn.nx (((σ.set i (some u)).set j (some v)).set l (some w)) H3) (n1.trans nh) s1h p1 fun r2 e2 v2 w2 q2 n2 s2 er2 p2 => ?_
    by_cases hr2 : r2 = .no
    · subst hr2
      exact ⟨w2, e2, rfl, s2, ((Po.bind_of p2).mono ((n1.trans nh).trans n2)).imp fun r3 e3 w3 n3 p3 => by cases r1 <;> exact False.elim p3⟩
    have raw1' := raw1.mono n2
    obtain ⟨w2h, nh2, hH2, hG2, had2, s2h, raw2, hO2⟩ := hide s2 er2 hr2
    have raw1'' := raw1'.mono nh2
    have hne : ∀ q, own? r2 v2 = some q → own? r1 v1 ≠ some q := fun q e e' => by
      have z1 := (own_raw raw1' e').1
      rw [own_ent er2 e] at z1
      cases z1
    rw [← hH2]
    refine goQ (((n1.trans nh).trans n2).trans nh2) s2h p2 fun r3 e3 v3 w3 q3 n3 s3 er3 p3 => ⟨v1, v2, v3, rfl, ?_⟩
    by_cases hr3 : r3 = .no
    · subst hr3
      cases r1 <;> first | exact absurd rfl hr1 | (cases r2 <;> first | exact absurd rfl hr2 | exact False.elim p3)
    have raw1a := raw1''.mono n3
    have raw2a := raw2.mono n3
    obtain ⟨w3h, nh3, hH3, hG3, had3, s3h, raw3, hO3⟩ := hide s3 er3 hr3
    have raw1b := raw1a.mono nh3
    have raw2b := raw2a.mono nh3
    have hne13 : ∀ q, own? r3 v3 = some q → own? r1 v1 ≠ some q := fun q e e' => by
      have z1 := (own_raw raw1a e').1
      rw [own_ent er3 e] at z1
      cases z1
    have hne23 : ∀ q, own? r3 v3 = some q → own? r2 v2 ≠ some q := fun q e e' => by
      have z1 := (own_raw raw2a e').1
      rw [own_ent er3 e] at z1
      cases z1
    have st4 := s3h.sto (i := i) raw1b
    have rw2 := raw2b.sto (i := i) (r' := r1) (v' := v1) hne
    have rw3 := raw3.sto (i := i) (r' := r1) (v' := v1) hne13
    have st5 := st4.sto (i := j) rw2
    have rw3' := rw3.sto (i := j) (r' := r2) (v' := v2) hne23
    have st6 := st5.sto (i := l) rw3'
    have nAll : Nx w w3h := ((((n1.trans nh).trans n2).trans nh2).trans n3).trans nh3
    have na : Nx w { w3h with O := stoO w3h.O i (own? r1 v1) } := sto_nx nAll (apart_of n1 er1)
    have nb : Nx w { w3h with O := stoO (stoO w3h.O i (own? r1 v1)) j (own? r2 v2) } := sto_nx (w := { w3h with O := stoO w3h.O i (own? r1 v1) }) na (apart_of ((n1.trans nh).trans n2) er2)
    have nc : Nx w { w3h with O := stoO (stoO (stoO w3h.O i (own? r1 v1)) j (own? r2 v2)) l (own? r3 v3) } := sto_nx (w := { w3h with O := stoO (stoO w3h.O i (own? r1 v1)) j (own? r2 v2) }) nb (apart_of ((((n1.trans nh).trans n2).trans nh2).trans n3) er3)
    have fin : Po κ W w (R.ok Fl.nx (((e3.set i r1).set j r2).set l r3)) (endS κ Dn) := by
      cases r1 <;> first | exact absurd rfl hr1 | (cases r2 <;> first | exact absurd rfl hr2 | (cases r3 <;> first | exact absurd rfl hr3 | exact p3))
    have q := fin _ nc _ st6
    rw [← hH3]
    exact q
end
end CO

/-! CoF: enumerate over a tuple, over a text. -/
namespace CO
open PySem PySem.Spec PyProof.Rows L2

set_option maxHeartbeats 4000000 in
theorem enum1_new {v : Value} {ob : Obj} {Hh : Heap → Prop} (B : Begins v ob Hh) :
    Meets (Builtin.«enumerate.__new__» ⟨[.type "enumerate", v], []⟩) (fun _ R s => Hh s.heap ∧
      R (.ok (.ret (.ref (s.heap.push ob).objs.size))) { s with heap := (s.heap.push ob).push { cls := .type "enumerate", data := .fields #[.none, .bool false, .ref s.heap.objs.size, rawInt 0, .none, .none] } }) :=
  .of_wp fun prog w A R s h => by
    obtain ⟨hp, g, d, tk, os⟩ := s
    obtain ⟨hh, h⟩ := h
    have hsub := sub_enumerate
    have go1 : ∀ {A1 : Around} {E1 : Value → Shared → Prop} {Q1 : Value → Shared → Prop}, Q1 (.ref hp.objs.size) ⟨hp.push ob, g, d, tk, os⟩ → wpAny (model prog w) A1 (pyIter v) Q1 E1 ⟨hp, g, d, tk, os⟩ := fun q => B.iter prog w _ _ ⟨hp, g, d, tk, os⟩ _ hh q
    wp_walk using go1
    refine wpAny_stack_any fun st => wpAny_pure ?_
    split
    · rename_i c _ _ _ _ _
      cases (c == Value.type "enumerate")
      all_goals (wp_walk using go1; exact ⟨_, rfl, h⟩)
    · wp_walk using go1
      exact ⟨_, rfl, h⟩
theorem enum1_call {prog : Program} {w : World} {A : Around} {E : Value → Shared → Prop} {s : Shared} {v : Value} {ob : Obj} {Hh : Heap → Prop} {Q : Value → Shared → Prop} (B : Begins v ob Hh) (hh : Hh s.heap)
    (k : ∀ h', IsEnum h' (s.heap.objs.size + 1) s.heap.objs.size 0 .none → h'.get? s.heap.objs.size = some ob → (∀ b o, s.heap.get? b = some o → h'.get? b = some o) → Q (.ref (s.heap.objs.size + 1)) { s with heap := h' }) :
    wpAny (model prog w) A (call (.type "enumerate") [v]) Q E s := by
  refine callType_new F.called_enumerate (by decide) (F.typeCall_enumerate_1 _) (F.newCall_enumerate_1 _) (fun z => F.args_object_init_2 z _) F.entry_enumerate_new (enum1_new B) ⟨hh, ?_⟩
  have sz : (s.heap.push ob).objs.size = s.heap.objs.size + 1 := Heap.size_push ..
  rw [sz]
  have isE : IsEnum ((s.heap.push ob).push { cls := .type "enumerate", data := .fields #[.none, .bool false, .ref s.heap.objs.size, rawInt 0, .none, .none] }) (s.heap.objs.size + 1) s.heap.objs.size 0 .none := by
    have z := Heap.get?_push_size (s.heap.push ob) (o := { cls := .type "enumerate", data := .fields #[.none, .bool false, .ref s.heap.objs.size, rawInt 0, .none, .none] }) rfl
    rw [sz] at z
    exact z
  exact ⟨⟨_, isE, rfl⟩, k _ isE (Heap.get?_push_of_some _ (Heap.get?_push_size _ B.free)) fun b o x => Heap.get?_push_of_some _ (Heap.get?_push_of_some _ x)⟩

/-- the tuple at a, each item in a new pair -/
def IteT (K : PySem.W.Frag) (a : Addr) : It where
  go i H := ∃ (xs : List V) (x : V), SqT K H a xs ∧ xs[i]? = some x
  yld i H v H' := ∃ T x, v = .ref T ∧ H T = none ∧ H' = upd H T (.tup [.int (i : Nat), x]) ∧ ∀ xs, SqT K H a xs → xs[i]? = some x
  stop i H := ∃ xs : List V, SqT K H a xs ∧ xs.length = i
def IteS (x : Str) : It where
  go i _ := i < x.cps.size
  yld i H v H' := ∃ T c, v = .ref T ∧ H T = none ∧ H' = upd H T (.tup [.int (i : Nat), .str ⟨#[c]⟩]) ∧ x.cps[i]? = some c
  stop i _ := i = x.cps.size
section
variable {P : Program} {w : World} {K : PySem.W.Frag} {elts : List Expr} {kk : Nat} {tpos : Pos}
theorem turn_enumT (a e it : Addr) : Turn P w K (.Tuple elts kk tpos) (IteT K a) [e, it] e (fun i h => (∃ old, IsEnum h e it ((i : Nat) : Int) old) ∧ h.IsTupleIter it a i ∧ e ≠ it ∧ a ≠ it ∧ a ≠ e) where
  mem := by simp
  obj := fun i h st b hb => by
    obtain ⟨⟨old, he⟩, ⟨o, ho, _, hd⟩, _⟩ := st
    rcases (by simpa using hb : b = e ∨ b = it) with z | z
    · subst z; exact ⟨_, he, fun v q => nomatch q⟩
    · subst z; exact ⟨o, ho, fun v q => by rw [hd] at q; cases q⟩
  keep := fun i h h' st k => by
    obtain ⟨⟨old, he⟩, hi, r⟩ := st
    exact ⟨⟨old, k e (by simp) _ he⟩, hi.at fun o q => k it (by simp) o q, r⟩
  item := by
    intro X hP hw hK hc i pins s σ H E I hf st hg
    subst hP hw hK
    obtain ⟨⟨old, he⟩, hit, hne, hai, hae⟩ := st
    obtain ⟨xs, x, hq, hx⟩ := hg
    obtain ⟨its, rv, p, _⟩ := I.tuple hq
    obtain ⟨u, hu, ru⟩ := rv.get hx
    have hel : e < s.heap.objs.size := Heap.lt_size he
    have hil : it < s.heap.objs.size := by obtain ⟨_, q, _⟩ := hit; exact Heap.lt_size q
    have hn : i < its.toArray.size := by
      have := (List.getElem?_eq_some_iff.mp hu).1
      simpa using this
    have Dr := Draws.tuple (prog := X.prog) (w := X.w) (A := X.A.in1) (I.ok.hd hc) it a hai its.toArray
    refine wpAny_pyNext_enum_itemD Dr he ⟨hit, p⟩ hn hne (by simp; exact ⟨hne, Ne.symm hae⟩) fun y h' tk hy ho hst' hT hsz hk => ?_
    have ey : y = u := by
      have q1 : its.toArray[i]? = some y := hy
      rw [List.getElem?_toArray, hu] at q1
      exact (Option.some.inj q1).symm
    subst ey
    refine ⟨_, rfl, wpAny_letOwnedTupleGo_enum (s := { s with heap := h', toks := tk + 1 }) ho fun h'' he' sb => ?_⟩
    have hT2 : h''.get? s.heap.objs.size = some { cls := .type "tuple", data := .seq #[.int i tk, y] } := (sb.2 _ (Nat.ne_of_gt hel)).trans hT
    have new : ObjOk X.prog X.w (upd H s.heap.objs.size (.tup [.int (i : Nat), x])) h'' s.heap.objs.size (.tup [.int (i : Nat), x]) := by
      refine ⟨?_, [.int i tk, y], .cons ⟨_, rfl⟩ (.cons ru .nil), ⟨_, hT2, rfl, _, rfl⟩⟩
      show 2 ≤ sizeLine; decide
    have I1 : Inv X pins σ (upd H s.heap.objs.size (.tup [.int (i : Nat), x])) { s with heap := h'', toks := tk + 1 } :=
      I.turnedNew (ch := [e, it]) (fun b ob hb q => by
        have n1 : b ≠ e := fun z => hb (by simp [z])
        have n2 : b ≠ it := fun z => hb (by simp [z])
        exact (sb.2 b n1).trans (hk b ob n1 n2 q)) hf (Nat.le_refl _) new
    refine ⟨.ref s.heap.objs.size, _, I1, rfl, ⟨_, x, rfl, I.hok.fresh (Nat.le_refl _), rfl, fun ys hy => by rw [I.tuple_inj hy hq]; exact hx⟩, ⟨⟨y, ?_⟩, hst'.1.at fun o q => (sb.2 it (Ne.symm hne)).trans q, hne, hai, hae⟩, fun b hb => ?_⟩
    · rw [show ((i + 1 : Nat) : Int) = (i : Int) + 1 by omega]
      exact he'
    · have lt : b < s.heap.objs.size := by
        rcases (by simpa using hb : b = e ∨ b = it) with z | z
        · rw [z]; exact hel
        · rw [z]; exact hil
      rw [upd_ne (Nat.ne_of_lt lt)]
      exact (hf b hb).1
  done := by
    intro X hP hw hK hc i pins s σ H E I hf st hg
    subst hP hw hK
    obtain ⟨⟨old, he⟩, hit, hne, hai, hae⟩ := st
    obtain ⟨xs, hq, hx⟩ := hg
    obtain ⟨its, rv, p, _⟩ := I.tuple hq
    obtain ⟨f0, f1, f2, f3, f4, f5⟩ := hf it (by simp)
    have hn : i = its.toArray.size := by
      have hl := rv.length
      simp; omega
    subst hn
    have Dr := Draws.tuple (prog := X.prog) (w := X.w) (A := X.A.in1) (I.ok.hd hc) it a hai its.toArray
    exact wpAny_pyNext_enum_endD Dr he ⟨hit, p⟩ fun h' eb => ⟨rfl, I.turned (t' := s.toks) (fun b o hb q => eb b o hb q) f0 f1 f3 f4 f5⟩
  self := fun A i s Q E st h => by
    obtain ⟨⟨_, he⟩, _⟩ := st
    exact wpAny_pyIter_enum he h
theorem turn_enumS (x : Str) (t : Tok) (e it : Addr) : Turn P w K (.Tuple elts kk tpos) (IteS x) [e, it] e (fun i h => (∃ old, IsEnum h e it ((i : Nat) : Int) old) ∧ h.IsStrIter it (strIterType x) x t i ∧ e ≠ it) where
  mem := by simp
  obj := fun i h st b hb => by
    obtain ⟨⟨old, he⟩, ⟨o, ho, _, hd⟩, _⟩ := st
    rcases (by simpa using hb : b = e ∨ b = it) with z | z
    · subst z; exact ⟨_, he, fun v q => nomatch q⟩
    · subst z; exact ⟨o, ho, fun v q => by rw [hd] at q; cases q⟩
  keep := fun i h h' st k => by
    obtain ⟨⟨old, he⟩, ⟨o, ho, r1⟩, r⟩ := st
    exact ⟨⟨old, k e (by simp) _ he⟩, ⟨o, k it (by simp) o ho, r1⟩, r⟩
  item := by
    intro X hP hw hK hc i pins s σ H E I hf st hg
    subst hP hw hK
    obtain ⟨⟨old, he⟩, hit, hne⟩ := st
    have hel : e < s.heap.objs.size := Heap.lt_size he
    have hil : it < s.heap.objs.size := by obtain ⟨_, q, _⟩ := hit; exact Heap.lt_size q
    have Dr := Draws.text (prog := X.prog) (w := X.w) (A := X.A.in1) (I.ok.hd hc) it x t
    refine wpAny_pyNext_enum_itemD Dr he hit hg hne (by simp; exact hne) fun y h' tk hy ho hst' hT hsz hk => ?_
    obtain ⟨c, u, hc1, rfl⟩ := hy
    refine ⟨_, rfl, wpAny_letOwnedTupleGo_enum (s := { s with heap := h', toks := tk + 1 }) ho fun h'' he' sb => ?_⟩
    have hT2 : h''.get? s.heap.objs.size = some { cls := .type "tuple", data := .seq #[.int i tk, .str ⟨#[c]⟩ u] } := (sb.2 _ (Nat.ne_of_gt hel)).trans hT
    have new : ObjOk X.prog X.w (upd H s.heap.objs.size (.tup [.int (i : Nat), .str ⟨#[c]⟩])) h'' s.heap.objs.size (.tup [.int (i : Nat), .str ⟨#[c]⟩]) := by
      refine ⟨?_, [.int i tk, .str ⟨#[c]⟩ u], .cons ⟨_, rfl⟩ (.cons ⟨_, rfl⟩ .nil), ⟨_, hT2, rfl, _, rfl⟩⟩
      show 2 ≤ sizeLine; decide
    have I1 : Inv X pins σ (upd H s.heap.objs.size (.tup [.int (i : Nat), .str ⟨#[c]⟩])) { s with heap := h'', toks := tk + 1 } :=
      I.turnedNew (ch := [e, it]) (fun b ob hb q => by
        have n1 : b ≠ e := fun z => hb (by simp [z])
        have n2 : b ≠ it := fun z => hb (by simp [z])
        exact (sb.2 b n1).trans (hk b ob n1 n2 q)) hf (Nat.le_refl _) new
    have hst2 : h'.IsStrIter it (strIterType x) x t (i + 1) := hst'
    refine ⟨.ref s.heap.objs.size, _, I1, rfl, ⟨_, c, rfl, I.hok.fresh (Nat.le_refl _), rfl, hc1⟩, ⟨⟨.str ⟨#[c]⟩ u, ?_⟩, ?_, hne⟩, fun b hb => ?_⟩
    · rw [show ((i + 1 : Nat) : Int) = (i : Int) + 1 by omega]
      exact he'
    · obtain ⟨o, ho2, r2⟩ := hst2
      exact ⟨o, (sb.2 it (Ne.symm hne)).trans ho2, r2⟩
    · have lt : b < s.heap.objs.size := by
        rcases (by simpa using hb : b = e ∨ b = it) with z | z
        · rw [z]; exact hel
        · rw [z]; exact hil
      rw [upd_ne (Nat.ne_of_lt lt)]
      exact (hf b hb).1
  done := by
    intro X hP hw hK hc i pins s σ H E I hf st hg
    subst hP hw hK
    obtain ⟨⟨old, he⟩, hit, hne⟩ := st
    obtain ⟨f0, f1, f2, f3, f4, f5⟩ := hf it (by simp)
    have hn : i = x.cps.size := hg
    subst hn
    have Dr := Draws.text (prog := X.prog) (w := X.w) (A := X.A.in1) (I.ok.hd hc) it x t
    exact wpAny_pyNext_enum_endD Dr he hit fun h' eb => ⟨rfl, I.turned (t' := s.toks) (fun b o hb q => eb b o hb q) f0 f1 f3 f4 f5⟩
  self := fun A i s Q E st h => by
    obtain ⟨⟨_, he⟩, _⟩ := st
    exact wpAny_pyIter_enum he h
end
def iEnumT (K : PySem.W.Frag) (ta : TA) : TI := fun σ H R => ta σ H fun vs H1 => ∃ a xs, vs = [.ref a] ∧ SqT K H1 a xs ∧ R (IteT K a) H1
def iEnumS (ta : TA) : TI := fun σ H R => ta σ H fun vs H1 => ∃ x, vs = [.str x] ∧ R (IteS x) H1
section
variable {X : Cx} {e : Expr} {ta : TA} {p pos tpos : Pos} {elts : List Expr} {kk : Nat}
theorem pi_enumT (hg : Gl X "enumerate") (hm : X.mg "enumerate" = none) (ha : PA X [e] ta) (hs : starEach [e] X.env = [(false, eval e X.env)] := by rfl) : PI X (.Tuple elts kk tpos) (.Call (.Name "enumerate" p) [e] [] pos) (iEnumT X.K ta) := by
  refine ⟨fun pins s σ H R I h => Call_ (ld_blt I hg hm boot_enumerate (PyProof.Rows.callWith_type1 (thn (ha.run pos pins s σ H _ I h) fun us s1 ⟨vs, H1, I1, r1, q1⟩ => ?_) hs rfl))⟩
  obtain ⟨a, xs, ex, hq, q⟩ := q1
  subst ex
  cases r1 with
  | cons r rr =>
    cases rr
    cases r
    obtain ⟨its, rv, p', hz⟩ := I1.tuple hq
    have la : a < s1.heap.objs.size := by obtain ⟨_, z, _⟩ := (show s1.heap.IsTuple a its.toArray from p'); exact Heap.lt_size z
    refine enum1_call (begins_tuple a its.toArray) p' fun h' he hit hk => wpAny_pyIter_enum he ?_
    have I2 : Inv X pins σ H1 { s1 with heap := h' } := I1.kept (t' := s1.toks) hk
    refine ⟨s1.heap.objs.size + 1, [s1.heap.objs.size + 1, s1.heap.objs.size], _, _, H1, rfl, I2, turn_enumT a (s1.heap.objs.size + 1) s1.heap.objs.size, ⟨⟨.none, he⟩, ⟨_, hit, rfl, rfl⟩, Nat.succ_ne_self _, Nat.ne_of_lt la, Nat.ne_of_lt (Nat.lt_succ_of_lt la)⟩, fun b hb => ?_, q⟩
    have le : s1.heap.objs.size ≤ b := by
      rcases (by simpa using hb : b = s1.heap.objs.size + 1 ∨ b = s1.heap.objs.size) with z | z
      · rw [z]; exact Nat.le_add_right _ _
      · rw [z]; exact Nat.le_refl _
    exact I1.fpOk le (I1.hok.fresh le)
theorem pi_enumS (hg : Gl X "enumerate") (hm : X.mg "enumerate" = none) (ha : PA X [e] ta) (hs : starEach [e] X.env = [(false, eval e X.env)] := by rfl) : PI X (.Tuple elts kk tpos) (.Call (.Name "enumerate" p) [e] [] pos) (iEnumS ta) := by
  refine ⟨fun pins s σ H R I h => Call_ (ld_blt I hg hm boot_enumerate (PyProof.Rows.callWith_type1 (thn (ha.run pos pins s σ H _ I h) fun us s1 ⟨vs, H1, I1, r1, q1⟩ => ?_) hs rfl))⟩
  obtain ⟨x, ex, q⟩ := q1
  subst ex
  cases r1 with
  | cons r rr =>
    cases rr
    obtain ⟨t, rfl⟩ := r
    refine enum1_call (begins_text x t) trivial fun h' he hit hk => wpAny_pyIter_enum he ?_
    have I2 : Inv X pins σ H1 { s1 with heap := h' } := I1.kept (t' := s1.toks) hk
    refine ⟨s1.heap.objs.size + 1, [s1.heap.objs.size + 1, s1.heap.objs.size], _, _, H1, rfl, I2, turn_enumS x t (s1.heap.objs.size + 1) s1.heap.objs.size, ⟨⟨.none, he⟩, ⟨_, hit, rfl, rfl⟩, Nat.succ_ne_self _⟩, fun b hb => ?_, q⟩
    have le : s1.heap.objs.size ≤ b := by
      rcases (by simpa using hb : b = s1.heap.objs.size + 1 ∨ b = s1.heap.objs.size) with z | z
      · rw [z]; exact Nat.le_add_right _ _
      · rw [z]; exact Nat.le_refl _
    exact I1.fpOk le (I1.hok.fresh le)
end
end CO

/-! CoG: what a loop walks, loops, comprehensions over the data layer. -/
namespace CO
open PySem PySem.Spec PyProof.Rows L2

/-- J yields ds, one by one -/
def ItD (κ : Kx) (J : It) (w : Sn) (ds : List D) : Prop := ∀ w2, Nx w w2 → Same w2.G w2.H →
  (∀ i d, ds[i]? = some d → J.go i w2.H ∧ ∀ x H', J.yld i w2.H x H' → ∃ w3, Nx w2 w3 ∧ w3.H = H' ∧ (∀ σ en, StR κ w2 σ en → StR κ w3 σ en) ∧ Dq w3.G x d) ∧ J.stop ds.length w2.H
def tIOf (κ : Kx) (W : WX) (mi : En → R (List D)) : TI := fun σ H R => ∃ w en, w.H = H ∧ StR κ w σ en ∧ Po κ W w (mi en) fun ds en' w' => ∀ J, ItD κ J w' ds → StR κ w' σ en' → R J w'.H
section
variable {X : Cx} {κ : Kx} {W : WX} {tg e : Expr} {w w0 : Sn} {σ : St} {en : En} {m : En → R Ent} {pos p : Pos}
theorem pi_imp {wi wi' : TI} (h : PI X tg e wi) (f : ∀ σ H R, wi' σ H R → wi σ H R) : PI X tg e wi' := ⟨fun pins s σ H R I hq => h.run pins s σ H R I (f σ H R hq)⟩
theorem pi_or {wi wi' : TI} (h : PI X tg e wi) (h' : PI X tg e wi') : PI X tg e (fun σ H R => wi σ H R ∨ wi' σ H R) := ⟨fun pins s σ H R I hq => hq.elim (h.run pins s σ H R I) (h'.run pins s σ H R I)⟩
/-- data on its way, with the part's equation and the wish where it stood -/
theorem goX {α : Type} {k : D → En → R α} {Q : α → En → Sn → Prop} {Q1 : VK} (n0 : Nx w0 w) (s : StR κ w σ en) (h : Po κ W w0 ((dv m en).bind k) Q)
    (hk : ∀ d en1 v w1, dv m en = .ok d en1 → Nx w w1 → StR κ w1 σ en1 → Dq w1.G v d → Po κ W w0 (k d en1) Q → Q1 v w1.H) : tOf κ W m σ w.H Q1 := by
  refine ⟨w, en, rfl, s, ?_⟩
  unfold dv at h hk
  cases e : m en with
  | ok r en1 =>
    rw [e] at h
    intro w1 n1 v s1 er
    have h' : Po κ W w0 ((toD r en1).bind k) Q := h
    cases e2 : toD r en1 with
    | ok d e3 =>
      rw [e2] at h'
      obtain ⟨rfl, w2, n2, hH, s2, dp⟩ := frz_r s1 er e2
      rw [← hH]
      refine hk d e3 v w2 ?_ (n1.trans n2) s2 dp h'
      rw [e]
      exact e2
    | ex c e3 => cases r <;> cases e2
    | st => rw [e2] at h'; exact h'.elim
  | ex c en1 =>
    rw [e] at h
    exact fun σ' w1 n1 s1 => h σ' w1 (n0.trans n1) s1
  | st =>
    rw [e] at h
    exact h
/-- the items of a sequence -/
def itemsOf : D → Option (List D)
  | .list ds => some ds
  | .tuple ds => some ds
  | .str x => some (x.cps.toList.map fun c => .str ⟨#[c]⟩)
  | _ => none
def iAll (m : En → R Ent) (en : En) : R (List D) := (dv m en).bind fun d e => match itemsOf d with | some ds => .ok ds e | none => .st
theorem itd_list {a : Addr} {xs : List V} {ds : List D} (hq : w.G a = some (.lst xs)) (hd : DqAll w.G xs ds) : ItD κ (Itl κ.K a) w ds := fun w2 n2 su => by
  have h2 : SqL κ.K w2.H a xs := SqL.of (su _ _ (n2.g _ _ hq))
  have d2 := dpa_mono n2.g _ _ hd
  refine ⟨fun i d e => ?_, xs, h2, Nat.le_of_eq (dpa_len hd)⟩
  obtain ⟨v, e1, e2⟩ := dpa_get d2 e
  refine ⟨⟨xs, v, h2, e1⟩, fun x H' y => ?_⟩
  obtain ⟨rfl, y⟩ := y
  have := y xs h2
  rw [e1] at this
  cases this
  exact ⟨w2, Nx.refl _, rfl, fun _ _ z => z, e2⟩
theorem itd_tup {a : Addr} {xs : List V} {ds : List D} (hq : w.G a = some (.tup xs)) (hd : DqAll w.G xs ds) : ItD κ (Itt κ.K a) w ds := fun w2 n2 su => by
  have h2 : SqT κ.K w2.H a xs := SqT.of (su _ _ (n2.g _ _ hq))
  have d2 := dpa_mono n2.g _ _ hd
  refine ⟨fun i d e => ?_, xs, h2, Nat.le_of_eq (dpa_len hd)⟩
  obtain ⟨v, e1, e2⟩ := dpa_get d2 e
  refine ⟨⟨xs, v, h2, e1⟩, fun x H' y => ?_⟩
  obtain ⟨rfl, y⟩ := y
  have := y xs h2
  rw [e1] at this
  cases this
  exact ⟨w2, Nx.refl _, rfl, fun _ _ z => z, e2⟩
theorem itd_str {x : Str} : ItD κ (Its x) w (x.cps.toList.map fun c => .str ⟨#[c]⟩) := fun w2 n2 su => by
  refine ⟨fun i d e => ?_, ?_⟩
  · rw [List.getElem?_map] at e
    cases q : x.cps.toList[i]? with
    | none => rw [q] at e; cases e
    | some c =>
      rw [q] at e
      cases e
      have q2 : x.cps[i]? = some c := by simpa using q
      refine ⟨(Array.getElem?_eq_some_iff.mp q2).1, fun v H' y => ?_⟩
      obtain ⟨rfl, c', y1, rfl⟩ := y
      rw [q2] at y1
      cases y1
      exact ⟨w2, Nx.refl _, rfl, fun _ _ z => z, .str _⟩
  · show x.cps.size ≤ _
    simp
/-- the kind of what is walked -/
theorem di_seq (hK : X.K = κ.K) (h : PE X e (tOf κ W m)) : PI X tg e (tIOf κ W (iAll m)) :=
  pi_imp (pi_or (pi_list h) (pi_or (pi_tup h) (pi_str h))) fun σ H Rj ⟨w, en, hw, s, p⟩ => by
    subst hw
    rw [hK]
    have key : ∀ (Q1 : VK), (∀ d en1 v w1, dv m en = .ok d en1 → Nx w w1 → StR κ w1 σ en1 → Dq w1.G v d → Po κ W w (match itemsOf d with | some ds => R.ok ds en1 | none => .st) (fun ds en' w' => ∀ J, ItD κ J w' ds → StR κ w' σ en' → Rj J w'.H) → Q1 v w1.H) → tOf κ W m σ w.H Q1 := fun Q1 hk => goX (Nx.refl _) s p hk
    cases hd : dv m en with
    | ok d e1 =>
      cases d with
      | list ds =>
        refine .inl (key _ fun d en1 v w1 e n1 s1 d1 p1 => ?_)
        rw [hd] at e
        cases e
        obtain ⟨a, xs, rfl, h1, h2⟩ := dp_list d1
        exact ⟨a, rfl, ⟨xs, SqL.of (s1.wo.su _ _ h1)⟩, p1 w1 n1 _ (itd_list h1 h2) s1⟩
      | tuple ds =>
        refine .inr (.inl (key _ fun d en1 v w1 e n1 s1 d1 p1 => ?_))
        rw [hd] at e
        cases e
        obtain ⟨a, xs, rfl, h1, h2⟩ := dp_tuple d1
        exact ⟨a, rfl, ⟨xs, SqT.of (s1.wo.su _ _ h1)⟩, p1 w1 n1 _ (itd_tup h1 h2) s1⟩
      | str x =>
        refine .inr (.inr (key _ fun d en1 v w1 e n1 s1 d1 p1 => ?_))
        rw [hd] at e
        cases e
        exact ⟨x, dp_str d1, p1 w1 n1 _ itd_str s1⟩
      | _ =>
        refine .inl (key _ fun d en1 v w1 e n1 s1 d1 p1 => ?_)
        rw [hd] at e
        cases e
        exact False.elim p1
    | ex c e1 =>
      refine .inl (key _ fun d en1 v w1 e n1 s1 d1 p1 => ?_)
      rw [hd] at e
      cases e
    | st =>
      refine .inl (key _ fun d en1 v w1 e n1 s1 d1 p1 => ?_)
      rw [hd] at e
      cases e
/-! ### range -/
def rangeL (lo : Int) (n : Nat) : List D := (List.range n).map fun i => .int (lo + (i : Nat))
theorem itd_range {lo : Int} {n : Nat} : ItD κ (Itr lo n) w (rangeL lo n) := fun w2 n2 su => by
  refine ⟨fun i d e => ?_, ?_⟩
  · have hi : i < n := by
      have := (List.getElem?_eq_some_iff.mp e).1
      simpa [rangeL] using this
    refine ⟨hi, fun v H' y => ?_⟩
    obtain ⟨rfl, rfl⟩ := y
    have e' : d = .int (lo + (i : Nat)) := by
      unfold rangeL at e
      rw [List.getElem?_map, List.getElem?_range hi] at e
      exact (Option.some.inj e).symm
    rw [e']
    exact ⟨w2, Nx.refl _, rfl, fun _ _ z => z, .int _⟩
  · show n ≤ _
    simp [rangeL]
def iR1 (m : En → R Ent) (en : En) : R (List D) := (dv m en).bind fun d e => match d with | .int n => if n ≤ 100000 ∧ -100000 ≤ n then .ok (rangeL 0 n.toNat) e else .st | _ => .st
def iR2 (m m' : En → R Ent) (en : En) : R (List D) := (dv m en).bind fun d e => (dv m' e).bind fun d' e' => match d, d' with
  | .int i, .int j => if i ≤ 100000 ∧ -100000 ≤ i ∧ j ≤ 100000 ∧ -100000 ≤ j then .ok (rangeL i (j - i).toNat) e' else .st | _, _ => .st
theorem di_range1 {a : Expr} (hm : X.mg "range" = none) (ha : PE X a (tOf κ W m)) (hg : Gl X "range" := by rfl) (hs : starEach [a] X.env = [(false, eval a X.env)] := by rfl) (hs' : starEach [a] X.env = (false, eval a X.env) :: starEach [] X.env := by rfl) :
    PI X tg (.Call (.Name "range" p) [a] [] pos) (tIOf κ W (iR1 m)) :=
  pi_imp (pi_range1 hg hm (pa_cons ha pa_nil hs') hs) fun σ H Rj ⟨w, en, hw, s, p⟩ => by
    subst hw
    refine goD s p fun d e1 v w1 n1 s1 d1 p1 => ?_
    cases d with
    | int n =>
      have p2 : Po κ W w1 (if n ≤ 100000 ∧ -100000 ≤ n then .ok (rangeL 0 n.toNat) e1 else .st) (fun ds en' w' => ∀ J, ItD κ J w' ds → StR κ w' σ en' → Rj J w'.H) := p1
      by_cases hl : n ≤ 100000 ∧ -100000 ≤ n
      · rw [if_pos hl] at p2
        refine ⟨n, by rw [dp_int d1], ?_, ?_, p2 w1 (Nx.refl _) _ itd_range s1⟩
        · have : (2:Int)^62 = 4611686018427387904 := by decide
          omega
        · have : (2:Int)^62 = 4611686018427387904 := by decide
          omega
      · rw [if_neg hl] at p2
        exact False.elim p2
    | _ => exact False.elim p1
theorem di_range2 {a b : Expr} {m' : En → R Ent} (hm : X.mg "range" = none) (ha : PE X a (tOf κ W m)) (hb : PE X b (tOf κ W m')) (hg : Gl X "range" := by rfl) (hs : starEach [a, b] X.env = [(false, eval a X.env), (false, eval b X.env)] := by rfl) (hs2 : starEach [b] X.env = [(false, eval b X.env)] := by rfl)
    (hs3 : starEach [a, b] X.env = (false, eval a X.env) :: starEach [b] X.env := by rfl) (hs4 : starEach [b] X.env = (false, eval b X.env) :: starEach [] X.env := by rfl) : PI X tg (.Call (.Name "range" p) [a, b] [] pos) (tIOf κ W (iR2 m m')) :=
  pi_imp (pi_range2 hg hm (pa_cons ha (pa_cons hb pa_nil hs4) hs3) hs hs2) fun σ H Rj ⟨w, en, hw, s, p⟩ => by
    subst hw
    unfold iRng2 tCons tNil
    refine goD s p fun d e1 v w1 n1 s1 d1 p1 => ?_
    refine goD s1 p1 fun d' e2 v' w2 n2 s2 d2 p2 => ?_
    cases d with
    | int i =>
      cases d' with
      | int j =>
        have p3 : Po κ W w2 (if i ≤ 100000 ∧ -100000 ≤ i ∧ j ≤ 100000 ∧ -100000 ≤ j then .ok (rangeL i (j - i).toNat) e2 else .st) (fun ds en' w' => ∀ J, ItD κ J w' ds → StR κ w' σ en' → Rj J w'.H) := p2
        by_cases hl : i ≤ 100000 ∧ -100000 ≤ i ∧ j ≤ 100000 ∧ -100000 ≤ j
        · rw [if_pos hl] at p3
          refine ⟨i, j, by rw [dp_int d1, dp_int d2], ?_, p3 w2 (Nx.refl _) _ itd_range s2⟩
          have : (2:Int)^62 = 4611686018427387904 := by decide
          omega
        · rw [if_neg hl] at p3
          exact False.elim p3
      | _ => exact False.elim p2
    | _ => exact False.elim p2
/-! ### enumerate, zip -/
def enumL : Nat → List D → List D
  | _, [] => []
  | i, d :: ds => .tuple [.int (i : Nat), d] :: enumL (i + 1) ds
theorem enumL_len : ∀ (k : Nat) (ds : List D), (enumL k ds).length = ds.length
  | _, [] => rfl
  | k, _ :: ds => by unfold enumL; rw [List.length_cons, List.length_cons, enumL_len (k + 1) ds]
theorem enumL_get : ∀ (k i : Nat) (ds : List D) (z : D), (enumL k ds)[i]? = some z → ∃ d, ds[i]? = some d ∧ z = .tuple [.int ((k + i : Nat)), d]
  | _, _, [], _, h => by unfold enumL at h; simp at h
  | k, 0, d :: ds, z, h => by
    unfold enumL at h
    simp at h
    exact ⟨d, rfl, h.symm⟩
  | k, i + 1, d :: ds, z, h => by
    unfold enumL at h
    rw [List.getElem?_cons_succ] at h
    obtain ⟨d', e1, e2⟩ := enumL_get (k + 1) i ds z h
    refine ⟨d', by rw [List.getElem?_cons_succ]; exact e1, ?_⟩
    rw [e2]
    congr 3
    omega
/-- a pair just made -/
theorem pair_ok {T : Addr} {x y : V} {a b : D} {w2 : Sn} (su : Same w2.G w2.H) (hT : w2.H T = none) (ha : Dq w2.G x a) (hb : Dq w2.G y b) :
    ∃ w3, Nx w2 w3 ∧ w3.H = upd w2.H T (.tup [x, y]) ∧ (∀ σ en, StR κ w2 σ en → StR κ w3 σ en) ∧ Dq w3.G (.ref T) (.tuple [a, b]) :=
  ⟨grow w2 T (.tup [x, y]), grow_nx su hT, rfl, fun _ _ s => s.grow hT, Dq.tup upd_same (dpa_mono (upG (su.free hT)) _ _ (.cons ha (.cons hb .nil)))⟩
theorem itd_enum {a : Addr} {xs : List V} {ds : List D} (hq : w.G a = some (.lst xs)) (hd : DqAll w.G xs ds) : ItD κ (Ite κ.K a) w (enumL 0 ds) := fun w2 n2 su => by
  have h2 : SqL κ.K w2.H a xs := SqL.of (su _ _ (n2.g _ _ hq))
  have d2 := dpa_mono n2.g _ _ hd
  refine ⟨fun i z e => ?_, xs, h2, by rw [enumL_len]; exact Nat.le_of_eq (dpa_len hd)⟩
  obtain ⟨d, e0, rfl⟩ := enumL_get 0 i ds z e
  obtain ⟨v, e1, e2⟩ := dpa_get d2 e0
  refine ⟨⟨xs, v, h2, e1⟩, fun x H' y => ?_⟩
  obtain ⟨T, x', rfl, hT, rfl, y⟩ := y
  have := y xs h2
  rw [e1] at this
  cases this
  rw [Nat.zero_add]
  exact pair_ok su hT (.int _) e2
theorem itd_enumT {a : Addr} {xs : List V} {ds : List D} (hq : w.G a = some (.tup xs)) (hd : DqAll w.G xs ds) : ItD κ (IteT κ.K a) w (enumL 0 ds) := fun w2 n2 su => by
  have h2 : SqT κ.K w2.H a xs := SqT.of (su _ _ (n2.g _ _ hq))
  have d2 := dpa_mono n2.g _ _ hd
  refine ⟨fun i z e => ?_, xs, h2, by rw [enumL_len]; exact dpa_len hd⟩
  obtain ⟨d, e0, rfl⟩ := enumL_get 0 i ds z e
  obtain ⟨v, e1, e2⟩ := dpa_get d2 e0
  refine ⟨⟨xs, v, h2, e1⟩, fun x H' y => ?_⟩
  obtain ⟨T, x', rfl, hT, rfl, y⟩ := y
  have := y xs h2
  rw [e1] at this
  cases this
  rw [Nat.zero_add]
  exact pair_ok su hT (.int _) e2
theorem itd_enumS {x : Str} : ItD κ (IteS x) w (enumL 0 (x.cps.toList.map fun c => .str ⟨#[c]⟩)) := fun w2 n2 su => by
  refine ⟨fun i z e => ?_, by rw [enumL_len]; show _ = x.cps.size; simp⟩
  obtain ⟨d, e0, rfl⟩ := enumL_get 0 i _ z e
  rw [List.getElem?_map] at e0
  cases q : x.cps.toList[i]? with
  | none => rw [q] at e0; cases e0
  | some c =>
    rw [q] at e0
    cases e0
    have q2 : x.cps[i]? = some c := by simpa using q
    refine ⟨(Array.getElem?_eq_some_iff.mp q2).1, fun v H' y => ?_⟩
    obtain ⟨T, c', rfl, hT, rfl, y⟩ := y
    rw [q2] at y
    cases y
    rw [Nat.zero_add]
    exact pair_ok su hT (.int _) (.str _)
def iEn (m : En → R Ent) (en : En) : R (List D) := (dv m en).bind fun d e => match itemsOf d with | some ds => .ok (enumL 0 ds) e | none => .st
theorem di_enum {elts : List Expr} {kk : Nat} {tpos : Pos} (hK : X.K = κ.K) (hm : X.mg "enumerate" = none) (h : PE X e (tOf κ W m)) (hg : Gl X "enumerate" := by rfl) (hs : starEach [e] X.env = [(false, eval e X.env)] := by rfl) (hs' : starEach [e] X.env = (false, eval e X.env) :: starEach [] X.env := by rfl) :
    PI X (.Tuple elts kk tpos) (.Call (.Name "enumerate" p) [e] [] pos) (tIOf κ W (iEn m)) :=
  pi_imp (pi_or (pi_enum hg hm (pa_cons h pa_nil hs') hs) (pi_or (pi_enumT hg hm (pa_cons h pa_nil hs') hs) (pi_enumS hg hm (pa_cons h pa_nil hs') hs))) fun σ H Rj ⟨w, en, hw, s, p⟩ => by
    subst hw
    rw [hK]
    have key : ∀ (Q1 : VK), (∀ d en1 v w1, dv m en = .ok d en1 → Nx w w1 → StR κ w1 σ en1 → Dq w1.G v d → Po κ W w (match itemsOf d with | some ds => R.ok (enumL 0 ds) en1 | none => .st) (fun ds en' w' => ∀ J, ItD κ J w' ds → StR κ w' σ en' → Rj J w'.H) → Q1 v w1.H) → tOf κ W m σ w.H Q1 := fun Q1 hk => goX (Nx.refl _) s p hk
    cases hd : dv m en with
    | ok d e1 =>
      cases d with
      | list ds =>
        refine .inl (key _ fun d en1 v w1 e n1 s1 d1 p1 => ?_)
        rw [hd] at e
        cases e
        obtain ⟨a, xs, rfl, h1, h2⟩ := dp_list d1
        exact ⟨a, xs, rfl, SqL.of (s1.wo.su _ _ h1), p1 w1 n1 _ (itd_enum h1 h2) s1⟩
      | tuple ds =>
        refine .inr (.inl (key _ fun d en1 v w1 e n1 s1 d1 p1 => ?_))
        rw [hd] at e
        cases e
        obtain ⟨a, xs, rfl, h1, h2⟩ := dp_tuple d1
        exact ⟨a, xs, rfl, SqT.of (s1.wo.su _ _ h1), p1 w1 n1 _ (itd_enumT h1 h2) s1⟩
      | str x =>
        refine .inr (.inr (key _ fun d en1 v w1 e n1 s1 d1 p1 => ?_))
        rw [hd] at e
        cases e
        exact ⟨x, by rw [dp_str d1], p1 w1 n1 _ itd_enumS s1⟩
      | _ =>
        refine .inl (key _ fun d en1 v w1 e n1 s1 d1 p1 => ?_)
        rw [hd] at e
        cases e
        exact False.elim p1
    | ex c e1 =>
      refine .inl (key _ fun d en1 v w1 e n1 s1 d1 p1 => ?_)
      rw [hd] at e
      cases e
    | st =>
      refine .inl (key _ fun d en1 v w1 e n1 s1 d1 p1 => ?_)
      rw [hd] at e
      cases e
def zipL : List D → List D → List D
  | a :: as, b :: bs => .tuple [a, b] :: zipL as bs
  | _, _ => []
theorem zipL_get : ∀ (i : Nat) (as bs : List D) (z : D), (zipL as bs)[i]? = some z → ∃ a b, as[i]? = some a ∧ bs[i]? = some b ∧ z = .tuple [a, b]
  | 0, a :: as, b :: bs, z, h => ⟨a, b, rfl, rfl, by unfold zipL at h; simpa using h.symm⟩
  | i + 1, a :: as, b :: bs, z, h => by
    unfold zipL at h
    rw [List.getElem?_cons_succ] at h
    simpa using zipL_get i as bs z h
  | _, [], _, z, h => by unfold zipL at h; simp at h
  | _, _ :: _, [], z, h => by unfold zipL at h; simp at h
theorem zipL_len : ∀ (as bs : List D), as.length ≤ (zipL as bs).length ∨ bs.length ≤ (zipL as bs).length
  | a :: as, b :: bs => by
    unfold zipL
    rcases zipL_len as bs with h | h
    · exact .inl (Nat.succ_le_succ h)
    · exact .inr (Nat.succ_le_succ h)
  | [], _ => .inl (Nat.zero_le _)
  | _ :: _, [] => .inr (Nat.zero_le _)
theorem itd_zipT {a b : Addr} {xs ys : List V} {ds es : List D} (hq : w.G a = some (.tup xs)) (hd : DqAll w.G xs ds) (hq' : w.G b = some (.tup ys)) (hd' : DqAll w.G ys es) : ItD κ (RZ.ItzT κ.K a b) w (zipL ds es) := fun w2 n2 su => by
  have h2 : SqT κ.K w2.H a xs := SqT.of (su _ _ (n2.g _ _ hq))
  have h3 : SqT κ.K w2.H b ys := SqT.of (su _ _ (n2.g _ _ hq'))
  have d2 := dpa_mono n2.g _ _ hd
  have d3 := dpa_mono n2.g _ _ hd'
  refine ⟨fun i z e => ?_, xs, ys, h2, h3, by rw [dpa_len hd, dpa_len hd']; exact zipL_len ds es⟩
  obtain ⟨x, y, e0, f0, rfl⟩ := zipL_get i ds es z e
  obtain ⟨v, e1, e2⟩ := dpa_get d2 e0
  obtain ⟨u, f1, f2⟩ := dpa_get d3 f0
  refine ⟨⟨xs, ys, v, u, h2, h3, e1, f1⟩, fun x H' y => ?_⟩
  obtain ⟨T, x', y', rfl, hT, rfl, z1, z2⟩ := y
  have a1 := z1 xs h2
  have a2 := z2 ys h3
  rw [e1] at a1
  rw [f1] at a2
  cases a1
  cases a2
  exact pair_ok su hT e2 f2
def iZp (m m' : En → R Ent) (en : En) : R (List D) := (dv m en).bind fun d e => (dv m' e).bind fun d' e' => match d, d' with
  | .tuple xs, .tuple ys => .ok (zipL xs ys) e' | _, _ => .st
theorem di_zip {e2 : Expr} {m' : En → R Ent} {elts : List Expr} {kk : Nat} {tpos : Pos} (hK : X.K = κ.K) (hm : X.mg "zip" = none) (h : PE X e (tOf κ W m)) (h' : PE X e2 (tOf κ W m')) (hg : Gl X "zip" := by rfl) (hs : starEach [e, e2] X.env = (false, eval e X.env) :: starEach [e2] X.env := by rfl)
    (hs' : starEach [e2] X.env = (false, eval e2 X.env) :: starEach [] X.env := by rfl) (hpl : (backTo pos (starEach [e2] X.env)).any (·.1) = false := by rfl) : PI X (.Tuple elts kk tpos) (.Call (.Name "zip" p) [e, e2] [] pos) (tIOf κ W (iZp m m')) :=
  pi_imp (RZ.pi_zipA hg hm (pa_cons h (pa_cons h' pa_nil hs') hs) hs hpl) fun σ H Rj ⟨w, en, hw, s, p⟩ => by
    subst hw
    unfold RZ.iZipA tCons tNil
    refine goD s p fun d e1 v w1 n1 s1 d1 p1 => ?_
    refine goD s1 p1 fun d' e2 v' w2 n2 s2 d2 p2 => ?_
    cases d with
    | tuple xs =>
      cases d' with
      | tuple ys =>
        obtain ⟨a, vs, rfl, h1, h2⟩ := dp_tuple (dp_mono n2.g _ _ d1)
        obtain ⟨b, us, rfl, h3, h4⟩ := dp_tuple d2
        refine ⟨a, b, vs, us, rfl, .inr ⟨SqT.of (s2.wo.su _ _ h1), SqT.of (s2.wo.su _ _ h3), ?_⟩⟩
        rw [hK]
        exact p2 w2 (Nx.refl _) _ (itd_zipT h1 h2 h3 h4) s2
      | _ => exact False.elim p2
    | _ => exact False.elim p2
end

/-! ### for -/
def forGo (g : Ent → En → R Unit) (b : En → R Fl) : List D → En → R Fl
  | [], e => .ok .nx e
  | d :: ds, e => (g (.sh d) e).bind fun _ e1 => (b e1).bind fun f e2 => match f with
    | .nx => forGo g b ds e2
    | .ct => forGo g b ds e2
    | .bk => .ok .nx e2
    | .rt r => .ok (.rt r) e2
def sFor (mi : En → R (List D)) (g : Ent → En → R Unit) (b : En → R Fl) (en : En) : R Fl := (mi en).bind fun ds e => forGo g b ds e
def whileGo (t : En → R Bool) (b : En → R Fl) : Nat → En → R Fl
  | 0, _ => .st
  | n + 1, e => (t e).bind fun k e1 => if k = true then (b e1).bind fun f e2 => match f with
    | .nx => whileGo t b n e2
    | .ct => whileGo t b n e2
    | .bk => .ok .nx e2
    | .rt r => .ok (.rt r) e2
    else .ok .nx e1
def sWhile (t : En → R Bool) (b : En → R Fl) (en : En) : R Fl := whileGo t b 100000 en
section
variable {X : Cx} {κ : Kx} {W : WX} {tg iter : Expr} {body : List Stmt} {pos : Pos} {mi : En → R (List D)} {g : Ent → En → R Unit} {b : En → R Fl} {t : En → R Bool}
theorem ds_for {is : List Nat} (hp : PassesOwn (model X.prog X.w) X.A X.env X.xe) (hc : X.calm = true) (hi : PI X tg iter (tIOf κ W mi)) (hg : PG X tg (tGv κ W g is)) (hb : PSs X body (tSOf κ W b)) (hs : ∀ x, foldedSetIterable iter X.env x = pure x := by intro _; rfl) :
    PS X (.For tg iter body [] pos) (tSOf κ W (sFor mi g b)) :=
  ps_imp (ps_for hp hc hi (dg_of hg) hb hs) fun Dn σ H ⟨w, en, hw, s, p⟩ => by
    subst hw
    refine ⟨w, en, rfl, s, (Po.bind_of (f := fun ds e => forGo g b ds e) p).imp fun ds e1 w1 n1 p1 J hJ s1 => ?_⟩
    refine ⟨fun i n σ' H' => n = ds.length - i ∧ i ≤ ds.length ∧ ∃ w e, w.H = H' ∧ Nx w1 w ∧ StR κ w σ' e ∧ Po κ W w (forGo g b (ds.drop i) e) (endS κ Dn), ⟨_, rfl, Nat.zero_le _, w1, e1, rfl, Nx.refl _, s1, p1⟩, ?_⟩
    rintro i n σ' H' ⟨rfl, hi, w2, e2, rfl, n2, s2, p2⟩
    obtain ⟨hgo, hst⟩ := hJ w2 n2 s2.wo.su
    by_cases hlt : i < ds.length
    · obtain ⟨h1, h2⟩ := hgo i ds[i] (List.getElem?_eq_getElem hlt)
      refine .inr ⟨h1, fun σ3 H3 => ∃ w e, w.H = H3 ∧ Nx w1 w ∧ StR κ w σ3 e ∧ Po κ W w (forGo g b (ds.drop (i + 1)) e) (endS κ Dn), fun σ3 H3 q => ⟨ds.length - (i + 1), by omega, rfl, hlt, q⟩, fun x H3 hy => ?_⟩
      obtain ⟨w3, n3, rfl, st3, d3⟩ := h2 x H3 hy
      rw [List.drop_eq_getElem_cons hlt] at p2
      have p3 : Po κ W w3 ((g (.sh ds[i]) e2).bind fun _ e3 => (b e3).bind fun f e4 => match f with | .nx => forGo g b (ds.drop (i + 1)) e4 | .ct => forGo g b (ds.drop (i + 1)) e4 | .bk => R.ok Fl.nx e4 | .rt r => R.ok (Fl.rt r) e4) (endS κ Dn) := p2.mono n3
      refine ⟨w3, e2, .sh ds[i], rfl, st3 _ _ s2, d3, (Po.bind_of p3).imp fun _ e4 w4 n4 p4 σ4 s4 => ⟨w4, e4, rfl, s4, (Po.bind_of p4).imp fun f e5 w5 n5 p5 => ?_⟩⟩
      have nn := ((n2.trans n3).trans n4).trans n5
      cases f with
      | nx => exact fun σ5 s5 => ⟨w5, e5, rfl, nn, s5, p5⟩
      | ct => exact fun σ5 s5 => ⟨w5, e5, rfl, nn, s5, p5⟩
      | bk => exact p5 w5 (Nx.refl _)
      | rt r => exact p5 w5 (Nx.refl _)
    · have e : i = ds.length := by omega
      subst e
      rw [List.drop_length] at p2
      exact .inl ⟨hst, p2 w2 (Nx.refl _) _ s2⟩
theorem ds_while {c : Expr} (hp : PassesOwn (model X.prog X.w) X.A X.env X.xe) (hc : PT X c (tTOf κ W t)) (hb : PSs X body (tSOf κ W b)) : PS X (.While c body [] pos) (tSOf κ W (sWhile t b)) :=
  ps_imp (ps_while hp hc hb) fun Dn σ H ⟨w, en, hw, s, p⟩ => by
    subst hw
    refine ⟨fun n σ' H' => ∃ w e, w.H = H' ∧ StR κ w σ' e ∧ Po κ W w (whileGo t b n e) (endS κ Dn), ⟨_, w, en, rfl, s, p⟩, ?_⟩
    rintro n σ' H' ⟨w1, e1, rfl, s1, p1⟩
    cases n with
    | zero => exact False.elim p1
    | succ n =>
      refine ⟨w1, e1, rfl, s1, (Po.bind_of (show Po κ W w1 ((t e1).bind _) _ from p1)).imp fun k e2 w2 n2 p2 s2 => ?_⟩
      cases k with
      | true =>
        rw [if_pos rfl] at p2 ⊢
        refine ⟨fun σ3 H3 => ∃ w e, w.H = H3 ∧ StR κ w σ3 e ∧ Po κ W w (whileGo t b n e) (endS κ Dn), fun σ3 H3 q => ⟨n, Nat.lt_succ_self n, q⟩, w2, e2, rfl, s2, (Po.bind_of p2).imp fun f e3 w3 n3 p3 => ?_⟩
        cases f with
        | nx => exact fun σ5 s5 => ⟨w3, e3, rfl, s5, p3⟩
        | ct => exact fun σ5 s5 => ⟨w3, e3, rfl, s5, p3⟩
        | bk => exact p3 w3 (Nx.refl _)
        | rt r => exact p3 w3 (Nx.refl _)
      | false =>
        rw [if_neg Bool.false_ne_true] at p2 ⊢
        exact p2 w2 (Nx.refl _) _ s2
end
end CO

/-! CoH: comprehensions over the data layer. -/
namespace CO
open PySem PySem.Spec PyProof.Rows L2

/-- within a block: nothing is raised -/
abbrev NoW : WX := fun _ _ _ _ => False
def noEx {α : Type} (x : R α) : R α := match x with | .ok a e => .ok a e | _ => .st
def wipeE (e : En) : List Nat → En
  | [] => e
  | v :: vs => (wipeE e vs).set v .no
/-- what a name keeps through a block of the same name -/
def keepE : Ent → Ent
  | .sh d => .sh d
  | .wr j => .wr j
  | .sc ns => .sc ns
  | _ => .no
def restE (e : En) (e0 : En) : List Nat → En
  | [] => e
  | v :: vs => (restE e e0 vs).set v (keepE (e0.get v))
def compGo (g : Ent → En → R Unit) (t : En → R Bool) (m : En → R Ent) (vs : List Nat) : List D → En → List D → R (List D)
  | [], e, acc => .ok acc e
  | d :: ds, e, acc => if acc.length < lim then (noEx (g (.sh d) (wipeE e vs))).bind fun _ e1 => (noEx (t e1)).bind fun b e2 =>
      if b = true then (noEx (dv m e2)).bind fun x e3 => compGo g t m vs ds e3 (acc ++ [x]) else compGo g t m vs ds e2 acc
    else .st
def eLc (mi : En → R (List D)) (g : Ent → En → R Unit) (t : En → R Bool) (m : En → R Ent) (vs : List Nat) (en : En) : R Ent :=
  (mi en).bind fun ds e => (compGo g t m vs ds e []).bind fun acc e' => .ok (.ow acc) (restE (wipeE e' vs) e vs)
def tYesM (en : En) : R Bool := .ok true en
section
variable {X : Cx} {κ : Kx} {W : WX} {w w0 : Sn} {σ : St} {en : En} {m : En → R Ent} {t : En → R Bool}
theorem dpts_nil : PTs X [] (tTOf κ W tYesM) := by
  refine ⟨fun pins s σ H Q I h => pts_nil.run pins s σ H Q I ?_⟩
  obtain ⟨w, en, hw, st, p⟩ := h
  subst hw
  exact p w (Nx.refl _) st
theorem dpts_one {c : Expr} (h : PT X c (tTOf κ W t)) : PTs X [c] (tTOf κ W t) := pts_one h
theorem wipeE_get {e : En} : ∀ {vs : List Nat} {i : Nat}, (i ∈ vs → (wipeE e vs).get i = .no) ∧ (i ∉ vs → (wipeE e vs).get i = e.get i)
  | [], i => And.intro (fun h => absurd h (by simp)) (fun _ => rfl)
  | v :: vs, i => by
    obtain ⟨ih1, ih2⟩ := wipeE_get (e := e) (vs := vs) (i := i)
    unfold wipeE
    by_cases hv : v = i
    · subst hv
      refine ⟨fun _ => ?_, fun h => absurd List.mem_cons_self h⟩
      rcases get_set_same (en := wipeE e vs) (i := v) (e := .no) with z | z <;> exact z
    · rw [get_set_ne hv]
      refine ⟨fun h => ih1 ((List.mem_cons.mp h).resolve_left (Ne.symm hv)), fun h => ih2 fun z => h (List.mem_cons_of_mem _ z)⟩
theorem wipeE_wd (e : En) : ∀ vs : List Nat, (wipeE e vs).wd = e.wd
  | [] => rfl
  | v :: vs => wipeE_wd e vs
theorem wipeE_len (e : En) : ∀ vs : List Nat, (wipeE e vs).sl.length = e.sl.length
  | [] => rfl
  | v :: vs => by
    show ((wipeE e vs).sl.set v .no).length = _
    rw [List.length_set, wipeE_len e vs]
theorem restE_wd (e e0 : En) : ∀ vs : List Nat, (restE e e0 vs).wd = e.wd
  | [] => rfl
  | v :: vs => restE_wd e e0 vs
theorem restE_len (e e0 : En) : ∀ vs : List Nat, (restE e e0 vs).sl.length = e.sl.length
  | [] => rfl
  | v :: vs => by
    show ((restE e e0 vs).sl.set v _).length = _
    rw [List.length_set, restE_len e e0 vs]
theorem restE_get {e e0 : En} : ∀ {vs : List Nat} {i : Nat}, (i ∈ vs → (restE e e0 vs).get i = keepE (e0.get i) ∨ (restE e e0 vs).get i = .no) ∧ (i ∉ vs → (restE e e0 vs).get i = e.get i)
  | [], i => And.intro (fun h => absurd h (by simp)) (fun _ => rfl)
  | v :: vs, i => by
    obtain ⟨ih1, ih2⟩ := restE_get (e := e) (e0 := e0) (vs := vs) (i := i)
    unfold restE
    by_cases hv : v = i
    · subst hv
      exact ⟨fun _ => get_set_same, fun h => absurd List.mem_cons_self h⟩
    · rw [get_set_ne hv]
      refine ⟨fun h => ih1 ((List.mem_cons.mp h).resolve_left (Ne.symm hv)), fun h => ih2 fun z => h (List.mem_cons_of_mem _ z)⟩
theorem gd_wipe {σ : St} {vs : List Nat} {i : Nat} (h : i ∉ vs) : (wipe σ vs).getD i none = σ.getD i none := by
  rw [List.getD_eq_getElem?_getD, List.getD_eq_getElem?_getD, wipe_out h]
theorem wipe_idem {σ : St} : ∀ {vs : List Nat} {i : Nat}, i ∈ vs → (wipe σ vs).getD i none = none
  | v :: vs, i, h => by
    unfold wipe
    by_cases hv : v = i
    · subst hv
      by_cases hl : v < (wipe σ vs).length
      · exact gd_same hl
      · rw [List.getD_eq_getElem?_getD, List.getElem?_eq_none (by rw [List.length_set]; omega)]; rfl
    · rw [gd_ne hv]
      exact wipe_idem ((List.mem_cons.mp h).resolve_left (Ne.symm hv))
theorem StR.wip {vs : List Nat} (s : StR κ w σ en) : StR κ w (L2.wipe σ vs) (wipeE en vs) := by
  refine ⟨by rw [wipeE_wd]; exact s.wo, by rw [wipeE_len, wipe_length]; exact s.ln, fun i => ?_⟩
  by_cases hi : i ∈ vs
  · exact .inl (wipeE_get.1 hi)
  · rw [wipeE_get.2 hi, gd_wipe hi]
    exact s.sl i
/-- a block's state seen from any state alike but in the block's names -/
theorem StR.rewipe {σ2 : St} {vs : List Nat} (s : StR κ w σ2 en) (h : L2.wipe σ2 vs = L2.wipe σ vs) : StR κ w (L2.wipe σ vs) (wipeE en vs) := by
  rw [← h]
  exact s.wip
theorem keepE_ent {v : V} {ix : Ix} {r : Ent} {w' : Sn} (h : EntR κ w ix v r) (n : Nx w w') : EntR κ w' ix v (keepE r) := by
  cases r with
  | no => trivial
  | sh d => exact dp_mono n.g _ _ h
  | ow ds => trivial
  | dk kvs => trivial
  | wr j =>
    obtain ⟨p, h1, h2⟩ := h
    exact ⟨p, h1, n.ad h2⟩
  | sc =>
    obtain ⟨a, h1, h2⟩ := h
    exact ⟨a, h1, n.g.seq h2⟩
theorem StR.rest {w' : Sn} {e0 : En} {vs : List Nat} (s0 : StR κ w σ e0) (n : Nx w w') (s : StR κ w' (L2.wipe σ vs) en) : StR κ w' σ (restE en e0 vs) := by
  refine ⟨by rw [restE_wd]; exact s.wo, by rw [restE_len, s.ln, wipe_length], fun i => ?_⟩
  by_cases hi : i ∈ vs
  · rcases (restE_get (e := en) (e0 := e0) (vs := vs) (i := i)).1 hi with z | z
    · rw [z]
      rcases s0.sl i with q | ⟨v, q1, q2⟩
      · rw [q]; exact .inl rfl
      · exact .inr ⟨v, q1, keepE_ent q2 n⟩
    · exact .inl z
  · rw [restE_get.2 hi, ← gd_wipe (σ := σ) hi]
    exact s.sl i
/-- an object that nobody owns, not of the heap that stays, may turn -/
theorem EntR.updFree {p : Addr} {o : HO} {ix : Ix} {v : V} {r : Ent} (hO : w.O p = none) (h : EntR κ w ix v r) : EntR κ { w with H := upd w.H p o } ix v r := by
  have ne : ∀ {q : Addr} {jx : Ix}, w.O q = some jx → q ≠ p := fun e z => by rw [z, hO] at e; cases e
  cases r with
  | no => trivial
  | sh d => exact h
  | ow ds =>
    obtain ⟨q, ys, e1, e2, e3, e4⟩ := h
    exact ⟨q, ys, e1, e2, (upd_ne (ne e2)).trans e3, e4⟩
  | dk kvs =>
    obtain ⟨q, ys, e1, e2, e3, e4⟩ := h
    exact ⟨q, ys, e1, e2, (upd_ne (ne e2)).trans e3, e4⟩
  | wr j => exact h
  | sc => exact h
theorem StR.updFree {p : Addr} {o : HO} (s : StR κ w σ en) (hO : w.O p = none) (hG : w.G p = none) : StR κ { w with H := upd w.H p o } σ en := by
  have ne : ∀ {q : Addr} {jx : Ix}, w.O q = some jx → q ≠ p := fun e z => by rw [z, hO] at e; cases e
  refine ⟨⟨s.wo.fr, fun b u e => ?_, s.wo.wl, fun j ob q e1 e2 => ?_⟩, s.ln, fun i => ?_⟩
  · have e' : w.G b = some u := e
    have nb : b ≠ p := fun z => by rw [z, hG] at e'; cases e'
    exact (upd_ne nb).trans (s.wo.su b u e')
  · have x := s.wo.wd j ob q e1 e2
    cases ob with
    | tn k => exact ⟨x.1, (upd_ne (ne x.1)).trans x.2⟩
    | tb g rows kept =>
      obtain ⟨dx, l, vg, rs, a1, a2, a3, a4, a5, a6, a7, a8⟩ := x
      exact ⟨dx, l, vg, rs, a1, a2, a3, (upd_ne (ne a1)).trans a4, (upd_ne (ne a2)).trans a5, (upd_ne (ne a3)).trans a6, a7, a8⟩
  · rcases s.sl i with q | ⟨v, q1, q2⟩
    · exact .inl q
    · exact .inr ⟨v, q1, q2.updFree hO⟩
/-- it becomes the result's -/
theorem EntR.own {p : Addr} {ix jx : Ix} {v : V} {r : Ent} (hO : w.O p = none) (h : EntR κ w ix v r) : EntR κ { w with O := fun b => if b = p then some jx else w.O b } ix v r := by
  have ne : ∀ {q : Addr} {kx : Ix}, w.O q = some kx → q ≠ p := fun e z => by rw [z, hO] at e; cases e
  cases r with
  | no => trivial
  | sh d => exact h
  | ow ds =>
    obtain ⟨q, ys, e1, e2, e3, e4⟩ := h
    exact ⟨q, ys, e1, (if_neg (ne e2)).trans e2, e3, e4⟩
  | dk kvs =>
    obtain ⟨q, ys, e1, e2, e3, e4⟩ := h
    exact ⟨q, ys, e1, (if_neg (ne e2)).trans e2, e3, e4⟩
  | wr j => exact h
  | sc => exact h
theorem StR.own {p : Addr} {jx : Ix} (s : StR κ w σ en) (hO : w.O p = none) (hG : w.G p = none) : StR κ { w with O := fun b => if b = p then some jx else w.O b } σ en := by
  have ne : ∀ {q : Addr} {kx : Ix}, w.O q = some kx → q ≠ p := fun e z => by rw [z, hO] at e; cases e
  have up : ∀ {q : Addr} {kx : Ix}, w.O q = some kx → (if q = p then some jx else w.O q) = some kx := fun e => (if_neg (ne e)).trans e
  refine ⟨⟨fun q i e => ?_, s.wo.su, s.wo.wl, fun j ob q e1 e2 => ?_⟩, s.ln, fun i => ?_⟩
  · by_cases z : q = p
    · rw [z]; exact hG
    · have e' : (if q = p then some jx else w.O q) = some i := e
      rw [if_neg z] at e'
      exact s.wo.fr q i e'
  · have x := s.wo.wd j ob q e1 e2
    cases ob with
    | tn k => exact ⟨up x.1, x.2⟩
    | tb g rows kept =>
      obtain ⟨dx, l, vg, rs, a1, a2, a3, a4, a5, a6, a7, a8⟩ := x
      exact ⟨dx, l, vg, rs, up a1, up a2, up a3, a4, a5, a6, a7, a8⟩
  · rcases s.sl i with q | ⟨v, q1, q2⟩
    · exact .inl q
    · exact .inr ⟨v, q1, q2.own hO⟩
/-! the end's wish stays where it stood -/
theorem bind_assoc {α β γ : Type} {x : R α} {f : α → En → R β} {k : β → En → R γ} : (x.bind f).bind k = x.bind fun a e => (f a e).bind k := by
  cases x <;> rfl
theorem wipe_wipe {σ : St} {vs : List Nat} : L2.wipe (L2.wipe σ vs) vs = L2.wipe σ vs := by
  apply List.ext_getElem?
  intro k
  by_cases hk : k ∈ vs
  · rw [wipe_in hk, wipe_in hk, wipe_length]
  · rw [wipe_out hk]
theorem no_bind {α β : Type} {x : R α} {f : α → En → R β} {Q : β → En → Sn → Prop} (h : Po κ W w0 ((noEx x).bind f) Q) : ∃ a e, x = .ok a e ∧ Po κ W w0 (f a e) Q := by
  cases x with
  | ok a e => exact ⟨a, e, rfl, h⟩
  | ex c e => exact False.elim h
  | st => exact False.elim h
theorem po_of {α : Type} {x : R α} {a : α} {e : En} {Q : α → En → Sn → Prop} (h : x = .ok a e) (q : ∀ w', Nx w w' → Q a e w') : Po κ W w x Q := by
  rw [h]
  exact q
theorem dv_ok {e1 : En} {d : D} (h : dv m en = .ok d e1) : ∃ r, m en = .ok r e1 ∧ toD r e1 = .ok d e1 := by
  unfold dv at h
  cases e : m en with
  | ok r e2 =>
    rw [e] at h
    have h' : toD r e2 = .ok d e1 := h
    have : e2 = e1 := by cases r <;> first | (cases h'; rfl) | cases h'
    subst this
    exact ⟨r, rfl, h'⟩
  | ex c e2 => rw [e] at h; cases h
  | st => rw [e] at h; cases h
theorem tLc_of {mi : En → R (List D)} {g : Ent → En → R Unit} {is vs : List Nat} {H : Hp} {Q : VK} (hv : ∀ i ∈ is, i ∈ vs) (q : tOf κ W (eLc mi g t m vs) σ H Q) :
    tLc (tIOf κ W mi) (tGv κ NoW g is) (tTOf κ NoW t) (tOf κ NoW m) vs σ H Q := by
  obtain ⟨w, en, hw, s, p⟩ := q
  subst hw
  refine ⟨w, en, rfl, s, (Po.bind_of p).imp fun ds e0 w1 n1 p1 J hJ s1 Da hDn => ?_⟩
  -- the new list, owned by nobody
  have hG1 : w1.G Da = none := s1.wo.su.free hDn
  have hst : ∀ {e acc}, Po κ W w1 ((compGo g t m vs ds e acc).bind fun acc e' => .ok (Ent.ow acc) (restE (wipeE e' vs) e0 vs)) (Qe κ σ Q) → True := fun _ => trivial
  let wN : Sn := { w1 with H := upd w1.H Da (.lst []), O := letO w1.O Da }
  have nN : Nx w1 wN := ⟨List.prefix_refl _, Same.refl _, fun x u h1 h2 => by
    have ne : x ≠ Da := ne_of_none h1 hDn
    exact ⟨(upd_ne ne).trans h1, rfl, (letO_ne ne).trans h2⟩⟩
  have sN : StR κ wN (L2.wipe σ vs) (wipeE e0 vs) := by
    have s2 := (s1.newR (o := .lst []) hDn)
    have s3 : StR κ wN σ e0 := by
      have := s2.letR (p := Da) newR_Op
      have e : ({ newR w1 Da (.lst []) with O := letO (newR w1 Da (.lst [])).O Da } : Sn) = wN := by
        show ({ newR w1 Da (.lst []) with O := letO (newR w1 Da (.lst [])).O Da } : Sn) = { w1 with H := upd w1.H Da (.lst []), O := letO w1.O Da }
        have : letO (newR w1 Da (.lst [])).O Da = letO w1.O Da := by
          funext b
          unfold letO
          by_cases hb : b = Da
          · rw [if_pos hb, if_pos hb]
          · rw [if_neg hb, if_neg hb]
            exact newR_O hb
        rw [this]; rfl
      rw [e] at this
      exact this
    exact s3.wip
  refine ⟨fun i n H' => n = ds.length - i ∧ i ≤ ds.length ∧ ∃ w e xs acc, w.H = H' ∧ Nx w1 w ∧ StR κ w (L2.wipe σ vs) (wipeE e vs) ∧ w.O Da = none ∧ w.G Da = none ∧ w.H Da = some (.lst xs) ∧ DqAll w.G xs acc ∧
      Po κ W w1 ((compGo g t m vs (ds.drop i) e acc).bind fun acc e' => .ok (Ent.ow acc) (restE (wipeE e' vs) e0 vs)) (Qe κ σ Q), ⟨_, rfl, Nat.zero_le _, wN, e0, [], [], rfl, nN, sN, letO_same, hG1, upd_same, .nil, p1⟩, ?_⟩
  rintro i n H' ⟨rfl, hi, w2, e, xs, acc, rfl, n2, s2, hO, hG, hH, hacc, p2⟩
  obtain ⟨hgo, hstop⟩ := hJ w2 n2 s2.wo.su
  by_cases hlt : i < ds.length
  · obtain ⟨h1, h2⟩ := hgo i ds[i] (List.getElem?_eq_getElem hlt)
    refine .inr ⟨h1, fun H3 => ∃ w e xs acc, w.H = H3 ∧ Nx w1 w ∧ StR κ w (L2.wipe σ vs) (wipeE e vs) ∧ w.O Da = none ∧ w.G Da = none ∧ w.H Da = some (.lst xs) ∧ DqAll w.G xs acc ∧
      Po κ W w1 ((compGo g t m vs (ds.drop (i + 1)) e acc).bind fun acc e' => .ok (Ent.ow acc) (restE (wipeE e' vs) e0 vs)) (Qe κ σ Q), fun H3 z => ⟨ds.length - (i + 1), by omega, rfl, hlt, z⟩, fun x H3 hy => ?_⟩
    obtain ⟨w3, n3, rfl, st3, d3⟩ := h2 x H3 hy
    rw [List.drop_eq_getElem_cons hlt] at p2
    unfold compGo at p2
    by_cases hl : acc.length < lim
    · rw [if_pos hl] at p2
      have p3 : Po κ W w1 ((noEx (g (.sh ds[i]) (wipeE e vs))).bind fun _ e1 => ((noEx (t e1)).bind fun b e2 => if b = true then (noEx (dv m e2)).bind fun x e3 => compGo g t m vs (ds.drop (i + 1)) e3 (acc ++ [x]) else compGo g t m vs (ds.drop (i + 1)) e2 acc).bind fun acc e' => .ok (Ent.ow acc) (restE (wipeE e' vs) e0 vs)) (Qe κ σ Q) := by
        rw [bind_assoc] at p2
        exact p2
      obtain ⟨_, e1, eg, p4⟩ := no_bind p3
      refine ⟨w3, wipeE e vs, .sh ds[i], rfl, st3 _ _ s2, d3, po_of eg fun w4 n4 σ2 s4 al => ⟨(al vs hv).trans wipe_wipe, ?_⟩⟩
      have p5 : Po κ W w1 ((noEx (t e1)).bind fun b e2 => (if b = true then (noEx (dv m e2)).bind fun x e3 => compGo g t m vs (ds.drop (i + 1)) e3 (acc ++ [x]) else compGo g t m vs (ds.drop (i + 1)) e2 acc : R (List D)).bind fun acc e' => .ok (Ent.ow acc) (restE (wipeE e' vs) e0 vs)) (Qe κ σ Q) := by
        rw [bind_assoc] at p4
        exact p4
      obtain ⟨b, e2, et, p6⟩ := no_bind p5
      refine ⟨w4, e1, rfl, s4, po_of et fun w5 n5 s5 => ?_⟩
      have nn : Nx w2 w5 := (n3.trans n4).trans n5
      obtain ⟨f1, f2, f3⟩ := nn.f Da _ hH hO
      cases b with
      | true =>
        simp only [↓reduceIte] at p6 ⊢
        have p7 : Po κ W w1 ((noEx (dv m e2)).bind fun x e3 => (compGo g t m vs (ds.drop (i + 1)) e3 (acc ++ [x])).bind fun acc e' => .ok (Ent.ow acc) (restE (wipeE e' vs) e0 vs)) (Qe κ σ Q) := by
          rw [bind_assoc] at p6
          exact p6
        obtain ⟨x1, e3, ed, p8⟩ := no_bind p7
        obtain ⟨r, er, etd⟩ := dv_ok ed
        refine ⟨w5, e2, rfl, s5, po_of er fun w6 n6 v6 s6 er6 => ?_⟩
        obtain ⟨_, w7, n7, hH7, s7, d7⟩ := frz_r s6 er6 etd
        have nn2 : Nx w2 w7 := (nn.trans n6).trans n7
        obtain ⟨g1, g2, g3⟩ := nn2.f Da _ hH hO
        refine ⟨xs, by rw [← hH7]; exact g1, lim_lt (by rw [dpa_len hacc]; exact hl), { w7 with H := upd w7.H Da (.lst (xs ++ [v6])) }, e3, xs ++ [v6], acc ++ [x1], by rw [← hH7], ?_, ?_, g3, g2.trans hG, upd_same, dpa_app (dpa_mono nn2.g _ _ hacc) (dpa_one d7), p8⟩
        · have nu := n2.trans nn2
          refine ⟨nu.p, nu.g, fun y u y1 y2 => ?_⟩
          obtain ⟨z1, z2, z3⟩ := nu.f y u y1 y2
          have ne : y ≠ Da := ne_of_none y1 hDn
          exact ⟨(upd_ne ne).trans z1, z2, z3⟩
        · refine (?_ : StR κ { w7 with H := upd w7.H Da (.lst (xs ++ [v6])) } σ2 e3).rewipe ((al vs hv).trans wipe_wipe)
          exact s7.updFree g3 (g2.trans hG)
      | false =>
        simp only [Bool.false_eq_true, ↓reduceIte] at p6 ⊢
        refine ⟨w5, e2, xs, acc, rfl, n2.trans nn, s5.rewipe ((al vs hv).trans wipe_wipe), f3, f2.trans hG, f1, dpa_mono nn.g _ _ hacc, p6⟩
    · rw [if_neg hl] at p2
      exact False.elim p2
  · have hie : i = ds.length := by omega
    subst hie
    rw [List.drop_length] at p2
    refine .inl ⟨hstop, ?_⟩
    have p3 : Po κ W w1 (R.ok (Ent.ow acc) (restE (wipeE e vs) e0 vs)) (Qe κ σ Q) := p2
    let w9 : Sn := { w2 with O := fun b => if b = Da then some .r else w2.O b }
    have n9 : Nx w1 w9 := ⟨n2.p, n2.g, fun y u y1 y2 => by
      obtain ⟨z1, z2, z3⟩ := n2.f y u y1 y2
      have ne : y ≠ Da := ne_of_none y1 hDn
      exact ⟨z1, z2, (if_neg ne).trans z3⟩⟩
    have s9 : StR κ w9 (L2.wipe σ vs) (wipeE e vs) := s2.own hO hG
    have s10 : StR κ w9 σ (restE (wipeE e vs) e0 vs) := StR.rest (w := w1) s1 n9 s9
    exact p3 w9 n9 (.ref Da) s10 ⟨Da, xs, rfl, if_pos rfl, hH, hacc⟩
theorem de_lc {elt tg iter : Expr} {ifs : List Expr} {scope : Scope} {own : List (Str × Nat)} {pos : Pos} {mi : En → R (List D)} {g : Ent → En → R Unit} {is : List Nat} (hc : X.calm = true) (hN : X.N.Nodup) (hi : PI X tg iter (tIOf κ W mi)) (ok : blkC X.N X.env.scope scope own = true)
    (hg : ∀ (s : Shared) (H : Hp) (C : Addr) (cl : List (Str × Addr)) (fp : List Addr), PG (X.blk s H scope (compEnvC scope cl C X.env) fp) tg (tGv κ NoW g is)) (ht : ∀ (s : Shared) (H : Hp) (C : Addr) (cl : List (Str × Addr)) (fp : List Addr), PTs (X.blk s H scope (compEnvC scope cl C X.env) fp) ifs (tTOf κ NoW t))
    (he : ∀ (s : Shared) (H : Hp) (C : Addr) (cl : List (Str × Addr)) (fp : List Addr), PE (X.blk s H scope (compEnvC scope cl C X.env) fp) elt (tOf κ NoW m)) (hv : (is.all fun i => (own.map (·.2)).contains i) = true := by rfl) (hs : ∀ x, foldedSetIterable iter X.env x = pure x := by intro _; rfl) :
    PE X (.ListComp elt [⟨tg, iter, ifs, 0⟩] scope pos) (tOf κ W (eLc mi g t m (own.map (·.2)))) :=
  pe_imp (pe_lc hc hN hi (blkOk_by ok) hg ht he hs) fun σ H Q q => tLc_of (fun i hi => by
    have := List.all_eq_true.mp hv i hi
    simpa using this) q
/-- name = [..] on one line -/
theorem ds_setLc (i : Nat) {y : Str} {py : Pos} {elt tg iter : Expr} {ifs : List Expr} {scope : Scope} {own : List (Str × Nat)} {pos spos : Pos} {mi : En → R (List D)} {g : Ent → En → R Unit} {is : List Nat} (hc : X.calm = true) (hN : X.N.Nodup) (hi : PI X tg iter (tIOf κ W mi)) (ok : blkC X.N X.env.scope scope own = true)
    (hg : ∀ (s : Shared) (H : Hp) (C : Addr) (cl : List (Str × Addr)) (fp : List Addr), PG (X.blk s H scope (compEnvC scope cl C X.env) fp) tg (tGv κ NoW g is)) (ht : ∀ (s : Shared) (H : Hp) (C : Addr) (cl : List (Str × Addr)) (fp : List Addr), PTs (X.blk s H scope (compEnvC scope cl C X.env) fp) ifs (tTOf κ NoW t))
    (he : ∀ (s : Shared) (H : Hp) (C : Addr) (cl : List (Str × Addr)) (fp : List Addr), PE (X.blk s H scope (compEnvC scope cl C X.env) fp) elt (tOf κ NoW m)) (hv : (is.all fun i => (own.map (·.2)).contains i) = true := by rfl) (hy : X.N[i]? = some y := by rfl) (hyl : X.env.scope.names.lookup y = some .local := by rfl)
    (hsw : swapsWith (.ListComp elt [⟨tg, iter, ifs, 0⟩] scope pos) (some (.Name y py)) spos.line X.env = pure true := by exact sw_true rfl rfl rfl rfl) (hs : ∀ x, foldedSetIterable iter X.env x = pure x := by intro _; rfl) :
    PS X (.Assign [.Name y py] (.ListComp elt [⟨tg, iter, ifs, 0⟩] scope pos) spos) (tSOf κ W (sSet i (eLc mi g t m (own.map (·.2))))) :=
  ps_imp (ps_setLc hc hN hy hyl hsw hi (blkOk_by ok) hg ht he hs) fun Dn σ H q => by
    have q2 := tSet_of q
    exact tLc_of (fun i hi => by
      have := List.all_eq_true.mp hv i hi
      simpa using this) q2
end
end CO

/-! CoI: what a def promises, its call. -/
namespace CO
open PySem PySem.Spec PyProof.Rows L2

def PoF (κ : Kx) (w : Sn) (x : R Ent) (Q : VK) (E : XK) : Prop := match x with
  | .ok r e => ∀ v w', Nx w w' → WdR κ w' e.wd → EntR κ w' .r v r → Q v w'.H
  | .ex c e => ∀ w', Nx w w' → WdR κ w' e.wd → E (.ref (κ.ec c)) none w'.H
  | .st => False
/-- a def's promise: its arguments' data and the world to its end -/
def spOf (κ : Kx) (n : Nat) (m : List Ent → List Ob → R Ent) : Sp := fun vs H Q E => vs.length = n ∧ ∃ w es wd, w.H = H ∧ WdR κ w wd ∧ (∀ p ix, w.O p = some ix → ∃ j, ix = Ix.w j) ∧ ArgsR κ w vs es ∧ PoF κ w (m es wd) Q E
/-- a body's end -/
def finM (nN : Nat) (ms : En → R Fl) (es : List Ent) (wd : List Ob) : R Ent := (ms ⟨es ++ List.replicate (nN - es.length) .no, wd⟩).bind fun fl e => match fl with
  | .nx => .ok (.sh .none) e
  | .rt r => .ok r e
  | _ => .st
def FnD (P : Program) (w : World) (K : PySem.W.Frag) (mg : Str → Option Value) (base : Heap) (κ : Kx) (x : Str) (k n : Nat) (m : List Ent → List Ob → R Ent) : Prop :=
  ∃ f fd ps, FnOk P w K mg base (L2.CX P w) k f fd ps (spOf κ n m) ∧ mg x = some (.ref f) ∧ PySem.W.keepIn K (.ref f) = true ∧ Binds K fd ps []
theorem arg_ent {κ : Kx} {w : Sn} {ix : Ix} {v : V} {e : Ent} (h : ArgR κ w v e) : EntR κ w ix v e := by
  cases e with
  | sh d => exact h
  | wr j => exact h
  | sc => exact h
  | no => exact False.elim h
  | ow ds => exact False.elim h
  | dk kvs => exact False.elim h
theorem paired_get {α β : Type} {R : α → β → Prop} : ∀ {as : List α} {bs : List β} {i : Nat}, Paired R as bs → (∀ b, bs[i]? = some b → ∃ a, as[i]? = some a ∧ R a b)
  | _, _, _, .nil => fun b h => by simp at h
  | _ :: _, _ :: _, 0, .cons r t => fun b h => by
    simp at h
    subst h
    exact ⟨_, rfl, r⟩
  | _ :: _, _ :: _, i + 1, .cons r t => fun b h => by
    obtain ⟨a, h1, h2⟩ := paired_get (i := i) t b (by simpa using h)
    exact ⟨a, by simpa using h1, h2⟩
section
variable {P : Program} {w : World} {K : PySem.W.Frag} {mg : Str → Option Value} {base : Heap} {κ : Kx}
theorem start_ok {N : List Str} {vs : List V} {w : Sn} {es : List Ent} {wd : List Ob} (h : WdR κ w wd) (a : ArgsR κ w vs es) : StR κ w (start N vs) ⟨es ++ List.replicate (N.length - es.length) .no, wd⟩ := by
  have hl : vs.length = es.length := Paired.length a
  refine ⟨h, ?_, fun i => ?_⟩
  · show (es ++ List.replicate (N.length - es.length) Ent.no).length = (vs.map some ++ List.replicate (N.length - vs.length) none).length
    simp [hl]
  · show SlR κ w (.s i) ((vs.map some ++ List.replicate (N.length - vs.length) none).getD i none) ((es ++ List.replicate (N.length - es.length) Ent.no).getD i .no)
    rw [List.getD_eq_getElem?_getD, List.getD_eq_getElem?_getD]
    by_cases hi : i < es.length
    · rw [List.getElem?_append_left hi, List.getElem?_append_left (by simpa [hl] using hi)]
      have e1 := List.getElem?_eq_getElem hi
      obtain ⟨v, h1, h2⟩ := paired_get a _ e1
      rw [e1, List.getElem?_map, h1]
      exact .inr ⟨v, rfl, arg_ent h2⟩
    · left
      rw [List.getElem?_append_right (Nat.le_of_not_lt hi), List.getElem?_replicate]
      split <;> rfl
theorem fnD_of {x : Str} {st : Stmt} {f : Addr} {fd : FuncData} {N ps : List Str} {k : Nat} (F : Fun K x x st f fd) (S : FnScope N ps (defScope st)) (gx : mg x = some (.ref f)) (hb : Binds K fd ps []) (ms : En → R Fl)
    (hbody : ∀ (cdv : Value) (A : Around) (outer : List Env) (s : Shared) (H : Hp) (E : XK), Room k (A.deeper (envOfC x (defScope st) s.heap.objs.size f cdv)) →
      PSs (cxOf (L2.CX P w) P w K mg base N x (defScope st) f cdv A outer s H E) (defBody st) (tSOf κ (fun cls d _ H => E cls d H) ms)) : FnD P w K mg base κ x (k + 1) ps.length (finM N.length ms) := by
  refine ⟨f, fd, ps, F.okX S (fun vs H Q E h => h.1) (fun cdv A outer s H vs Q E hr h => ⟨_, hbody cdv A outer s H E hr, ?_⟩), gx, F.kp, hb⟩
  obtain ⟨_, w0, es, wd, hH, hw, hO, ha, p⟩ := h
  refine ⟨w0, _, hH, start_ok hw ha, ?_⟩
  unfold finM at p
  cases hm : ms ⟨es ++ List.replicate (N.length - es.length) .no, wd⟩ with
  | ok fl e =>
    rw [hm] at p
    intro w' n
    cases fl with
    | nx => exact fun σ' s' => p .non w' n s'.wo .non
    | rt r => exact fun v σ' s' er => p v w' n s'.wo er
    | bk => exact False.elim p
    | ct => exact False.elim p
  | ex c e =>
    rw [hm] at p
    exact fun σ' w' n s' => p w' n s'.wo
  | st =>
    rw [hm] at p
    exact p
end

/-! ### a call -/
def eCallF (n : Nat) (m : List Ent → List Ob → R Ent) (ms : En → R (List Ent)) (en : En) : R Ent := (ms en).bind fun es e => if es.length = n then match m es e.wd with
  | .ok r e' => .ok r { e with wd := e'.wd }
  | .ex c e' => .ex c { e with wd := e'.wd }
  | .st => .st
  else .st
/-- only the world's owners -/
def wOnly : Option Ix → Option Ix
  | some (.w j) => some (.w j)
  | _ => none
def noSl : Option Ix → Option Ix
  | some (.s _) => none
  | o => o
def wR (w : Sn) : Sn := { w with O := fun p => wOnly (w.O p) }
/-- the owners behind a call -/
def mrgO (O O' : Addr → Option Ix) (H : Hp) (p : Addr) : Option Ix := if wOnly (O p) = none ∧ (O p).isSome = true ∧ (H p).isSome = true then O p else noSl (O' p)
theorem wOnly_w {o : Option Ix} {j : Nat} : wOnly o = some (.w j) ↔ o = some (.w j) := by
  cases o with
  | none => exact ⟨(fun h => by cases h), (fun h => by cases h)⟩
  | some ix =>
    cases ix with
    | s i => exact ⟨(fun h => by cases h), (fun h => by cases h)⟩
    | w i => exact Iff.rfl
    | r => exact ⟨(fun h => by cases h), (fun h => by cases h)⟩
theorem wOnly_of {o : Option Ix} {ix : Ix} (h : wOnly o = some ix) : o = some ix ∧ ∃ j, ix = .w j := by
  cases o with
  | none => cases h
  | some jx =>
    cases jx with
    | s i => cases h
    | w i => cases h; exact ⟨rfl, i, rfl⟩
    | r => cases h
section
variable {κ : Kx} {w w' : Sn} {σ : St} {en : En} {wd : List Ob}
theorem WdR.only (h : WdR κ w wd) : WdR κ (wR w) wd where
  fr := fun p i e => by
    obtain ⟨e', _⟩ := wOnly_of (show wOnly (w.O p) = some i from e)
    exact h.fr p i e'
  su := h.su
  wl := h.wl
  wd := fun j ob p e1 e2 => by
    have x := h.wd j ob p e1 e2
    have k : ∀ {q : Addr}, w.O q = some (.w j) → wOnly (w.O q) = some (.w j) := fun e => wOnly_w.mpr e
    cases ob with
    | tn n => exact ⟨k x.1, x.2⟩
    | tb g rows kept =>
      obtain ⟨dx, l, vg, rs, a1, a2, a3, a4, a5, a6, a7, a8⟩ := x
      exact ⟨dx, l, vg, rs, k a1, k a2, k a3, a4, a5, a6, a7, a8⟩
theorem mrg_old {p : Addr} {ix : Ix} {o : HO} (h : w.O p = some ix) (hx : ∀ j, ix ≠ .w j) (hH : w.H p = some o) : mrgO w.O w'.O w.H p = some ix := by
  unfold mrgO
  have e : wOnly (w.O p) = none := by
    cases q : wOnly (w.O p) with
    | none => rfl
    | some jx =>
      obtain ⟨e1, j, e2⟩ := wOnly_of q
      rw [h] at e1
      cases e1
      exact absurd e2 (hx j)
  rw [if_pos ⟨e, by rw [h]; rfl, by rw [hH]; rfl⟩]
  exact h
theorem mrg_new {p : Addr} {ix : Ix} (n : Nx (wR w) w') (h : w'.O p = some ix) (hx : ∀ i, ix ≠ .s i) : mrgO w.O w'.O w.H p = some ix := by
  unfold mrgO
  by_cases c : wOnly (w.O p) = none ∧ (w.O p).isSome = true ∧ (w.H p).isSome = true
  · obtain ⟨c1, _, c3⟩ := c
    obtain ⟨o, ho⟩ := Option.isSome_iff_exists.mp c3
    have := (n.f p o ho c1).2.2
    rw [h] at this
    cases this
  · rw [if_neg c, h]
    cases ix with
    | s i => exact absurd rfl (hx i)
    | w j => rfl
    | r => rfl
theorem mrg_of {p : Addr} {ix : Ix} (h : mrgO w.O w'.O w.H p = some ix) : (w.O p = some ix ∧ wOnly (w.O p) = none ∧ ∃ o, w.H p = some o) ∨ w'.O p = some ix := by
  unfold mrgO at h
  by_cases c : wOnly (w.O p) = none ∧ (w.O p).isSome = true ∧ (w.H p).isSome = true
  · rw [if_pos c] at h
    exact .inl ⟨h, c.1, Option.isSome_iff_exists.mp c.2.2⟩
  · rw [if_neg c] at h
    right
    cases q : w'.O p with
    | none => rw [q] at h; cases h
    | some jx =>
      rw [q] at h
      cases jx with
      | s i => cases h
      | w j => exact h
      | r => exact h
/-- the state behind a call -/
theorem after_call (s : StR κ w σ en) (n : Nx (wR w) w') (h : WdR κ w' wd) : Nx w { w' with O := mrgO w.O w'.O w.H } ∧ StR κ { w' with O := mrgO w.O w'.O w.H } σ { en with wd := wd } ∧ ∀ v r, EntR κ w' .r v r → EntR κ { w' with O := mrgO w.O w'.O w.H } .r v r := by
  refine ⟨⟨n.p, n.g, fun x o h1 h2 => ?_⟩, ⟨⟨fun p i e => ?_, h.su, h.wl, fun j ob p e1 e2 => ?_⟩, s.ln, fun i => ?_⟩, fun v r er => ?_⟩
  · obtain ⟨q1, q2, q3⟩ := n.f x o h1 (by show wOnly (w.O x) = none; rw [h2]; rfl)
    refine ⟨q1, q2, ?_⟩
    show mrgO w.O w'.O w.H x = none
    unfold mrgO
    rw [if_neg (by rw [h2]; rintro ⟨_, z, _⟩; cases z), q3]; rfl
  · rcases mrg_of e with ⟨e1, e2, o, e3⟩ | e1
    · exact (n.f p o e3 e2).2.1.trans (s.wo.fr p i e1)
    · exact h.fr p i e1
  · have x := h.wd j ob p e1 e2
    have k : ∀ {q : Addr}, w'.O q = some (.w j) → mrgO w.O w'.O w.H q = some (.w j) := fun e => mrg_new n e (fun i z => by cases z)
    cases ob with
    | tn m => exact ⟨k x.1, x.2⟩
    | tb g rows kept =>
      obtain ⟨dx, l, vg, rs, a1, a2, a3, a4, a5, a6, a7, a8⟩ := x
      exact ⟨dx, l, vg, rs, k a1, k a2, k a3, a4, a5, a6, a7, a8⟩
  · rcases s.sl i with q | ⟨v, q1, q2⟩
    · exact .inl q
    · refine .inr ⟨v, q1, ?_⟩
      show EntR κ { w' with O := mrgO w.O w'.O w.H } (.s i) v (en.get i)
      have k : ∀ {q : Addr} {o : HO}, w.O q = some (.s i) → w.H q = some o → mrgO w.O w'.O w.H q = some (.s i) ∧ w'.H q = some o := fun {q o} e1 e2 =>
        ⟨mrg_old e1 (fun j z => by cases z) e2, (n.f q o e2 (by show wOnly (w.O q) = none; rw [e1]; rfl)).1⟩
      cases hg : en.get i with
      | no => trivial
      | sh d => rw [hg] at q2; exact dp_mono n.g _ _ q2
      | ow ds =>
        rw [hg] at q2
        obtain ⟨p, xs, e1, e2, e3, e4⟩ := q2
        obtain ⟨k1, k2⟩ := k e2 e3
        exact ⟨p, xs, e1, k1, k2, dpa_mono n.g _ _ e4⟩
      | dk kvs =>
        rw [hg] at q2
        obtain ⟨p, xs, e1, e2, e3, e4⟩ := q2
        obtain ⟨k1, k2⟩ := k e2 e3
        exact ⟨p, xs, e1, k1, k2, dpkv_mono n.g e4⟩
      | wr j =>
        rw [hg] at q2
        obtain ⟨p, e1, e2⟩ := q2
        refine ⟨p, e1, ?_⟩
        obtain ⟨t, ht⟩ := n.p
        show w'.ad[j]? = some p
        have ht' : w.ad ++ t = w'.ad := ht
        rw [← ht', List.getElem?_append_left (List.getElem?_eq_some_iff.mp e2).1]
        exact e2
      | sc =>
        rw [hg] at q2
        obtain ⟨a, h1, h2⟩ := q2
        exact ⟨a, h1, n.g.seq h2⟩
  · have k : ∀ {q : Addr}, w'.O q = some .r → mrgO w.O w'.O w.H q = some .r := fun e => mrg_new n e (fun i z => by cases z)
    cases r with
    | no => trivial
    | sh d => exact er
    | ow ds =>
      obtain ⟨p, xs, e1, e2, e3, e4⟩ := er
      exact ⟨p, xs, e1, k e2, e3, e4⟩
    | dk kvs =>
      obtain ⟨p, xs, e1, e2, e3, e4⟩ := er
      exact ⟨p, xs, e1, k e2, e3, e4⟩
    | wr j => exact er
    | sc => exact er
/-- a promise's wish from ours -/
theorem sp_of {W : WX} {Q : VK} {vs : List V} {es : List Ent} {n : Nat} {m : List Ent → List Ob → R Ent} (s : StR κ w σ en) (a : ArgsR κ w vs es) (hn : es.length = n)
    (p : Po κ W w (match m es en.wd with | .ok r e' => R.ok r { en with wd := e'.wd } | .ex c e' => .ex c { en with wd := e'.wd } | .st => .st) (Qe κ σ Q)) : spOf κ n m vs w.H Q (WE W σ) := by
  refine ⟨(Paired.length a).trans hn, wR w, es, en.wd, rfl, s.wo.only, fun p ix e => (wOnly_of e).2, a, ?_⟩
  cases hm : m es en.wd with
  | ok r e' =>
    rw [hm] at p
    intro v w' n' hw er
    obtain ⟨z1, z2, z3⟩ := after_call s n' hw
    exact p { w' with O := mrgO w.O w'.O w.H } z1 v z2 (z3 v r er)
  | ex c e' =>
    rw [hm] at p
    intro w' n' hw
    obtain ⟨z1, z2, z3⟩ := after_call s n' hw
    exact p σ { w' with O := mrgO w.O w'.O w.H } z1 z2
  | st =>
    rw [hm] at p
    exact p
end
section
variable {X : Cx} {κ : Kx} {W : WX}
theorem de_call {x : Str} {e : Expr} {es : List Expr} {k n : Nat} {m : List Ent → List Ob → R Ent} {ms : En → R (List Ent)} {p pos : Pos} (F : FnD X.prog X.w X.K X.mg X.base κ x k n m) (hr : Room k X.A) (tk : Takes X W) (ha : PA X (e :: es) (tAOf κ W ms)) (hg : Gl X x := by rfl)
    (hdb : (x == ("__debug__" : Str)) = false := by decide) (he : starEach (e :: es) X.env = (false, eval e X.env) :: starEach es X.env := by rfl) (hpl : (backTo pos (starEach es X.env)).any (·.1) = false := by rfl) :
    PE X (.Call (.Name x p) (e :: es) [] pos) (tOf κ W (eCallF n m ms)) := by
  obtain ⟨f, fd, ps, hF, hm, hk, hb⟩ := F
  refine pe_imp (pe_callS hF hr hg hm hk hb (fun σ => passAt tk σ) ha hdb he hpl) fun σ H Q ⟨w, en, hw, s, q⟩ => ?_
  subst hw
  refine goA s q fun rs en1 vs w1 n1 s1 a1 p1 => ?_
  by_cases hn : rs.length = n
  · rw [if_pos hn] at p1
    exact sp_of s1 a1 hn p1
  · rw [if_neg hn] at p1
    exact False.elim p1
end
end CO

/-! CoJ: methods of texts and lists, op=. -/
namespace CO
open PySem PySem.Spec PyProof.Rows L2

/-! ### a method on data -/
def tyD (T : String) : D → Bool
  | .str _ => T == "str"
  | .list _ => T == "list"
  | _ => false
def MtD (X : Cx) (κ : Kx) (id : String) (g : D → List D → En → R Ent) : Prop :=
  ∃ r, MtR X id r ∧ ∀ (W : WX) (w : Sn) (σ : St) (en : En) (x : V) (a : D) (xs : List V) (ds : List D) (Q : VK), StR κ w σ en → Dq w.G x a → DqAll w.G xs ds → Po κ W w (g a ds en) (Qe κ σ Q) → r x xs w.H Q
def eMt (T : String) (g : D → List D → En → R Ent) (m : En → R Ent) (ms : En → R (List Ent)) (en : En) : R Ent := (dv m en).bind fun a e1 => if tyD T a = true then (dvs ms e1).bind fun ds e2 => g a ds e2 else .st
section
variable {X : Cx} {κ : Kx} {W : WX} {w : Sn} {σ : St} {en : En}
theorem tyD_ok {T : String} {a : D} {x : V} (s : StR κ w σ en) (h : tyD T a = true) (hd : Dq w.G x a) : tyV X.K T x w.H := by
  cases hd with
  | str y => exact eq_of_beq h
  | lst h1 h2 => exact .inl ⟨eq_of_beq h, _, SqL.of (s.wo.su _ _ h1)⟩
  | non => cases h
  | bl b => cases h
  | int i => cases h
  | tup _ _ => cases h
theorem de_mt {T id : String} {name : Str} {o e : Expr} {es : List Expr} {g : D → List D → En → R Ent} {m : En → R Ent} {ms : En → R (List Ent)} {apos cpos : Pos} (hm : MtD X κ id g) (pa : PlainAttrs T) (slot : Slot T name id) (hty : typeOf (.builtin id) = pure (.type "method_descriptor")) (ho : PE X o (tOf κ W m)) (ha : PA X (e :: es) (tAOf κ W ms))
    (hbase : attributeBase o name X.env (eval o X.env) = eval o X.env := by rfl)
    (hfew : ((backTo cpos (starEach (e :: es) X.env)).all (fun x => !x.1) && (backToKw cpos (keywordEach [] X.env)).all (fun x => x.1.isSome) && decide ((e :: es).length + ([] : List Keyword).length + (if ([] : List Keyword).isEmpty then 0 else 1) < 30)) = true := by rfl)
    (hline : (apos.endLine == cpos.line) = true := by rfl) (hs : starEach (e :: es) X.env = (false, eval e X.env) :: starEach es X.env := by rfl) (hplain : (backTo cpos (starEach es X.env)).any (·.1) = false := by rfl) :
    PE X (.Call (.Attribute o name apos) (e :: es) [] cpos) (tOf κ W (eMt T g m ms)) := by
  obtain ⟨r, hr, hg⟩ := hm
  refine pe_imp (pe_bm pa slot hty hr ho ha hbase hfew hline hs hplain) fun σ H Q ⟨w, en, hw, s, p⟩ => ?_
  subst hw
  refine goD s p fun a e1 v1 w1 n1 s1 d1 p1 => ?_
  by_cases ht : tyD T a = true
  · rw [if_pos ht] at p1
    refine ⟨tyD_ok s1 ht d1, ?_⟩
    exact goDs s1 p1 fun ds e2 vs w2 n2 s2 d2 p2 => hg W w2 σ e2 v1 a vs ds Q s2 (dp_mono n2.g _ _ d1) d2 p2
  · rw [if_neg ht] at p1
    exact False.elim p1
/-- sep.join(texts) -/
def gJoin : D → List D → En → R Ent
  | .str a, [.list ds], e => match asStrs ds with | some ys => if (ys.map (·.length)).sum + ys.length * a.length ≤ lim then .ok (.sh (.str (Txt.join a ys))) e else .st | none => .st
  | _, _, _ => .st
theorem md_join : MtD X κ "str.join" gJoin := by
  refine ⟨_, mt_join, fun W w σ en x a xs ds Q s ha hds p => ?_⟩
  cases ha with
  | str y =>
    cases hds with
    | nil => exact False.elim p
    | cons h t =>
      cases t with
      | cons _ _ => cases h <;> exact False.elim p
      | nil =>
        cases h with
        | lst h1 h2 =>
          rename_i q vs ds
          have p' : Po κ W w (match asStrs ds with | some ys => if (ys.map (·.length)).sum + ys.length * y.length ≤ lim then R.ok (Ent.sh (.str (Txt.join y ys))) en else .st | none => .st) (Qe κ σ Q) := p
          cases e : asStrs ds with
          | none => rw [e] at p'; exact False.elim p'
          | some ys =>
            rw [e] at p'
            have := asStrs_eq e
            subst this
            have := dpa_strs h2
            subst this
            dsimp only at p'
            by_cases hl : (ys.map (·.length)).sum + ys.length * y.length ≤ lim
            · rw [if_pos hl] at p'
              exact ⟨y, q, ys, rfl, rfl, .inl (SqL.of (s.wo.su _ _ h1)), Nat.le_trans hl (by decide), fin_sh s p' (.str _)⟩
            · rw [if_neg hl] at p'
              exact False.elim p'
        | _ => exact False.elim p
  | _ => exact False.elim p
/-- a text's method of one text: to a text -/
theorem md_str1 {id : String} {g : Str → Str → Str} (h : MtR X id (fun x xs H Q => ∃ a b, x = .str a ∧ xs = [.str b] ∧ a.length ≤ sizeLine ∧ Q (.str (g a b)) H)) :
    MtD X κ id (fun a ds e => match a, ds with | .str a, [.str b] => if a.length ≤ lim then .ok (.sh (.str (g a b))) e else .st | _, _ => .st) := by
  refine ⟨_, h, fun W w σ en x a xs ds Q s ha hds p => ?_⟩
  cases ha with
  | str y =>
    cases hds with
    | nil => exact False.elim p
    | cons h t =>
      cases t with
      | cons _ _ => cases h <;> exact False.elim p
      | nil =>
        cases h with
        | str z =>
          have p' : Po κ W w (if y.length ≤ lim then R.ok (Ent.sh (.str (g y z))) en else .st) (Qe κ σ Q) := p
          by_cases hl : y.length ≤ lim
          · rw [if_pos hl] at p'
            exact ⟨y, z, rfl, rfl, lim_ok hl, fin_sh s p' (.str _)⟩
          · rw [if_neg hl] at p'
            exact False.elim p'
        | _ => exact False.elim p
  | _ => exact False.elim p
def gLstrip (a : D) (ds : List D) (e : En) : R Ent := match a, ds with | .str a, [.str b] => if a.length ≤ lim then .ok (.sh (.str (Txt.lstripChars a b))) e else .st | _, _ => .st
theorem md_lstrip : MtD X κ "str.lstrip" gLstrip := md_str1 mt_lstripChars
def gRstrip (a : D) (ds : List D) (e : En) : R Ent := match a, ds with | .str a, [.str b] => if a.length ≤ lim then .ok (.sh (.str (Txt.rstripChars a b))) e else .st | _, _ => .st
theorem md_rstrip : MtD X κ "str.rstrip" gRstrip := md_str1 mt_rstripChars
def gSplit (a : D) (ds : List D) (e : En) : R Ent := match a, ds with | .str a, [.str b] => if a.length ≤ lim - 2 ∧ (b.length == 0) = false then .ok (.ow ((Txt.split a b).map .str)) e else .st | _, _ => .st
theorem md_split : MtD X κ "str.split" gSplit := by
  refine ⟨_, mt_split, fun W w σ en x a xs ds Q s ha hds p => ?_⟩
  cases ha with
  | str y =>
    cases hds with
    | nil => exact False.elim p
    | cons h t =>
      cases t with
      | cons _ _ => cases h <;> exact False.elim p
      | nil =>
        cases h with
        | str z =>
          have p' : Po κ W w (if y.length ≤ lim - 2 ∧ (z.length == 0) = false then R.ok (Ent.ow ((Txt.split y z).map .str)) en else .st) (Qe κ σ Q) := p
          by_cases hl : y.length ≤ lim - 2 ∧ (z.length == 0) = false
          · rw [if_pos hl] at p'
            refine ⟨y, z, rfl, rfl, hl.2, lim_ok (by have := hl.1; unfold lim at *; omega), ?_⟩
            exact fun q hq => fin_ow s p' (dpa_of_strs _) hq
          · rw [if_neg hl] at p'
            exact False.elim p'
        | _ => exact False.elim p
  | _ => exact False.elim p
def gCountS (a : D) (ds : List D) (e : En) : R Ent := match a, ds with
  | .str a, [.str b] => .ok (.sh (.int (Txt.count a b))) e
  | _, _ => .st
theorem md_countS : MtD X κ "str.count" gCountS := by
  refine ⟨_, mt_count, fun W w σ en x a xs ds Q s ha hds p => ?_⟩
  cases ha with
  | str y =>
    cases hds with
    | nil => exact False.elim p
    | cons h t =>
      cases t with
      | cons _ _ => cases h <;> exact False.elim p
      | nil =>
        cases h with
        | str z => exact ⟨y, z, rfl, rfl, fin_sh s p (.int _)⟩
        | _ => exact False.elim p
  | _ => exact False.elim p
def gCountL (a : D) (ds : List D) (e : En) : R Ent := match a, ds with
  | .list xs, [.int k] => match asInts xs with | some ns => .ok (.sh (.int (ns.count k : Nat))) e | none => .st
  | _, _ => .st
theorem md_countL : MtD X κ "list.count" gCountL := by
  refine ⟨_, mt_lcount, fun W w σ en x a xs ds Q s ha hds p => ?_⟩
  cases ha with
  | lst h1 h2 =>
    rename_i q vs ys
    cases hds with
    | nil => exact False.elim p
    | cons h t =>
      cases t with
      | cons _ _ => cases h <;> exact False.elim p
      | nil =>
        cases h with
        | int k =>
          have p' : Po κ W w (match asInts ys with | some ns => R.ok (Ent.sh (.int (ns.count k : Nat))) en | none => .st) (Qe κ σ Q) := p
          cases e : asInts ys with
          | none => rw [e] at p'; exact False.elim p'
          | some ns =>
            rw [e] at p'
            have := asInts_eq e
            subst this
            have := dpa_ints h2
            subst this
            exact ⟨q, ns, k, rfl, rfl, SqL.of (s.wo.su _ _ h1), fin_sh s p' (.int _)⟩
        | _ => exact False.elim p
  | _ => exact False.elim p

/-! ### a slot's own thing is written -/
theorem StR.updS {i : Nat} {p : Addr} {o : HO} {r : Ent} (s : StR κ w σ en) {v : V} (hv : σ.getD i none = some v) (hO : w.O p = some (.s i)) (hr : EntR κ { w with H := upd w.H p o } (.s i) v r) : StR κ { w with H := upd w.H p o } σ (en.set i r) := by
  have ne : ∀ {q : Addr} {jx : Ix}, w.O q = some jx → jx ≠ .s i → q ≠ p := fun e hj z => by
    rw [z, hO] at e
    exact hj (Option.some.inj e).symm
  refine ⟨⟨s.wo.fr, fun b u e => ?_, s.wo.wl, fun j ob q e1 e2 => ?_⟩, ?_, fun k => ?_⟩
  · have e' : w.G b = some u := e
    have nb : b ≠ p := fun z => by rw [z, s.wo.fr p _ hO] at e'; cases e'
    exact (upd_ne nb).trans (s.wo.su b u e')
  · have x := s.wo.wd j ob q e1 e2
    have nw : Ix.w j ≠ Ix.s i := fun z => nomatch z
    cases ob with
    | tn k => exact ⟨x.1, (upd_ne (ne x.1 nw)).trans x.2⟩
    | tb g rows kept =>
      obtain ⟨dx, l, vg, rs, a1, a2, a3, a4, a5, a6, a7, a8⟩ := x
      exact ⟨dx, l, vg, rs, a1, a2, a3, (upd_ne (ne a1 nw)).trans a4, (upd_ne (ne a2 nw)).trans a5, (upd_ne (ne a3 nw)).trans a6, a7, a8⟩
  · show (en.sl.set i r).length = _
    rw [List.length_set]
    exact s.ln
  · by_cases hk : i = k
    · subst hk
      rcases get_set_same (en := en) (i := i) (e := r) with e | e
      · rw [e]
        exact .inr ⟨v, hv, hr⟩
      · exact .inl e
    · rw [get_set_ne hk]
      rcases s.sl k with q | ⟨u, q1, q2⟩
      · exact .inl q
      · refine .inr ⟨u, q1, ?_⟩
        have nk : Ix.s k ≠ Ix.s i := fun z => hk (by injection z with z; exact z.symm)
        cases hg : en.get k with
        | no => trivial
        | sh d => rw [hg] at q2; exact q2
        | ow ds =>
          rw [hg] at q2
          obtain ⟨q, xs, e1, e2, e3, e4⟩ := q2
          exact ⟨q, xs, e1, e2, (upd_ne (ne e2 nk)).trans e3, e4⟩
        | dk kvs =>
          rw [hg] at q2
          obtain ⟨q, xs, e1, e2, e3, e4⟩ := q2
          exact ⟨q, xs, e1, e2, (upd_ne (ne e2 nk)).trans e3, e4⟩
        | wr j => rw [hg] at q2; exact q2
        | sc => rw [hg] at q2; exact q2
theorem upd_nx {p : Addr} {o : HO} {ix : Ix} (hO : w.O p = some ix) : Nx w { w with H := upd w.H p o } :=
  ⟨List.prefix_refl _, Same.refl _, fun x u h1 h2 => by
    have ne : x ≠ p := fun z => by rw [z, hO] at h2; cases h2
    exact ⟨(upd_ne ne).trans h1, rfl, h2⟩⟩
theorem slot_get {i : Nat} {v : V} (h : σ[i]? = some (some v)) : σ.getD i none = some v := by
  rw [List.getD_eq_getElem?_getD, h]; rfl
/-- x.append(e), x a name -/
def eApp (i : Nat) (m : En → R Ent) (en : En) : R Ent := match en.get i with
  | .ow _ => (dv m en).bind fun d e1 => match e1.get i with
    | .ow ds => if ds.length < lim then .ok (.sh .none) (e1.set i (.ow (ds ++ [d]))) else .st
    | _ => .st
  | _ => .st
def eExt (i : Nat) (m : En → R Ent) (en : En) : R Ent := match en.get i with
  | .ow _ => (dv m en).bind fun d e1 => match e1.get i, d with
    | .ow ds, .list es => if ds.length + es.length ≤ lim then .ok (.sh .none) (e1.set i (.ow (ds ++ es))) else .st
    | _, _ => .st
  | _ => .st
theorem ow_at {i : Nat} {ds : List D} (s : StR κ w σ en) (h : en.get i = .ow ds) : ∃ p xs, σ[i]? = some (some (.ref p)) ∧ w.O p = some (.s i) ∧ w.H p = some (.lst xs) ∧ DqAll w.G xs ds := by
  obtain ⟨v, e1, e2⟩ := s.at (i := i) (by rw [h]; intro z; cases z)
  rw [h] at e2
  obtain ⟨p, xs, rfl, q⟩ := e2
  exact ⟨p, xs, e1, q⟩
theorem de_app (i : Nat) {x : Str} {e : Expr} {m : En → R Ent} {px apos cpos : Pos} (he : PE X e (tOf κ W m)) (hN : X.N[i]? = some x := by rfl)
    (hv : Vis X.env.scope x := by first | exact Or.inl rfl | exact Or.inr (Or.inl rfl) | exact Or.inr (Or.inr rfl)) (hd : (x == ("__debug__" : Str)) = false := by decide) (hcd : (x == ("__classdict__" : Str)) = false := by decide)
    (hbase : attributeBase (.Name x px) "append" X.env (eval (.Name x px) X.env) = eval (.Name x px) X.env := by rfl)
    (hfew : ((backTo cpos (starEach (e :: []) X.env)).all (fun x => !x.1) && (backToKw cpos (keywordEach [] X.env)).all (fun x => x.1.isSome) && decide ((e :: []).length + ([] : List Keyword).length + (if ([] : List Keyword).isEmpty then 0 else 1) < 30)) = true := by rfl)
    (hline : (apos.endLine == cpos.line) = true := by rfl) (hs : starEach (e :: []) X.env = (false, eval e X.env) :: starEach [] X.env := by rfl) (hplain : (backTo cpos (starEach [] X.env)).any (·.1) = false := by rfl) :
    PE X (.Call (.Attribute (.Name x px) "append" apos) [e] [] cpos) (tOf κ W (eApp i m)) :=
  pe_imp (pe_bm F.plainAttrs_list F.slot_list_append F.type_list_append mt_append (pv i hN hv hd hcd) (pa_cons he pa_nil hs) hbase hfew hline hs hplain) fun σ H Q ⟨w, en, hw, s, p⟩ => by
    subst hw
    unfold eApp at p
    cases hg : en.get i with
    | ow ds0 =>
      rw [hg] at p
      obtain ⟨q, xs, ev, hO, hH, ha⟩ := ow_at s hg
      refine ⟨_, ev, .inl ⟨rfl, xs, SqL.of hH⟩, ?_⟩
      refine goD s p fun d e1 y w1 n1 s1 d1 p1 => ?_
      cases hg1 : e1.get i with
      | ow ds =>
        rw [hg1] at p1
        obtain ⟨q', xs', ev', hO', hH', ha'⟩ := ow_at s1 hg1
        rw [ev] at ev'
        cases ev'
        dsimp only at p1
        by_cases hl : ds.length < lim
        · rw [if_pos hl] at p1
          refine ⟨q, xs', y, rfl, rfl, hH', lim_lt (by rw [dpa_len ha']; exact hl), ?_⟩
          refine p1 { w1 with H := upd w1.H q (.lst (xs' ++ [y])) } (upd_nx hO') .non ?_ .non
          exact s1.updS (slot_get ev) hO' ⟨q, _, rfl, hO', upd_same, dpa_app ha' (dpa_one d1)⟩
        · rw [if_neg hl] at p1
          exact False.elim p1
      | _ => rw [hg1] at p1; exact False.elim p1
    | _ => rw [hg] at p; exact False.elim p
theorem de_ext (i : Nat) {x : Str} {e : Expr} {m : En → R Ent} {px apos cpos : Pos} (he : PE X e (tOf κ W m)) (hN : X.N[i]? = some x := by rfl)
    (hv : Vis X.env.scope x := by first | exact Or.inl rfl | exact Or.inr (Or.inl rfl) | exact Or.inr (Or.inr rfl)) (hd : (x == ("__debug__" : Str)) = false := by decide) (hcd : (x == ("__classdict__" : Str)) = false := by decide)
    (hbase : attributeBase (.Name x px) "extend" X.env (eval (.Name x px) X.env) = eval (.Name x px) X.env := by rfl)
    (hfew : ((backTo cpos (starEach (e :: []) X.env)).all (fun x => !x.1) && (backToKw cpos (keywordEach [] X.env)).all (fun x => x.1.isSome) && decide ((e :: []).length + ([] : List Keyword).length + (if ([] : List Keyword).isEmpty then 0 else 1) < 30)) = true := by rfl)
    (hline : (apos.endLine == cpos.line) = true := by rfl) (hs : starEach (e :: []) X.env = (false, eval e X.env) :: starEach [] X.env := by rfl) (hplain : (backTo cpos (starEach [] X.env)).any (·.1) = false := by rfl) :
    PE X (.Call (.Attribute (.Name x px) "extend" apos) [e] [] cpos) (tOf κ W (eExt i m)) :=
  pe_imp (pe_bm F.plainAttrs_list F.slot_list_extend F.type_list_extend mt_extend (pv i hN hv hd hcd) (pa_cons he pa_nil hs) hbase hfew hline hs hplain) fun σ H Q ⟨w, en, hw, s, p⟩ => by
    subst hw
    unfold eExt at p
    cases hg : en.get i with
    | ow ds0 =>
      rw [hg] at p
      obtain ⟨q, xs, ev, hO, hH, ha⟩ := ow_at s hg
      refine ⟨_, ev, .inl ⟨rfl, xs, SqL.of hH⟩, ?_⟩
      refine goD s p fun d e1 y w1 n1 s1 d1 p1 => ?_
      cases hg1 : e1.get i with
      | ow ds =>
        rw [hg1] at p1
        obtain ⟨q', xs', ev', hO', hH', ha'⟩ := ow_at s1 hg1
        rw [ev] at ev'
        cases ev'
        cases d with
        | list es =>
          obtain ⟨b, zs, rfl, hb, hz⟩ := dp_list d1
          dsimp only at p1
          by_cases hl : ds.length + es.length ≤ lim
          · rw [if_pos hl] at p1
            refine ⟨q, b, xs', zs, rfl, rfl, hH', s1.wo.su _ _ hb, lim_ok (by rw [dpa_len ha', dpa_len hz]; exact hl), ?_⟩
            refine p1 { w1 with H := upd w1.H q (.lst (xs' ++ zs)) } (upd_nx hO') .non ?_ .non
            exact s1.updS (slot_get ev) hO' ⟨q, _, rfl, hO', upd_same, dpa_app ha' hz⟩
          · rw [if_neg hl] at p1
            exact False.elim p1
        | _ => exact False.elim p1
      | _ => rw [hg1] at p1; exact False.elim p1
    | _ => rw [hg] at p; exact False.elim p

/-! ### op= -/
def sAug (i : Nat) (g : D → D → En → R Ent) (m : En → R Ent) (en : En) : R Fl := match en.get i with
  | .sh a => (dv m en).bind fun b e1 => (dv (g a b) e1).bind fun c e2 => .ok .nx (e2.set i (.sh c))
  | _ => .st
theorem od_iadd : OpD X κ (inplaceOp .Add) (fun a b e => match a, b with | .int i, .int j => .ok (.sh (.int (i + j))) e | .str x, .str y => if x.length + y.length ≤ lim then .ok (.sh (.str (x ++ y))) e else .st | _, _ => .st) := by
  refine opd_of (iop_add.or iop_add_str) fun W w σ en x y a b Q s ha hb p => ?_
  cases ha with
  | int i =>
    cases hb with
    | int j => exact .inl ⟨i, j, rfl, rfl, fin_sh s p (.int _)⟩
    | _ => exact False.elim p
  | str i =>
    cases hb with
    | str j =>
      have p' : Po κ W w (if i.length + j.length ≤ lim then R.ok (Ent.sh (.str (i ++ j))) en else .st) (Qe κ σ Q) := p
      by_cases hl : i.length + j.length ≤ lim
      · rw [if_pos hl] at p'
        exact .inr ⟨i, j, rfl, rfl, lim_ok hl, fin_sh s p' (.str _)⟩
      · rw [if_neg hl] at p'
        exact p'.elim
    | _ => exact False.elim p
  | _ => exact False.elim p
def gIadd (a b : D) (e : En) : R Ent := match a, b with | .int i, .int j => .ok (.sh (.int (i + j))) e | .str x, .str y => if x.length + y.length ≤ lim then .ok (.sh (.str (x ++ y))) e else .st | _, _ => .st
def gImul (a b : D) (e : En) : R Ent := match a, b with | .int i, .int j => if (-(2 ^ 64) < i ∧ i < 2 ^ 64) ∨ (-(2 ^ 64) < j ∧ j < 2 ^ 64) then .ok (.sh (.int (i * j))) e else .st | _, _ => .st
theorem od_isub : OpD X κ (inplaceOp .Sub) gSub := by
  refine opd_of iop_sub fun W w σ en x y a b Q s ha hb p => ?_
  cases ha with
  | int i =>
    cases hb with
    | int j => exact ⟨i, j, rfl, rfl, fin_sh s p (.int _)⟩
    | _ => exact False.elim p
  | _ => exact False.elim p
theorem od_imul : OpD X κ (inplaceOp .Mult) gImul := by
  refine opd_of iop_mul fun W w σ en x y a b Q s ha hb p => ?_
  cases ha with
  | int i =>
    cases hb with
    | int j =>
      have p' : Po κ W w (if (-(2 ^ 64) < i ∧ i < 2 ^ 64) ∨ (-(2 ^ 64) < j ∧ j < 2 ^ 64) then R.ok (Ent.sh (.int (i * j))) en else .st) (Qe κ σ Q) := p
      by_cases hl : (-(2 ^ 64) < i ∧ i < 2 ^ 64) ∨ (-(2 ^ 64) < j ∧ j < 2 ^ 64)
      · rw [if_pos hl] at p'
        exact ⟨i, j, rfl, rfl, hl, fin_sh s p' (.int _)⟩
      · rw [if_neg hl] at p'
        exact p'.elim
    | _ => exact False.elim p
  | _ => exact False.elim p
theorem od_iadd' : OpD X κ (inplaceOp .Add) gIadd := od_iadd
theorem StR.setSh {i : Nat} {v : V} {d : D} (s : StR κ w σ en) (hd : Dq w.G v d) : ∃ w', Nx w w' ∧ w'.H = w.H ∧ StR κ w' (σ.set i (some v)) (en.set i (.sh d)) := by
  obtain ⟨w', n, h1, _, h3⟩ := s.store (r := .sh d) i hd (fun z => nomatch z)
  exact ⟨w', n, h1, h3⟩
theorem ds_aug (i : Nat) {x : Str} {e : Expr} {op : Operator} {g : D → D → En → R Ent} {m : En → R Ent} {pos pos' : Pos} (hN : X.N.Nodup) (ho : OpD X κ (inplaceOp op) g) (he : PE X e (tOf κ W m)) (hi : X.N[i]? = some x := by rfl) (hx : Loc X.env.scope x := by first | exact Or.inl rfl | exact Or.inr rfl)
    (hf : X.fn x = true ∨ X.env.scope.names.lookup x = some .local := by first | exact .inl rfl | exact .inr rfl) : PS X (.AugAssign (.Name x pos') op e pos) (tSOf κ W (sAug i g m)) := by
  obtain ⟨r, hr, hg⟩ := ho
  refine ps_imp (ps_aug (ti := r) hN hi hx he (fun pins s σ H x y v u Q I r1 r2 h => hr pins s σ H x y v u Q I r1 r2 h) hf) fun Dn σ H ⟨w, en, hw, s, p⟩ => ?_
  subst hw
  unfold sAug at p
  cases hgi : en.get i with
  | sh a =>
    rw [hgi] at p
    obtain ⟨v, ev, er⟩ := s.at (i := i) (by rw [hgi]; intro z; cases z)
    rw [hgi] at er
    refine ⟨v, ev, ?_⟩
    refine goD s p fun b e1 y w1 n1 s1 d1 p1 => ?_
    refine hg W w1 σ e1 v y a b _ s1 (dp_mono n1.g _ _ er) d1 ?_
    refine poD (m := g a b) (Q1 := fun z H3 => Dn.nx (σ.set i (some z)) H3) s1 p1 fun c e2 z w2 n2 s2 d2 p2 => ?_
    obtain ⟨w3, n3, h3, s3⟩ := s2.setSh (i := i) d2
    have q := p2 w3 n3 _ s3
    rw [h3] at q
    exact q
  | _ => rw [hgi] at p; exact False.elim p
/-- xs[k] += n -/
theorem get_listI : PGet X (fun x y H Q => ∃ p xs k v, x = .ref p ∧ y = .int k ∧ H p = some (.lst xs) ∧ 0 ≤ k ∧ k < 2 ^ 62 ∧ xs[k.toNat]? = some v ∧ Q v H) := by
  intro pins s σ H o i ov iv Q I ro ri h
  obtain ⟨p, xs, k, v, rfl, rfl, hp, h0, h1, h2, q⟩ := h
  cases ro
  obtain ⟨t, rfl⟩ := ri
  obtain ⟨its, n, r, ho, hz⟩ := I.lst hp
  obtain ⟨u, hu, ru⟩ := r.get h2
  have e1 : (2:Int)^63 = 9223372036854775808 := by decide
  have e2 : (2:Int)^62 = 4611686018427387904 := by decide
  exact wpAny_getItem_list (items := its.toArray) ⟨_, ho, rfl, n, rfl⟩ h0 (by omega) (by simpa using hu) ⟨v, H, I, ru, q⟩
def sAugL (i : Nat) (mi m : En → R Ent) (en : En) : R Fl := match en.get i with
  | .ow _ => (dv mi en).bind fun k e1 => match k, e1.get i with
    | .int k, .ow ds => if 0 ≤ k ∧ k < 100000 then match ds[k.toNat]? with
      | some (.int a) => (dv m e1).bind fun b e2 => match b, e2.get i with
        | .int b, .ow ds2 => if k.toNat < ds2.length then .ok .nx (e2.set i (.ow (ds2.set k.toNat (.int (a + b))))) else .st
        | _, _ => .st
      | _ => .st
      else .st
    | _, _ => .st
  | _ => .st
theorem ds_augL (i : Nat) {x : Str} {ei e : Expr} {mi m : En → R Ent} {px tpos pos : Pos} (hi : PE X ei (tOf κ W mi)) (he : PE X e (tOf κ W m)) (hN : X.N[i]? = some x := by rfl)
    (hv : Vis X.env.scope x := by first | exact Or.inl rfl | exact Or.inr (Or.inl rfl) | exact Or.inr (Or.inr rfl)) (hd : (x == ("__debug__" : Str)) = false := by decide) (hcd : (x == ("__classdict__" : Str)) = false := by decide)
    (ha : ∀ ov iv new, augStore ei ov iv new = (do holding [new, ov, iv] (setItem ov iv new); release [new, ov, iv] []; pure .next) := by intros; rfl) :
    PS X (.AugAssign (.Subscript (.Name x px) ei tpos) .Add e pos) (tSOf κ W (sAugL i mi m)) := by
  refine ps_imp (ps_augS (pv i hN hv hd hcd) hi get_listI he ip_add set_list ha) fun Dn σ H ⟨w, en, hw, s, p⟩ => ?_
  subst hw
  unfold sAugL at p
  cases hg : en.get i with
  | ow ds0 =>
    rw [hg] at p
    obtain ⟨q, xs, ev, hO, hH, hal⟩ := ow_at s hg
    refine ⟨_, ev, ?_⟩
    refine goD s p fun k e1 y w1 n1 s1 d1 p1 => ?_
    cases k with
    | int k =>
      have := dp_int d1
      subst this
      cases hg1 : e1.get i with
      | ow ds =>
        rw [hg1] at p1
        dsimp only at p1
        obtain ⟨q', xs', ev', hO', hH', ha'⟩ := ow_at s1 hg1
        rw [ev] at ev'
        cases ev'
        by_cases hk : 0 ≤ k ∧ k < 100000
        · rw [if_pos hk] at p1
          cases hz : ds[k.toNat]? with
          | none => rw [hz] at p1; exact False.elim p1
          | some z =>
            rw [hz] at p1
            obtain ⟨v, hv1, hv2⟩ := dpa_get ha' hz
            cases z with
            | int a =>
              have := dp_int hv2
              subst this
              have e62 : (2:Int)^62 = 4611686018427387904 := by decide
              refine ⟨q, xs', k, .int a, rfl, rfl, hH', hk.1, by omega, hv1, ?_⟩
              refine goD s1 p1 fun b e2 y2 w2 n2 s2 d2 p2 => ?_
              cases b with
              | int b =>
                have := dp_int d2
                subst this
                refine ⟨a, b, rfl, rfl, ?_⟩
                cases hg2 : e2.get i with
                | ow ds2 =>
                  rw [hg2] at p2
                  dsimp only at p2
                  obtain ⟨q2, xs2, ev2, hO2, hH2, ha2⟩ := ow_at s2 hg2
                  rw [ev] at ev2
                  cases ev2
                  by_cases hl : k.toNat < ds2.length
                  · rw [if_pos hl] at p2
                    refine ⟨q, xs2, k, k.toNat, rfl, rfl, hH2, ?_, ?_⟩
                    · unfold ixN
                      rw [if_pos hk.1, if_pos (by rw [dpa_len ha2]; omega)]
                    · refine p2 { w2 with H := upd w2.H q (.lst (xs2.set k.toNat (.int (a + b)))) } (upd_nx hO2) _ ?_
                      exact s2.updS (slot_get ev) hO2 ⟨q, _, rfl, hO2, upd_same, dpa_set _ ha2 (.int _)⟩
                  · rw [if_neg hl] at p2
                    exact False.elim p2
                | _ => rw [hg2] at p2; exact False.elim p2
              | _ => exact False.elim p2
            | _ => exact False.elim p1
        · rw [if_neg hk] at p1
          exact False.elim p1
      | _ => rw [hg1] at p1; exact False.elim p1
    | _ => exact False.elim p1
  | _ => rw [hg] at p; exact False.elim p

/-! ### .replace of written texts: behind a written text -/
def eRepl (m : En → R Ent) (y z : Str) (en : En) : R Ent := (dv m en).bind fun d e => match d with | .str x => if x.length + (x.length + 1) * z.length ≤ lim then .ok (.sh (.str (Txt.replace x y z))) e else .st | _ => .st
def PED (X : Cx) (κ : Kx) (W : WX) (e : Expr) (m : En → R Ent) : Prop := PET X e (tOf κ W m)
def PAD (X : Cx) (κ : Kx) (W : WX) (es : List Expr) (ms : En → R (List Ent)) : Prop := PAT X es (tAOf κ W ms)
theorem dr_of {e : Expr} {m : En → R Ent} (h : PE X e (tOf κ W m)) : PED X κ W e m := CwR.PET.of h
theorem dr_repl {o : Expr} {m : En → R Ent} {y z : Str} {j k : Nat} {c0 c1 apos pos : Pos} (ho : PE X o (tOf κ W m)) (hyz : (y == z) = false := by decide)
    (hst : starEach [.Constant (.str y) j c0, .Constant (.str z) k c1] X.env = [(false, eval (.Constant (.str y) j c0) X.env), (false, eval (.Constant (.str z) k c1) X.env)] := by rfl)
    (hbase : attributeBase o "replace" X.env (eval o X.env) = eval o X.env := by rfl) (hline : (apos.endLine == pos.line) = true := by rfl) :
    PED X κ W (.Call (.Attribute o "replace" apos) [.Constant (.str y) j c0, .Constant (.str z) k c1] [] pos) (eRepl m y z) := by
  intro pins s σ H Q h0 I h
  refine CwR.pet_replC ho hyz hst hbase hline pins s σ H Q h0 I ?_
  obtain ⟨w, en, hw, st, p⟩ := h
  subst hw
  refine goD st p fun d e1 v w1 n1 s1 d1 p1 => ?_
  cases d with
  | str x =>
    have p' : Po κ W w1 (if x.length + (x.length + 1) * z.length ≤ lim then R.ok (Ent.sh (.str (Txt.replace x y z))) e1 else .st) (Qe κ σ Q) := p1
    by_cases hl : x.length + (x.length + 1) * z.length ≤ lim
    · rw [if_pos hl] at p'
      exact ⟨x, dp_str d1, Nat.le_trans hl (by decide), fin_sh s1 p' (.str _)⟩
    · rw [if_neg hl] at p'
      exact False.elim p'
  | _ => exact False.elim p1
theorem pat_imp {es : List Expr} {t t' : TA} (h : PAT X es t) (f : ∀ σ H Q, t' σ H Q → t σ H Q) : PAT X es t' := fun pos pins s σ H Q h0 I hq => h pos pins s σ H Q h0 I (f σ H Q hq)
theorem tCons_of {m : En → R Ent} {ms : En → R (List Ent)} {σ : St} {H : Hp} {Q : List V → Hp → Prop} (q : tAOf κ W (aCons m ms) σ H Q) : tCons (tOf κ W m) (tAOf κ W ms) σ H Q := by
  obtain ⟨w, en, hw, s, p⟩ := q
  subst hw
  refine goE s p fun r e1 v w1 n1 s1 a1 p1 => ?_
  exact goA s1 p1 fun rs e2 vs w2 n2 s2 a2 p2 => p2 w2 (Nx.refl _) (v :: vs) s2 (.cons (a1.mono n2) a2)
theorem dra_nil : PAD X κ W [] aNil := pat_imp pat_nil fun σ H Q ⟨w, en, hw, s, p⟩ => by
  subst hw
  exact p w (Nx.refl _) [] s .nil
theorem dra_cons {e : Expr} {es : List Expr} {m : En → R Ent} {ms : En → R (List Ent)} (h : PED X κ W e m) (hs : PAD X κ W es ms) (hst : starEach (e :: es) X.env = (false, eval e X.env) :: starEach es X.env := by rfl) : PAD X κ W (e :: es) (aCons m ms) :=
  pat_imp (pat_cons h hs hst) fun σ H Q q => tCons_of q
/-- behind a written text a token is out -/
theorem da_tok {c : Str} {j : Nat} {p : Pos} {es : List Expr} {ms : En → R (List Ent)} (hs : PAD X κ W es ms) (hst : starEach (.Constant (.str c) j p :: es) X.env = (false, eval (.Constant (.str c) j p) X.env) :: starEach es X.env := by rfl) :
    PA X (.Constant (.str c) j p :: es) (tAOf κ W (aCons (eC (.str c)) ms)) := by
  refine ⟨fun pos pins s σ H Q I h => ?_⟩
  obtain ⟨w, en, hw, st, po⟩ := h
  subst hw
  rw [hst]
  show wpAny _ _ (spliced ((false, eval (.Constant (.str c) j p) X.env) :: backTo pos (starEach es X.env))) _ _ s
  refine Calls.spliced_cons (Calls.Constant_str ?_)
  have q : tAOf κ W ms σ w.H (fun vs H2 => Q (V.str c :: vs) H2) := by
    have po' : Po κ W w ((ms en).bind fun rs e2 => .ok (.sh (.str c) :: rs) e2) (fun rs en' w' => ∀ vs, StR κ w' σ en' → ArgsR κ w' vs rs → Q vs w'.H) := po
    exact goA st po' fun rs e2 vs w2 n2 s2 a2 p2 => p2 w2 (Nx.refl _) (V.str c :: vs) s2 (.cons (.str c) a2)
  refine wpAny_mono (hs pos pins { s with toks := s.toks + 1 } σ w.H _ (Nat.le_add_left 1 _) (I.tok _) q) (fun us s2 ⟨xs, H2, I2, r2, q2⟩ => ⟨V.str c :: xs, H2, I2, .cons ⟨_, rfl⟩ r2, q2⟩) fun _ _ z => z
end
end CO

/-! CoK: what the top has written, in short. -/
namespace CO
open PySem PySem.Spec PyProof.Rows L2

theorem u100 {k : Nat} {A : Around} (hr : Room k A) : A.units + 100 < cLine := by have := hr.un; omega
theorem u1 {k : Nat} {A : Around} (hr : Room k A) : A.units + 1 < cLine := by have := hr.un; omega
theorem u64 {k : Nat} {A : Around} (hr : Room k A) : A.units + 64 < cLine := by have := hr.un; omega
theorem u65 {k : Nat} {A : Around} (hr : Room k A) : A.units + 65 < cLine := by have := hr.un; omega
/-- an own error's class, the c-th, under the name nm -/
structure ExnOk (K : PySem.W.Frag) (mg : Str → Option Value) (κ : Kx) (c : Nat) (nm : Str) : Prop where
  g : mg nm = some (.ref (κ.ec c))
  k : PySem.W.keepIn K (.ref (κ.ec c)) = true
  e : PySem.W.excIn K (κ.ec c) [.type "ValueError", .type "Exception", .type "BaseException", .type "object"] "ValueError.__new__" = true
  s : PySem.W.subIn K (.ref (κ.ec c)) (.type "BaseException") = some true
  t : PySem.W.typeIn K (.ref (κ.ec c)) = some (.type "type")
def FunOk (K : PySem.W.Frag) (mg : Str → Option Value) (x : Str) (st : Stmt) (ps : List Str) : Prop := ∃ f fd, Fun K x x st f fd ∧ mg x = some (.ref f) ∧ Binds K fd ps []
section
variable {X : Cx} {κ : Kx} {W : WX}
theorem ds_raiseX (c : Nat) {x mm : Str} {j : Nat} {p p2 pos' pos : Pos} (hc : X.calm = true) (tk : Takes X W) (h : ExnOk X.K X.mg κ c x) (hg : Gl X x := by rfl) (hdb : (x == ("__debug__" : Str)) = false := by decide) :
    PS X (.Raise (some (.Call (.Name x p) [.Constant (.str mm) j p2] [] pos')) none pos) (tSOf κ W (sEx_ c)) :=
  ds_raise c hc tk F.excBase_ValueError h.e h.g h.k (raises_own h.s h.t) hg hdb
/-- -n -/
def eNeg (m : En → R Ent) (en : En) : R Ent := (dv m en).bind fun a e => match a with | .int i => .ok (.sh (.int (-i))) e | _ => .st
theorem de_neg {e : Expr} {m : En → R Ent} {pos : Pos} (he : PE X e (tOf κ W m)) : PE X (.UnaryOp .USub e pos) (tOf κ W (eNeg m)) :=
  pe_imp (pe_un un_neg he) fun σ H Q ⟨w, en, hw, s, p⟩ => by
    subst hw
    refine goD s p fun a e1 v w1 n1 s1 d1 p1 => ?_
    cases a with
    | int i => exact ⟨i, dp_int d1, fin_sh s1 p1 (.int _)⟩
    | _ => exact False.elim p1
end
end CO

/-! CoL: the law's script and town. -/
namespace CO
open PySem PySem.Spec PyProof.Rows L2
def eLenSc (i : Nat) (en : En) : R Ent := match en.get i with | .sc ns => .ok (.sh (.int ns.length)) en | _ => .st
def eIxSc (i : Nat) (m : En → R Ent) (en : En) : R Ent := match en.get i with
  | .sc ns => (dv m en).bind fun k e => match k with | .int k => (match atI ns k with | some n => .ok (.sh (.int n)) e | none => .st) | _ => .st
  | _ => .st
def eScNil (i : Nat) (en : En) : R Ent := match en.get i with | .sc ns => .ok (.sh (.bool ns.isEmpty)) en | _ => .st
def eAppTn (i : Nat) (en : En) : R Ent := match en.get i with
  | .wr j => (match en.wd[j]? with | some (.tn k) => if k < lim then .ok (.sh .none) { en with wd := en.wd.set j (.tn (k + 1)) } else .st | _ => .st)
  | _ => .st
section
variable {X : Cx} {κ : Kx} {W : WX} {w : Sn} {σ : St} {en : En}
theorem sc_at {i : Nat} {ns : List Int} (s : StR κ w σ en) (h : en.get i = .sc ns) : ∃ a, σ[i]? = some (some (.ref a)) ∧ SqL κ.K w.H a (ns.map V.int) := by
  obtain ⟨v, e1, e2⟩ := s.at (i := i) (by rw [h]; intro z; cases z)
  rw [h] at e2
  obtain ⟨a, rfl, q⟩ := e2
  exact ⟨a, e1, s.wo.su.seq q⟩
theorem de_lenSc (i : Nat) {x : Str} {p px pos : Pos} (hK : X.K = κ.K) (hm : X.mg "len" = none) (hg : Gl X "len" := by rfl) (hN : X.N[i]? = some x := by rfl)
    (hv : Vis X.env.scope x := by first | exact Or.inl rfl | exact Or.inr (Or.inl rfl) | exact Or.inr (Or.inr rfl)) (hd : (x == ("__debug__" : Str)) = false := by decide) (hcd : (x == ("__classdict__" : Str)) = false := by decide)
    (he : starEach [.Name x px] X.env = (false, eval (.Name x px) X.env) :: starEach [] X.env := by rfl) (hpl : (backTo pos (starEach [] X.env)).any (·.1) = false := by rfl) :
    PE X (.Call (.Name "len" p) [.Name x px] [] pos) (tOf κ W (eLenSc i)) :=
  pe_imp (pe_callB call_len hg hm PySem.boot_len (pa_cons (pv i hN hv hd hcd) pa_nil he) (by decide) (by decide) he hpl) fun σ H Q ⟨w, en, hw, s, p⟩ => by
    subst hw
    unfold eLenSc at p
    cases hq : en.get i with
    | sc ns =>
      rw [hq] at p
      obtain ⟨a, ev, hs⟩ := sc_at s hq
      exact ⟨_, ev, _, ns.length, rfl, .inl ⟨_, by rw [hK]; exact hs, by rw [List.length_map]⟩, fin_sh s p (.int _)⟩
    | _ => rw [hq] at p; exact False.elim p
theorem de_ixSc (i : Nat) {x : Str} {b : Expr} {mi : En → R Ent} {px pos : Pos} (hK : X.K = κ.K) (hb : PE X b (tOf κ W mi)) (hs : PlainIx b := by exact fun _ _ => rfl) (hN : X.N[i]? = some x := by rfl)
    (hv : Vis X.env.scope x := by first | exact Or.inl rfl | exact Or.inr (Or.inl rfl) | exact Or.inr (Or.inr rfl)) (hd : (x == ("__debug__" : Str)) = false := by decide) (hcd : (x == ("__classdict__" : Str)) = false := by decide) :
    PE X (.Subscript (.Name x px) b pos) (tOf κ W (eIxSc i mi)) :=
  pe_imp (pe_ix ix_seq (pv i hN hv hd hcd) hb hs) fun σ H Q ⟨w, en, hw, s, p⟩ => by
    subst hw
    unfold eIxSc at p
    cases hq : en.get i with
    | sc ns =>
      rw [hq] at p
      obtain ⟨a, ev, h1⟩ := sc_at s hq
      obtain ⟨v', ev', er⟩ := s.at (i := i) (by rw [hq]; intro z; cases z)
      rw [hq] at er
      obtain ⟨a', rfl, ha'⟩ := er
      rw [ev] at ev'
      cases ev'
      refine ⟨_, ev, ?_⟩
      refine goD s p fun k e1 v1 w1 n1 s1 d1 p1 => ?_
      cases k with
      | int k =>
        have := dp_int d1
        subst this
        dsimp only at p1
        cases e : atI ns k with
        | none => rw [e] at p1; exact False.elim p1
        | some n =>
          rw [e] at p1
          refine .inl ⟨a, ns.map V.int, k, .int n, rfl, rfl, by rw [hK]; exact s1.wo.su.seq (n1.g.seq ha'), ?_, fin_sh s1 p1 (.int _)⟩
          unfold atI at e ⊢
          rw [List.length_map]
          cases q : ixN ns.length k with
          | none => rw [q] at e; cases e
          | some j =>
            rw [q] at e
            show (ns.map V.int)[j]? = some (V.int n)
            rw [List.getElem?_map, show ns[j]? = some n from e]
            rfl
      | _ => exact False.elim p1
    | _ => rw [hq] at p; exact False.elim p
theorem dpa_intsH {K : PySem.W.Frag} {H : Hp} : ∀ ns : List Int, DpAll K H (ns.map V.int) (ns.map .int)
  | [] => .nil
  | n :: ns => .cons (.int n) (dpa_intsH ns)
theorem lay_ints : ∀ ns : List Int, PyData.canLayAll0 (ns.map .int) = true ∧ PyData.depthAll (ns.map .int) = 0
  | [] => ⟨by simp [PyData.canLayAll0], by simp [PyData.depthAll]⟩
  | n :: ns => by
    obtain ⟨h1, h2⟩ := lay_ints ns
    exact ⟨by simp [PyData.canLayAll0, PyData.canLay0, h1], by simp [PyData.depthAll, PyData.depth, h2]⟩
theorem shaped_ints (ns : List Int) : SeqAt.shaped (.list (ns.map .int)) = true := by
  obtain ⟨h1, h2⟩ := lay_ints ns
  unfold SeqAt.shaped
  simp [PyData.canLay0, PyData.depth, h1, h2]
theorem dt_scNil (i : Nat) {x : Str} {px p2 pos : Pos} (hK : X.K = κ.K) (hu : X.A.units + 64 < cLine) (hN : X.N[i]? = some x := by rfl) (hv : Vis X.env.scope x := by first | exact Or.inl rfl | exact Or.inr (Or.inl rfl) | exact Or.inr (Or.inr rfl)) (hd : (x == ("__debug__" : Str)) = false := by decide)
    (hcd : (x == ("__classdict__" : Str)) = false := by decide) (hm : behindInMarks .Eq (.List [] p2) = false := by first | exact nomark _ | rfl) : PT X (.Compare (.Name x px) [.Eq] [.List [] p2] pos) (tTOf κ W (tst (eScNil i))) :=
  pt_imp (pt_cmpR (op_eqD hu) (pv i hN hv hd hcd) (pe_lst pa_nil) hm) fun σ H Q q => tTest_of (m := eScNil i) (fun σ H Q ⟨w, en, hw, s, p⟩ => by
    subst hw
    unfold eScNil at p
    cases hq : en.get i with
    | sc ns =>
      rw [hq] at p
      obtain ⟨a, ev, hs⟩ := sc_at s hq
      refine ⟨_, ev, by decide, fun b hb => ?_⟩
      have n1 := grow_nx (o := .lst []) s.wo.su hb
      have s1 := s.grow (o := .lst []) hb
      have hG : SqL κ.K w.G a (ns.map V.int) := by
        obtain ⟨v', ev', er⟩ := s.at (i := i) (by rw [hq]; intro z; cases z)
        rw [hq] at er
        obtain ⟨a', rfl, ha'⟩ := er
        rw [ev] at ev'
        cases ev'
        exact ha'
      have hA : SqL X.K (upd w.H b (.lst [])) a (ns.map V.int) := by
        rw [hK]
        exact s1.wo.su.seq (n1.g.seq hG)
      have hB : SqL X.K (upd w.H b (.lst [])) b [] := SqL.of upd_same
      have e : PyData.eqv (.list (ns.map .int)) (.list []) = ns.isEmpty := by
        cases ns <;> simp [PyData.eqv, PyData.eqvAll]
      refine ⟨.list (ns.map .int), .list [], .lst hA (dpa_intsH ns), .lst hB .nil, shaped_ints ns, by decide, ?_⟩
      rw [e]
      exact p (grow w b (.lst [])) n1 (.bl ns.isEmpty) s1 (.bl _)
    | _ => rw [hq] at p; exact False.elim p) q

/-! ### the town -/
theorem StR.updW {j : Nat} {p : Addr} {o : HO} {ob : Ob} (s : StR κ w σ en) (hp : w.ad[j]? = some p) (hO : w.O p = some (.w j)) (hr : ObR κ { w with H := upd w.H p o } (.w j) p ob) : StR κ { w with H := upd w.H p o } σ { en with wd := en.wd.set j ob } := by
  have ne : ∀ {q : Addr} {jx : Ix}, w.O q = some jx → jx ≠ .w j → q ≠ p := fun e hj z => by
    rw [z, hO] at e
    exact hj (Option.some.inj e).symm
  refine ⟨⟨s.wo.fr, fun b u e => ?_, by show w.ad.length = (en.wd.set j ob).length; rw [List.length_set]; exact s.wo.wl, fun k ob' q e1 e2 => ?_⟩, s.ln, fun k => ?_⟩
  · have e' : w.G b = some u := e
    have nb : b ≠ p := fun z => by rw [z, s.wo.fr p _ hO] at e'; cases e'
    exact (upd_ne nb).trans (s.wo.su b u e')
  · by_cases hk : j = k
    · subst hk
      have e1' : (en.wd.set j ob)[j]? = some ob' := e1
      have e2' : w.ad[j]? = some q := e2
      rw [hp] at e2'
      cases e2'
      have hl : j < en.wd.length := by rw [← s.wo.wl]; exact (List.getElem?_eq_some_iff.mp hp).1
      rw [List.getElem?_set_self hl] at e1'
      cases e1'
      exact hr
    · have e1' : (en.wd.set j ob)[k]? = some ob' := e1
      rw [List.getElem?_set_ne hk] at e1'
      have x := s.wo.wd k ob' q e1' e2
      have nw : Ix.w k ≠ Ix.w j := fun z => hk (by injection z with z; exact z.symm)
      cases ob' with
      | tn m => exact ⟨x.1, (upd_ne (ne x.1 nw)).trans x.2⟩
      | tb g rows kept =>
        obtain ⟨dx, l, vg, rs, a1, a2, a3, a4, a5, a6, a7, a8⟩ := x
        exact ⟨dx, l, vg, rs, a1, a2, a3, (upd_ne (ne a1 nw)).trans a4, (upd_ne (ne a2 nw)).trans a5, (upd_ne (ne a3 nw)).trans a6, a7, a8⟩
  · rcases s.sl k with q | ⟨u, q1, q2⟩
    · exact .inl q
    · refine .inr ⟨u, q1, ?_⟩
      have nk : Ix.s k ≠ Ix.w j := fun z => nomatch z
      show EntR κ { w with H := upd w.H p o } (.s k) u (en.get k)
      cases hg : en.get k with
      | no => trivial
      | sh d => rw [hg] at q2; exact q2
      | ow ds =>
        rw [hg] at q2
        obtain ⟨q, xs, e1, e2, e3, e4⟩ := q2
        exact ⟨q, xs, e1, e2, (upd_ne (ne e2 nk)).trans e3, e4⟩
      | dk kvs =>
        rw [hg] at q2
        obtain ⟨q, xs, e1, e2, e3, e4⟩ := q2
        exact ⟨q, xs, e1, e2, (upd_ne (ne e2 nk)).trans e3, e4⟩
      | wr j => rw [hg] at q2; exact q2
      | sc => rw [hg] at q2; exact q2
theorem de_appTn (i : Nat) {x : Str} {j0 : Nat} {pc px apos cpos : Pos} (hN : X.N[i]? = some x := by rfl)
    (hv : Vis X.env.scope x := by first | exact Or.inl rfl | exact Or.inr (Or.inl rfl) | exact Or.inr (Or.inr rfl)) (hd : (x == ("__debug__" : Str)) = false := by decide) (hcd : (x == ("__classdict__" : Str)) = false := by decide)
    (hbase : attributeBase (.Name x px) "append" X.env (eval (.Name x px) X.env) = eval (.Name x px) X.env := by rfl)
    (hfew : ((backTo cpos (starEach (.Constant (.int 0) j0 pc :: []) X.env)).all (fun x => !x.1) && (backToKw cpos (keywordEach [] X.env)).all (fun x => x.1.isSome) && decide ((Expr.Constant (.int 0) j0 pc :: []).length + ([] : List Keyword).length + (if ([] : List Keyword).isEmpty then 0 else 1) < 30)) = true := by rfl)
    (hline : (apos.endLine == cpos.line) = true := by rfl) (hs : starEach (.Constant (.int 0) j0 pc :: []) X.env = (false, eval (.Constant (.int 0) j0 pc) X.env) :: starEach [] X.env := by rfl) (hplain : (backTo cpos (starEach [] X.env)).any (·.1) = false := by rfl) :
    PE X (.Call (.Attribute (.Name x px) "append" apos) [.Constant (.int 0) j0 pc] [] cpos) (tOf κ W (eAppTn i)) :=
  pe_imp (pe_bm F.plainAttrs_list F.slot_list_append F.type_list_append mt_append (pv i hN hv hd hcd) (pa_cons pe_int pa_nil hs) hbase hfew hline hs hplain) fun σ H Q ⟨w, en, hw, s, p⟩ => by
    subst hw
    unfold eAppTn at p
    cases hg : en.get i with
    | wr j =>
      rw [hg] at p
      obtain ⟨v, ev, er⟩ := s.at (i := i) (by rw [hg]; intro z; cases z)
      rw [hg] at er
      obtain ⟨q, rfl, ea⟩ := er
      dsimp only at p
      cases eo : en.wd[j]? with
      | none => rw [eo] at p; exact False.elim p
      | some ob =>
        rw [eo] at p
        cases ob with
        | tn k =>
          dsimp only at p
          obtain ⟨hO, hH⟩ := s.wo.wd j _ q eo ea
          by_cases hl : k < lim
          · rw [if_pos hl] at p
            refine ⟨_, ev, .inl ⟨rfl, _, SqL.of hH⟩, q, _, .int 0, rfl, rfl, hH, by rw [List.length_replicate]; exact lim_lt hl, ?_⟩
            have e : List.replicate k (V.int 0) ++ [V.int 0] = List.replicate (k + 1) (V.int 0) := List.replicate_succ'.symm
            rw [e]
            exact p { w with H := upd w.H q (.lst (List.replicate (k + 1) (.int 0))) } (upd_nx hO) .non (s.updW ea hO ⟨hO, upd_same⟩) .non
          · rw [if_neg hl] at p
            exact False.elim p
        | tb g rows kept => exact False.elim p
    | _ => rw [hg] at p; exact False.elim p
end
end CO

/-! CoM: sorted over data, tuples with nothing in them too. -/
namespace CoSort
open PySem PySem.SeqAt PySem.W PyProof.Rows
section
variable {prog : Program} {w : World} {A : Around} {E : Value → Shared → Prop} {s : Shared}
theorem tup_lt_call {Q : Value → Shared → Prop} {p q : Addr} {xs ys : Array Value} {e r : Nat → Bool} (hp : s.heap.IsTuple p xs) (hq : s.heap.IsTuple q ys)
    (he : ∀ j (h1 : j < xs.size) (h2 : j < ys.size), EqAt A.in1 s xs[j] ys[j] (e j)) (hr : ∀ j (h1 : j < xs.size) (h2 : j < ys.size), e j = false → RcLt A.in1 s xs[j] ys[j] (r j))
    (h : Q (.bool (firstLt e r (decide (xs.size < ys.size)) (List.range (min xs.size ys.size)))) s) : wpAny (model prog w) A (call (.builtin "tuple.__lt__") [.ref p, .ref q]) Q E s := by
  obtain ⟨⟨c1, d1, t1, s1⟩, ho1, hc1, n1, hd1⟩ := id hp
  obtain ⟨⟨c2, d2, t2, s2⟩, ho2, hc2, n2, hd2⟩ := id hq
  simp only at hc1 hd1 hc2 hd2
  subst hc1 hd1 hc2 hd2
  exact call_meets F.slot_tuple_lt ⟨_, ho1, rfl⟩ F.entry_tuple_lt (F.args_tuple_lt_2 _ _) (tuple_ltAt p q xs ys n1 n2 d1 d2 s1 s2 e r) ⟨ho1, ho2, he, hr, h⟩
theorem one_tup {xs ys : List PyData} {a b : Value} {as bs : List Addr} {Q : Bool → Shared → Prop} (ra : Reads s.heap a (.tuple xs) as) (rb : Reads s.heap b (.tuple ys) bs) (h : alike (.tuple xs) (.tuple ys) = true)
    (hu : A.units + min (PyData.tuple xs).depth (PyData.tuple ys).depth < cLine) (hq : Q (dataLt (.tuple xs) (.tuple ys)) s) : wpAny (model prog w) A (oneLt' true a b) Q E s := by
  have al : alikeAll xs ys = true := by simpa [alike] using h
  cases ra with
  | @tuple l o vs n _ as1 g1 g2 g3 g4 =>
    cases rb with
    | @tuple l' o' vs' n' _ bs1 k1 k2 k3 k4 =>
      have m1 : vs.size = xs.length := by simpa using ReadsAll.length _ _ _ g4
      have m2 : vs'.size = ys.length := by simpa using ReadsAll.length _ _ _ k4
      rw [dataLt_tuple, ← firstLt_toks xs ys al, ← m1, ← m2] at hq
      rw [oneLt'_eq]
      simp only [if_true]
      refine wpAny_bind (wpAny_cRoomFor (room_here hu) (wpAny_bind (wpAny_callSpecialIfBound?_slot (T := "tuple") ⟨_, g1, g2⟩ F.slot_tuple_lt ?_)))
      refine tup_lt_call (e := pairEq xs ys) (r := fun j => dataLt (xs.getD j .none) (ys.getD j .none)) ⟨_, g1, g2, _, g3⟩ ⟨_, k1, k2, _, k3⟩ (fun j j1 j2 => ?_) (fun j j1 j2 hj => ?_) (wpAny_truthy_bool hq)
      · have z := eqAt_alikeAll xs ys A.in1 s vs.toList vs'.toList _ _ g4 k4 al (room_in hu) j (by simpa using j1) (by simpa using j2)
        simpa using z
      · have z := rcLt_alikeAll xs ys A.in1 s vs.toList vs'.toList _ _ g4 k4 al (room_in hu) j (by simpa using j1) (by simpa using j2) hj
        simpa using z
/-- tuples' first items, or none -/
theorem firsts_of {M : Model} : ∀ (vs : List Value) {Q : List (Option Value) → Shared → Prop}, (∀ v ∈ vs, ∃ p o xs n, v = .ref p ∧ s.heap.get? p = some o ∧ o.cls = .type "tuple" ∧ o.data = .seq xs n) →
    (∀ fs, fs.length = vs.length → (∀ p o xs n, vs[0]? = some (.ref p) → s.heap.get? p = some o → o.data = .seq xs n → fs[0]? = some xs[0]?) → Q fs s) → wpAny M A (vs.mapM firstOfTuple') Q E s
  | [], _, _, h => by
    rw [List.mapM_nil]
    exact wpAny_pure (h [] rfl fun _ _ _ _ z => by simp at z)
  | v :: vs, Q, hv, h => by
    obtain ⟨p, o, xs, n, rfl, ho, hc, hd⟩ := hv v List.mem_cons_self
    rw [List.mapM_cons, kas_first_eq]
    refine wpAny_bind (wpAny_bind (Looks.here (show Looks M s.heap (typeOf (.ref p)) o.cls from (Looks.ld ho).andThen .now) ?_))
    rw [hc, if_neg (by first | decide | simp)]
    refine wpAny_bind (listItems_at ho hd (wpAny_pure (wpAny_bind (firsts_of vs (fun u hu => hv u (List.mem_cons_of_mem _ hu)) fun fs hl _ => wpAny_pure ?_))))
    refine h _ (by rw [List.length_cons, List.length_cons, hl]) fun p' o' xs' n' e1 e2 e3 => ?_
    simp at e1
    subst e1
    rw [ho] at e2
    cases e2
    rw [hd] at e3
    cases e3
    rfl
theorem kind_tup0 {M : Model} {vs : List Value} {Q : SortKind → Shared → Prop} (h2 : 2 ≤ vs.length) (hv : ∀ v ∈ vs, ∃ p o xs n, v = .ref p ∧ s.heap.get? p = some o ∧ o.cls = .type "tuple" ∧ o.data = .seq xs n)
    (h0 : ∀ p o xs n, vs[0]? = some (.ref p) → s.heap.get? p = some o → o.data = .seq xs n → xs[0]? = none) (h : Q oneType' s) : wpAny M A (keyKind' vs.toArray) Q E s := by
  obtain ⟨v1, rest, rfl⟩ : ∃ v1 rest, vs = v1 :: rest := by
    cases vs with
    | nil => simp at h2
    | cons v1 rest => exact ⟨v1, rest, rfl⟩
  rw [keyKind'_eq, List.mapM_toArray, map_eq_pure_bind]
  refine wpAny_bind (wpAny_bind (firsts_of (v1 :: rest) hv fun fs hl hf => wpAny_pure ?_))
  obtain ⟨p, o, xs, n, rfl, ho, hc, hd⟩ := hv v1 List.mem_cons_self
  have f0 : fs[0]? = some none := by
    rw [hf p o xs n rfl ho hd, h0 p o xs n rfl ho hd]
  obtain ⟨fr, rfl⟩ : ∃ fr, fs = none :: fr := by
    cases fs with
    | nil => simp at f0
    | cons f fr =>
      simp at f0
      subst f0
      exact ⟨fr, rfl⟩
  rw [if_neg (by simp), if_neg (by simp)]
  rw [oneTypeOnly'_eq, List.mapM_toArray, map_eq_pure_bind]
  refine wpAny_bind (wpAny_bind (wpAny_bind (kas_mapM (r := Value.type "tuple") _ (fun v hm Q' hq => ?_) (wpAny_pure ?_))))
  · obtain ⟨p', o', xs', n', rfl, ho', hc', hd'⟩ := hv v hm
    exact Looks.here (show Looks M s.heap (typeOf (.ref p')) (.type "tuple") from hc' ▸ (Looks.ld ho').andThen .now) hq
  · have hall : ((List.map (fun _ => Value.type "tuple") (Value.ref p :: rest)).toArray.all fun x => x == Value.type "tuple") = true := by
      simp only [List.all_toArray, List.all_map, List.all_eq_true]
      intro _ _
      exact beq_self_eq_true _
    have hz : (List.map (fun _ => Value.type "tuple") (Value.ref p :: rest)).toArray[0]? = some (Value.type "tuple") := by simp
    rw [hz]
    simp only [hall, if_true]
    exact wpAny_pure (wpAny_pure h)
/-- the kinds of lists that we sort -/
def Sort3 (ds : List PyData) : Prop := Sortable ds ∨ (ds[0]? = some (.tuple []) ∧ ∀ d, d ∈ ds → ∃ xs, d = .tuple xs)
theorem sorts3 {vs : List Value} {ds : List PyData} (e : EachIs (fun v d => ∃ as, Reads s.heap v d as) vs ds) (hal : AllAlike ds) (hk : Sort3 ds) (hu : ∀ d, d ∈ ds → A.units + d.depth < cLine) : SortsAt prog w A s (dataKind s.heap ds) vs := by
  rcases hk with hk | ⟨h0, ht⟩
  · exact SortsAt.data e hal hk hu
  · refine ⟨fun v hv => ?_, oneType', ?_, fun h2 E Q hq => ?_⟩
    · obtain ⟨d, hd, as, r⟩ := e.left v hv
      exact ⟨_, dataKind_some hal hd r⟩
    · intro E x y a b Q ha hb hq
      obtain ⟨d, as, hd, ra, rfl⟩ := dataKind_inv ha
      obtain ⟨d', as', hd', rb, rfl⟩ := dataKind_inv hb
      obtain ⟨xs, rfl⟩ := ht d hd
      obtain ⟨ys, rfl⟩ := ht d' hd'
      rw [keyLt'_oneType]
      exact one_tup ra rb (hal _ hd _ hd') (Nat.lt_of_le_of_lt (Nat.add_le_add_left (Nat.min_le_left _ _) _) (hu _ hd)) hq
    · have obj : ∀ v ∈ vs, ∃ p o xs n, v = Value.ref p ∧ s.heap.get? p = some o ∧ o.cls = .type "tuple" ∧ o.data = .seq xs n := fun v hv => by
        obtain ⟨d, hd, as, r⟩ := e.left v hv
        obtain ⟨xs, rfl⟩ := ht d hd
        cases r with
        | tuple g1 g2 g3 g4 => exact ⟨_, _, _, _, rfl, g1, g2, g3⟩
      refine kind_tup0 h2 obj (fun p o xs n e1 e2 e3 => ?_) hq
      cases e with
      | nil => simp at e1
      | cons hr _ =>
        rename_i v d vs ds
        simp at e1 h0
        subst e1 h0
        obtain ⟨as, r⟩ := hr
        cases r with
        | tuple g1 g2 g3 g4 =>
          rw [e2] at g1
          cases g1
          rw [e3] at g3
          cases g3
          have := ReadsAll.length _ _ _ g4
          simp at this
          simp [this]
theorem sorted3 {l : Addr} {vs : List Value} {R : Value → PyData → Prop} {ds : List PyData} {Q : Value → Shared → Prop} (hl : s.heap.IsList l vs.toArray) (e : EachIs R vs ds) (er : EachIs (fun v d => ∃ as, Reads s.heap v d as) vs ds) (hal : AllAlike ds) (hk : Sort3 ds) (hL : ds.length ≤ sizeLine)
    (hu : ∀ d, d ∈ ds → A.units + 2 + d.depth < cLine) (h : ∀ out, out.length = ds.length → EachIs R out (ds.mergeSort (dataLe false id)) → Q (.ref (s.heap.objs.size + 1)) { s with heap := sortedAll s.heap vs (List.toArray out) }) :
    wpAny (model prog w) A (call (.builtin "sorted") [.ref l]) Q E s := by
  have er2 : EachIs (fun v d => ∃ as, Reads (sortingHeap (copyHeap s.heap vs) (s.heap.objs.size + 1) vs) v d as) vs ds := er.mono fun _ _ z => by
    obtain ⟨as, r⟩ := z
    exact ⟨as, PyProof.Rows.Reads.keeps (fun _ _ => sorting_copy_old) r⟩
  have e3 : EachIs R (sortVals (dataKind (sortingHeap (copyHeap s.heap vs) (s.heap.objs.size + 1) vs) ds) false vs vs) (ds.mergeSort (dataLe false id)) := by
    have q := sortVals_data (h' := sortingHeap (copyHeap s.heap vs) (s.heap.objs.size + 1) vs) (enc := id) (bs := ds) (vs := vs) false e er2 (by rw [List.map_id]; exact hal)
    rw [List.map_id] at q
    exact q
  exact sorted_vals hl (sorts3 (s := { s with heap := sortingHeap (copyHeap s.heap vs) (s.heap.objs.size + 1) vs }) er2 hal hk hu) (by rw [e.length]; exact hL) (h _ ((sortVals_length false rfl).trans e.length) e3)
end
end CoSort
namespace CO
open PySem PySem.Spec PyProof.Rows L2
/-- the order of sorted -/
def leD : D → D → Bool := PySem.W.dataLe false id
def sortDs (ds : List D) : List D := ds.mergeSort leD
def isTup : D → Bool
  | .tuple _ => true | _ => false
def sort3 (ds : List D) : Bool := ds.all (fun d => match d with | .tuple (_ :: _) => true | _ => false) || ds.all (fun d => match d with | .tuple _ => false | .none => false | _ => true) || ((match ds with | .tuple [] :: _ => true | _ => false) && ds.all isTup)
def canSort (ds : List D) : Bool := decide (ds.length ≤ lim) && ds.all SeqAt.shaped && ds.all (fun a => ds.all fun b => PySem.W.alike a b) && sort3 ds
theorem sort3_ok {ds : List D} (h : sort3 ds = true) : CoSort.Sort3 ds := by
  unfold sort3 at h
  rw [Bool.or_eq_true, Bool.or_eq_true, Bool.and_eq_true] at h
  rcases h with (h | h) | ⟨h1, h2⟩
  · refine .inl (.inl fun d hd => ?_)
    have q := List.all_eq_true.mp h d hd
    cases d with
    | tuple xs =>
      cases xs with
      | nil => cases q
      | cons x r => exact ⟨x, r, rfl⟩
    | _ => cases q
  · refine .inl (.inr fun d hd => ?_)
    have q := List.all_eq_true.mp h d hd
    refine ⟨fun z => ?_, fun xs z => ?_⟩
    · rw [z] at q; cases q
    · rw [z] at q; cases q
  · refine .inr ⟨?_, fun d hd => ?_⟩
    · cases ds with
      | nil => cases h1
      | cons d ds =>
        cases d with
        | tuple xs =>
          cases xs with
          | nil => rfl
          | cons _ _ => cases h1
        | _ => cases h1
    · have q := List.all_eq_true.mp h2 d hd
      cases d with
      | tuple xs => exact ⟨xs, rfl⟩
      | _ => cases q
theorem canSort_ok {ds : List D} (h : canSort ds = true) : ds.length ≤ lim ∧ (∀ d ∈ ds, d.depth ≤ 64) ∧ PySem.W.AllAlike ds ∧ CoSort.Sort3 ds := by
  unfold canSort at h
  rw [Bool.and_eq_true, Bool.and_eq_true, Bool.and_eq_true, decide_eq_true_eq] at h
  obtain ⟨⟨⟨h1, h2⟩, h3⟩, h4⟩ := h
  exact ⟨h1, fun d hd => SeqAt.depth_of_shaped (List.all_eq_true.mp h2 d hd), fun a ha b hb => List.all_eq_true.mp (List.all_eq_true.mp h3 a ha) b hb, sort3_ok h4⟩
section
variable {X : Cx} {κ : Kx} {W : WX} {w : Sn} {σ : St} {en : En}
def rSortD : List V → Hp → VK → Prop := fun vs H Q => ∃ (a : Addr) (xs : List V) (ds : List D) (G : Hp), vs = [V.ref a] ∧ H a = some (.lst xs) ∧ DqAll G xs ds ∧ Same G H ∧ canSort ds = true ∧
  ∀ (ys : List V) (p : Addr), DqAll G ys (sortDs ds) → H p = none → Q (.ref p) (upd H p (.lst ys))
theorem each_dq {G : Hp} : ∀ {xs : List V} {us : List Value} {ds : List D}, DqAll G xs ds → Vals xs us → PySem.W.EachIs (fun u d => ∃ x, RelV x u ∧ Dq G x d) us ds
  | _, _, _, .nil, .nil => .nil
  | _, _, _, .cons q t, .cons r s => .cons ⟨_, r, q⟩ (each_dq t s)
theorem each_back {G : Hp} : ∀ {us : List Value} {ds : List D}, PySem.W.EachIs (fun u d => ∃ x, RelV x u ∧ Dq G x d) us ds → ∃ xs, Vals xs us ∧ DqAll G xs ds
  | _, _, .nil => ⟨[], .nil, .nil⟩
  | _, _, .cons ⟨x, r, q⟩ t => by
    obtain ⟨xs, h1, h2⟩ := each_back t
    exact ⟨x :: xs, .cons r h1, .cons q h2⟩
theorem each_reads {h : Heap} : ∀ {us : List Value} {ds : List D} {as : List Addr}, ReadsAll h us ds as → PySem.W.EachIs (fun u d => ∃ as, Reads h u d as) us ds
  | _, _, _, .nil => .nil
  | _, _, _, .cons r t => .cons ⟨_, r⟩ (each_reads t)
theorem call_sortD (hu : X.A.units + 100 < cLine) : CallR X (.builtin "sorted") rSortD := by
  intro pins s σ H vs us Q I r h
  obtain ⟨a, xs, ds, G, rfl, ha, hd, hs, hc, q⟩ := h
  obtain ⟨c1, c2, c3, c4⟩ := canSort_ok hc
  obtain ⟨its, rv, hl, hz⟩ := I.list (SqL.of ha)
  rw [Vals.ref1 r]
  obtain ⟨as, rd⟩ := Dp.readsAll I ds xs its (dqa_dp ds xs (dpa_mono hs ds xs hd)) rv
  refine CoSort.sorted3 (R := fun u d => ∃ x, RelV x u ∧ Dq G x d) hl.isList (each_dq hd rv) (each_reads rd) c3 c4 (lim_ok c1) (fun d hm => ?_) fun out ho eo => ?_
  · have := c2 d hm
    omega
  · obtain ⟨ys, y1, y2⟩ := each_back eo
    obtain ⟨ep, he'⟩ := PyProof.Rows.sortedAll_at s.heap its out.toArray
    have hlen : ys.length ≤ sizeLine := by
      rw [y1.length, ho]
      exact lim_ok c1
    exact ⟨.ref _, upd H (s.heap.objs.size + 1) (.lst ys), I.laid (t' := s.toks) (fun _ _ => PyProof.Rows.sortedAll_old) (Nat.le_succ _) ⟨hlen, out, ep, y1, he'⟩, rfl, q ys _ y2 (I.hok.fresh (Nat.le_succ _))⟩
def gSort : List D → En → R Ent
  | [.list ds], e => if canSort ds = true then .ok (.ow (sortDs ds)) e else .st
  | _, _ => .st
theorem cd_sort (hu : X.A.units + 100 < cLine) : CallD X κ (.builtin "sorted") gSort := by
  refine ⟨_, call_sortD hu, fun W w σ en vs ds Q s h p => ?_⟩
  cases h with
  | nil => exact False.elim p
  | cons h t =>
    cases t with
    | cons _ _ => cases h <;> exact False.elim p
    | nil =>
      cases h with
      | lst h1 h2 =>
        rename_i a xs ds
        have p' : Po κ W w (if canSort ds = true then R.ok (Ent.ow (sortDs ds)) en else .st) (Qe κ σ Q) := p
        by_cases hl : canSort ds = true
        · rw [if_pos hl] at p'
          exact ⟨a, xs, ds, w.G, rfl, s.wo.su _ _ h1, h2, s.wo.su, hl, fun ys q hy hq => fin_ow s p' hy hq⟩
        · rw [if_neg hl] at p'
          exact False.elim p'
      | _ => exact False.elim p
end
end CO

/-! CoN: set(list), sorted(set), len(set): ints, texts. -/
namespace CO
open PySem PySem.Spec PyProof.Rows L2

/-- one key more -/
def hasK (k : Key) : List Key → Bool
  | [] => false
  | q :: qs => decide (k = q) || hasK k qs
theorem hasK_iff {k : Key} : ∀ {l : List Key}, hasK k l = true ↔ k ∈ l
  | [] => by simp [hasK]
  | q :: qs => by
    unfold hasK
    rw [Bool.or_eq_true, decide_eq_true_eq, hasK_iff, List.mem_cons]
def addK (k : Key) (l : List Key) : List Key := if hasK k l = true then l else k :: l
/-- an entry of a set: a key, its hash -/
def KeyE (P : Program) (w : World) (e : Int × Value) (k : Key) : Prop := RelV (kV k) e.2 ∧ e.1 = (mixKind P w).hash k
theorem paired_perm {α β : Type} {R : α → β → Prop} {l l' : List α} (p : l.Perm l') : ∀ {ks : List β}, Paired R l ks → ∃ ks', Paired R l' ks' ∧ ks'.Perm ks := by
  induction p with
  | nil => exact fun h => ⟨_, h, List.Perm.refl _⟩
  | cons x p ih =>
    intro ks h
    cases h with
    | cons r t =>
      obtain ⟨ks', h1, h2⟩ := ih t
      exact ⟨_ :: ks', .cons r h1, h2.cons _⟩
  | swap x y l =>
    intro ks h
    cases h with
    | cons r t =>
      cases t with
      | cons r' t => exact ⟨_, .cons r' (.cons r t), List.Perm.swap _ _ _⟩
  | trans p q ih1 ih2 =>
    intro ks h
    obtain ⟨k1, h1, h2⟩ := ih1 h
    obtain ⟨k2, h3, h4⟩ := ih2 h1
    exact ⟨k2, h3, h4.trans h2⟩
/-- the set of the keys ks at a, that can be walked -/
def SetQ (P : Program) (w : World) (h : Heap) (a : Addr) (ks : List Key) : Prop :=
  ∃ o es ep t qs, h.get? a = some o ∧ o.ExactSet ∧ o.data = .set es ep t ∧ Paired (KeyE P w) es.toList qs ∧ qs.Perm ks ∧ ks.Nodup ∧ es.size < scanBound ∧ t.fits es.size = true ∧ Ris t.place.toList ∧ (w.params.followText "set-order" = true ∨ t.led = true)
section
variable {P : Program} {w : World} {A : Around} {E : Value → Shared → Prop} {s : Shared} {a : Addr} {ks : List Key}
theorem SetQ.keep {h h' : Heap} (R : SetQ P w h a ks) (k : ∀ o, h.get? a = some o → h'.get? a = some o) : SetQ P w h' a ks := by
  obtain ⟨o, es, ep, t, qs, ho, r⟩ := R
  exact ⟨o, es, ep, t, qs, k o ho, r⟩
theorem keyE_elems : ∀ {l : List (Int × Value)} {qs : List Key}, Paired (KeyE P w) l qs → ElemsOf (mixKind P w) l
  | _, _, .nil => fun e he => by cases he
  | _, _, .cons r t => fun e he => by
    rcases List.mem_cons.mp he with z | z
    · subst z
      exact ⟨⟨_, kV_is r.1, r.2⟩, key_scan r.1⟩
    · exact keyE_elems t e z
theorem keyE_has {k : Key} : ∀ {l : List (Int × Value)} {qs : List Key}, Paired (KeyE P w) l qs → (k ∈ qs ↔ ∃ e ∈ l, (mixKind P w).is k e.2 = true)
  | _, _, .nil => by simp
  | e :: l, q :: qs, .cons r t => by
    have ih := keyE_has (k := k) t
    have hd : (mixKind P w).is k e.2 = true ↔ k = q := by
      rw [KeyKind.is_eq_decide (kV_is r.1) k, decide_eq_true_eq]
    rw [List.mem_cons, ih]
    constructor
    · rintro (z | ⟨e', h1, h2⟩)
      · exact ⟨e, List.mem_cons_self, hd.mpr z⟩
      · exact ⟨e', List.mem_cons_of_mem _ h1, h2⟩
    · rintro ⟨e', h1, h2⟩
      rcases List.mem_cons.mp h1 with z | z
      · subst z; exact .inl (hd.mp h2)
      · exact .inr ⟨e', z, h2⟩
theorem setQ_tail {g : Bool → Sem Unit} (hg : ∀ (b : Bool) (s₁ : Shared) (Q' : Unit → Shared → Prop), Q' () s₁ → wpAny (model P w) A (g b) Q' E s₁) {o : Obj} {es : Array (Int × Value)} {ep : Nat} {t : SetTable} (ho : s.heap.get? a = some o) (hex : o.ExactSet) (hd : o.data = .set es ep t)
    {es1 : Array (Int × Value)} {t2 : SetTable} {qs : List Key} (pq : Paired (KeyE P w) es1.toList qs) (pm1 : qs.Perm ks) (nd : ks.Nodup) (hb1 : es1.size < scanBound) (hf2 : t2.fits es1.size = true) (hr : Ris t2.place.toList) (hl : w.params.followText "set-order" = true ∨ t2.led = true)
    {wd : Bool} {R : Option Bool → Shared → Prop} (hR : ∀ h', Heap.SameBut a s.heap h' → SetQ P w h' a ks → R (some true) { s with heap := h' }) :
    wpAny (model P w) A (do
        storeSet a es1 t2
        if (!wd && t2.tooFull) = true then do
            g (relayAll t2 es1 (SetTable.grown es1.size)).2.2
            storeSet a (relayAll t2 es1 (SetTable.grown es1.size)).1 (relayAll t2 es1 (SetTable.grown es1.size)).2.1
            pure (some true)
          else pure (some true)) R E s := by
  refine wpAny_bind (wpAny_storeSet_of ho hd ?_ (fits_of_scanBound hb1))
  have h1 := store_at (es' := es1) (t' := t2) ho hd
  have b1 := Heap.SameBut.update s.heap a (Obj.putSet es1 t2)
  split
  · have pm := relayAll_perm t2 es1 (SetTable.grown es1.size)
    have f3 := relayAll_fits t2 es1 (SetTable.grown es1.size)
    have r3 := relayAll_ris t2 es1 (SetTable.grown es1.size)
    have l3 := relayAll_led t2 es1 (SetTable.grown es1.size)
    generalize relayAll t2 es1 (SetTable.grown es1.size) = Z at pm f3 r3 l3 ⊢
    obtain ⟨es2, t3, gv⟩ := Z
    dsimp only at pm f3 r3 l3 ⊢
    have z2 : es2.size = es1.size := by rw [← Array.length_toList, pm.length_eq, Array.length_toList]
    have b2 : es2.size < scanBound := by rw [z2]; exact hb1
    refine wpAny_bind (hg _ _ _ (wpAny_bind (wpAny_storeSet_of h1 rfl ?_ (fits_of_scanBound b2))))
    have h2 := store_at (es' := es2) (t' := t3) h1 rfl
    obtain ⟨qs', p1, p2⟩ := paired_perm pm.symm pq
    refine wpAny_pure (hR _ (b1.trans (Heap.SameBut.update _ a _)) ⟨_, es2, _, t3, qs', h2, hex, rfl, p1, p2.trans pm1, nd, b2, f3, r3, hl.imp id fun z => by rw [l3]; exact z⟩)
  · exact wpAny_pure (hR _ b1 ⟨_, es1, _, t2, qs, h1, hex, rfl, pq, pm1, nd, hb1, hf2, hr, hl⟩)
theorem setQ_len {h : Heap} (R : SetQ P w h a ks) : ks.length < scanBound := by
  obtain ⟨o, es, ep, t, qs, _, _, _, pq, pm, _, hb, _⟩ := R
  have e1 := Paired.length pq
  rw [← pm.length_eq, ← e1, Array.length_toList]
  exact hb
theorem setQ_add {k : Key} {u : Value} {Q : Bool → Shared → Prop} (R : SetQ P w s.heap a ks) (rk : RelV (kV k) u) (room : ks.length + 1 < scanBound)
    (hQ : ∀ b h', Heap.SameBut a s.heap h' → SetQ P w h' a (addK k ks) → Q b { s with heap := h' }) : wpAny (model P w) A (setAddHashed a u ((mixKind P w).hash k)) Q E s := by
  obtain ⟨o, es, ep, t, qs, ho, hex, hd, pq, pm0, nd, hb, hf, hr, hl⟩ := R
  have hsc : u.scannable = true := key_scan rk
  have hel : ElemsOf (mixKind P w) es.toList := keyE_elems pq
  unfold setAddHashed setAddHashedIn
  refine wpAny_holding (wpAny_bind (wpAny_setState_of ho hd hf ?_))
  dsimp only
  rw [byScan_of hsc hb hel]
  simp only [↓reduceIte]
  unfold setAddByScan
  refine wpAny_bind (wpAny_bind (wpAny_rule (wpAny_bind (wpAny_setScan_of (kV_is rk) ho hd hf hel ?_))))
  cases hfi : List.findIdx? (fun e => (mixKind P w).is k e.2) es.toList with
  | some j =>
    dsimp only
    obtain ⟨hj, pj, _⟩ := List.findIdx?_eq_some_iff_getElem.mp hfi
    have hk : k ∈ ks := pm0.mem_iff.mp ((keyE_has pq).mpr ⟨es.toList[j], List.getElem_mem hj, pj⟩)
    have ea : addK k ks = ks := if_pos (hasK_iff.mpr hk)
    refine wpAny_pure (wpAny_pure (hQ _ s.heap (Heap.SameBut.refl a s.heap) ?_))
    rw [ea]
    exact ⟨o, es, ep, t, qs, ho, hex, hd, pq, pm0, nd, hb, hf, hr, hl⟩
  | none =>
    dsimp only
    have hk : k ∉ ks := fun z => by
      obtain ⟨e, he, q⟩ := (keyE_has pq).mp (pm0.mem_iff.mpr z)
      have c := List.findIdx?_eq_none_iff.mp hfi e he
      rw [q] at c
      cases c
    have ea : addK k ks = k :: ks := if_neg fun z => hk (hasK_iff.mp z)
    have gw : ∀ (b : Bool) {s₁ : Shared} {Q' : Unit → Shared → Prop}, Q' () s₁ → wpAny (model P w) A (match b with | true => rule "set.scan.the-table-gave-way" | false => pure ()) Q' E s₁ := fun b s₁ Q' q => by
      cases b
      · exact wpAny_pure q
      · exact wpAny_rule q
    have pm := layNew_perm t es ((mixKind P w).hash k) u
    have f1 := layNew_fits t es ((mixKind P w).hash k) u
    have r1 := layNew_ris t es ((mixKind P w).hash k) u hr
    have l1 := layNew_led t es ((mixKind P w).hash k) u
    generalize layNew t es ((mixKind P w).hash k) u = Z at pm f1 r1 l1 ⊢
    obtain ⟨es1, t1, wd, gv⟩ := Z
    dsimp only at pm f1 r1 l1 ⊢
    rw [Array.toList_push] at pm
    have pc : es1.toList.Perm (((mixKind P w).hash k, u) :: es.toList) := pm.trans (List.perm_append_singleton _ _)
    obtain ⟨qs', p1, p2⟩ := paired_perm pc.symm (show Paired (KeyE P w) (((mixKind P w).hash k, u) :: es.toList) (k :: qs) from .cons ⟨rk, rfl⟩ pq)
    have nd1 : (k :: ks).Nodup := List.nodup_cons.mpr ⟨hk, nd⟩
    have p3 : qs'.Perm (k :: ks) := p2.trans (pm0.cons k)
    have sz : es1.size = ks.length + 1 := by
      rw [← Array.length_toList, Paired.length p1, p3.length_eq, List.length_cons]
    have hb1 : es1.size < scanBound := by rw [sz]; exact room
    have hled : w.params.followText "set-order" = true ∨ t1.led = true := hl.imp id fun z => by rw [l1]; exact z
    have fin : ∀ h', Heap.SameBut a s.heap h' → SetQ P w h' a (k :: ks) → Q true { s with heap := h' } := fun h' sb r => hQ _ h' sb (by rw [ea]; exact r)
    refine wpAny_bind (gw _ ?_)
    split
    · refine wpAny_bind ?_
      rw [hashByValue_scannable 8 hsc]
      refine wpAny_pure (setQ_tail ?_ ho hex hd p1 p3 nd1 hb1 ?_ ?_ ?_ ?_)
      · intro b s₁ Q' q
        cases b <;> first | exact wpAny_pure q | exact wpAny_rule q
      · first | (split <;> first | exact f1 | exact SetTable.fits_plain_off f1) | exact f1
      · first | (split <;> exact r1) | exact r1
      · first | (split <;> exact hled) | exact hled
      · intro h' sb r
        dsimp only
        exact wpAny_pure (fin h' sb r)
    · refine wpAny_bind (wpAny_pure ?_)
      simp only [↓reduceIte]
      refine setQ_tail ?_ ho hex hd p1 p3 nd1 hb1 f1 r1 hled ?_
      · intro b s₁ Q' q
        cases b <;> first | exact wpAny_pure q | exact wpAny_rule q
      · intro h' sb r
        dsimp only
        exact wpAny_pure (fin h' sb r)
/-- the keys of a list, each once -/
def dedupK : List Key → List Key → List Key
  | [], acc => acc
  | k :: ks, acc => dedupK ks (addK k acc)
theorem addK_len (k : Key) (ks : List Key) : (addK k ks).length ≤ ks.length + 1 := by
  unfold addK
  split
  · omega
  · simp
section
variable {Rr : Result → Shared → Prop} {I : Addr} {fp wr : List Addr} {G : Array GenState → Array GenState → Prop} {n : Nat} {Pv : Nat → Value → Prop} {St : Nat → Shared → Prop}
theorem setQ_loop (Wk : WalksS P w A.in1 I fp wr G n Pv St) (S : Addr) (hSf : S ∉ fp) (l : List Key) (hn : l.length = n) (hval : ∀ i v, Pv i v → ∃ k, l[i]? = some k ∧ RelV (kV k) v) :
    ∀ (k i : Nat) (s : Shared) (acc : List Key), n - i = k → i ≤ n → acc.length ≤ i → n + 1 < scanBound → St i s → SetQ P w s.heap S acc →
      (∀ s', Moved (S :: wr) G s s' → SetQ P w s'.heap S (dedupK (l.drop i) acc) → Rr (.ok (.ret .none)) s') → codeAny (model P w) A (.builtin "set.update.loop" ⟨[.ref S, .ref I], []⟩) Rr s := by
  have hSw : S ∉ wr := fun h => hSf (Wk.sub _ h)
  have hsub : ∀ b ∈ wr, b ∈ S :: wr := fun b hb => List.mem_cons_of_mem _ hb
  intro k
  induction k with
  | zero =>
    intro i s acc hk hi ha hb hst hS hR
    have hin : i = n := by omega
    subst hin
    refine codeAny_builtin F.entry_set_update_loop ?_
    rw [Around.under_plainId F.plain_set_update_loop _]
    show wpAny _ A.in1 (pyNext (.ref I) >>= _) _ _ s
    refine wpAny_bind (Wk.done s _ _ hst fun s' hm => ?_)
    show wpAny _ A.in1 (ret Value.none) _ _ s'
    refine wpAny_pure (hR s' (hm.mono hsub) ?_)
    rw [← hn, List.drop_length]
    exact hS.keep fun o q => hm.heap S _ hSw q
  | succ k ih =>
    intro i s acc hk hi ha hb hst hS hR
    have hlt : i < n := by omega
    refine codeAny_builtin F.entry_set_update_loop ?_
    rw [Around.under_plainId F.plain_set_update_loop _]
    show wpAny _ A.in1 (pyNext (.ref I) >>= _) _ _ s
    refine wpAny_bind (Wk.item i s _ _ hlt hst fun v s' hP hst' hm => ?_)
    obtain ⟨kk, hkk, rk⟩ := hval i v hP
    have hS' : SetQ P w s'.heap S acc := hS.keep fun o q => hm.heap S _ hSw q
    show wpAny _ A.in1 (holding [v] (setAdd S v) >>= _) _ _ s'
    refine wpAny_bind (wpAny_holding ?_)
    unfold setAdd
    refine wpAny_holding (wpAny_bind ((mixKind P w).pyHash (k := kk) (kV_is rk) ?_))
    refine setQ_add (s := { s' with toks := s'.toks + 1 }) hS' rk (by omega) fun _ h' hsb hS2 => ?_
    refine wpAny_pure ⟨plainId_quiet F.plain_set_update_loop _, ih (i + 1) _ (addK kk acc) (by omega) hlt (Nat.le_trans (addK_len _ _) (Nat.succ_le_succ ha)) hb (Wk.frame _ s' _ _ hst' (Nat.le_succ _) fun b hb' o e => ?_) hS2 fun s'' hm'' hS'' => ?_⟩
    · rw [hsb.2 b (fun h : b = S => hSf (by rw [← h]; exact hb'))]
      exact e
    · have ed : l.drop i = kk :: l.drop (i + 1) := by
        obtain ⟨hl, he⟩ := List.getElem?_eq_some_iff.mp hkk
        rw [List.drop_eq_getElem_cons hl, he]
      rw [ed] at hR
      refine hR s'' (Moved.trans Wk.gtrans ((hm.mono hsub).then_heap (Nat.le_succ _) fun b o hb' e => ?_) hm'') hS''
      rw [hsb.2 b (fun h : b = S => hb' (by rw [h]; exact List.mem_cons_self))]
      exact e
end
theorem code_set1 (x : Value) {Q₁ : Value → Shared → Prop}
    (h : Q₁ (.ref s.heap.objs.size) { s with heap := s.heap.push { cls := .type "set", dict := none, data := .set #[] 0 (.fresh 0 0 (!w.params.followText "set-order")) } }) :
    codeAny (model P w) A (.call (.builtin "set.__new__") ⟨[.type "set", x], []⟩) (wants Q₁ E) s := by
  refine codeAny_of_tree (show wpAny _ A.in1 (do checkBuiltinCall "set.__new__" ⟨[.type "set", x], []⟩; again (.builtin "set.__new__" ⟨[.type "set", x], []⟩)) _ _ s from ?_)
  refine wpAny_bind (wpAny_of_eq (F.newCall_set_1 x) (wpAny_pure ⟨plainId_quiet F.plain_set_new _, codeAny_builtin F.entry_set_new ?_⟩))
  rw [Around.under_plainId F.plain_set_new _]
  unfold Builtin.«set.__new__» Builtin.Frozenset.newClass
  have hsub := sub_set_self
  obtain ⟨hp, g, d, tk, os⟩ := s
  dsimp only
  wp_walk
  refine wpAny_askSetting (wpAny_pure ?_)
  dsimp only
  simp only [newObj]
  exact wpAny_bind (wpAny_alloc (wpAny_pure (wpAny_pure h)))
theorem setQ_fresh {h : Heap} : SetQ P w (h.push { cls := .type "set", dict := none, data := .set #[] 0 (.fresh 0 0 (!w.params.followText "set-order")) }) h.objs.size [] := by
  refine ⟨_, #[], 0, _, [], Heap.get?_push_size _ rfl, ⟨rfl, rfl, rfl⟩, rfl, .nil, List.Perm.refl _, List.nodup_nil, by decide, by rfl, List.Pairwise.nil, ?_⟩
  show _ ∨ (!w.params.followText "set-order") = true
  cases w.params.followText "set-order"
  · exact .inr rfl
  · exact .inl rfl
end
end CO

/-! CoO: set(list), sorted(set) as rules. -/
namespace CO
open PySem PySem.Spec PyProof.Rows L2
section
variable {P : Program} {w : World} {A : Around} {E : Value → Shared → Prop} {s : Shared}
set_option maxHeartbeats 8000000 in
theorem set1_call {l : Addr} {items : Array Value} {ks : List Key} {Q : Value → Shared → Prop} (hh : A.handled = none) (hl : s.heap.IsList l items) (hi : Vals (ks.map kV) items.toList) (hb : items.size + 1 < scanBound)
    (h : ∀ (h' : Heap) (tk : Nat), SetQ P w h' s.heap.objs.size (dedupK ks []) → (∀ b o, b < s.heap.objs.size → s.heap.get? b = some o → h'.get? b = some o) → Q (.ref s.heap.objs.size) { s with heap := h', toks := tk }) :
    wpAny (model P w) A (call (.type "set") [.ref l]) Q E s := by
  obtain ⟨c0, tl0, hmro0⟩ := F.called_set.mro
  have made := F.called_set.made
  have sub0 := F.called_set.sub
  refine wpAny_call (codeAny_of_tree (show wpAny _ _ (callAny (.type "set") _) _ _ _ from wpAny_pure ⟨Code.quiet_builtin _ (by decide +kernel), codeAny_builtin F.entry_type_call ?_⟩))
  rw [Around.under_plain (weight_type_call_type "set" [.ref l] []) rfl]
  have g1 := F.called_set.notType
  have g2 := F.called_set.canCreate
  have g3 := F.typeCall_set_1 (.ref l)
  repeat (any_goals (first | assumption | wp_step))
  generalize hfr : ({ cls := .type "set", dict := none, data := .set #[] 0 (.fresh 0 0 (!w.params.followText "set-order")) } : Obj) = fr
  refine codeAny_mono (code_set1 (.ref l) (E := E) (Q₁ := fun obj s₁ => obj = .ref s.heap.objs.size ∧ s₁ = { s with heap := s.heap.push fr }) ⟨rfl, by rw [← hfr]⟩) fun r s₁ hr => ?_
  cases r with
  | error e => exact hr
  | ok fl =>
    cases fl with
    | ret obj =>
      obtain ⟨rfl, rfl⟩ := hr
      have nf : fr.isFreed = false := by rw [← hfr]; rfl
      have hS : (s.heap.push fr).get? s.heap.objs.size = some fr := Heap.get?_push_size _ nf
      have hT : Shared.TypeIs { s with heap := s.heap.push fr } (.ref s.heap.objs.size) "set" := ⟨_, hS, by rw [← hfr]⟩
      have li := F.called_set.init.lookup
      have bi := F.called_set.init.bind (.ref s.heap.objs.size)
      repeat (any_goals (first | assumption | wp_step))
      refine codeAny_mono (codeAny_call_builtin (R := wants (fun r s₂ => r = .none ∧ ∃ h' tk, s₂ = { s with heap := h', toks := tk } ∧ SetQ P w h' s.heap.objs.size (dedupK ks []) ∧
          (∀ b o, b < s.heap.objs.size → s.heap.get? b = some o → h'.get? b = some o)) E) F.called_set.init.plain F.entry_set_init (check_set_init_1 hT ?_)) fun r₂ s₂ hr₂ => ?_
      · subst hfr
        obtain ⟨⟨oc, od, odt, osl⟩, hol, hcl, nl, hdl⟩ := hl
        simp only at hcl hdl
        subst hcl hdl
        have hol' : (s.heap.push { cls := .type "set", dict := none, data := .set #[] 0 (.fresh 0 0 (!w.params.followText "set-order")) }).get? l = some { cls := .type "list", dict := od, data := .seq items nl, slots := osl } := Heap.get?_push_of_some _ hol
        have q1 := F.sub_list_set
        have q2 := F.sub_list_frozenset
        have q3 : (Value.type "list" == Value.type "dict") = false := by decide
        have hl1 : (s.heap.push { cls := .type "set", dict := none, data := .set #[] 0 (.fresh 0 0 (!w.params.followText "set-order")) }).IsList l items := ⟨_, hol', rfl, nl, rfl⟩
        unfold Builtin.«set.__init__» noKeywords Builtin.Frozenset.updateFrom
        generalize hPI : pyIter = PI
        wp_walk
        subst hPI
        refine wpAny_pyIter_list (hl1) ?_
        refine (wpAny_bind (wpAny_runValue ?_))
        have hlS : l < s.heap.objs.size := Heap.lt_size hol
        have h3 : A.in1.in1.in1.handled = none := by simp [hh]
        have neI : l ≠ (s.heap.push { cls := .type "set", dict := none, data := .set #[] 0 (.fresh 0 0 (!w.params.followText "set-order")) }).objs.size := by
          rw [Heap.size_push]
          exact Nat.ne_of_lt (Nat.lt_succ_of_lt hlS)
        have hSf : s.heap.objs.size ∉ [(s.heap.push { cls := .type "set", dict := none, data := .set #[] 0 (.fresh 0 0 (!w.params.followText "set-order")) }).objs.size, l] := by
          rw [Heap.size_push]
          simp only [List.mem_cons, List.mem_singleton, List.not_mem_nil, or_false, not_or]
          exact ⟨Nat.ne_of_lt (Nat.lt_succ_self _), Nat.ne_of_gt hlS⟩
        have hlen : ks.length = items.size := by
          have := hi.length
          simpa using this
        have hval : ∀ (i : Nat) (v : Value), items[i]? = some v → ∃ k, ks[i]? = some k ∧ RelV (kV k) v := fun i v hv => by
          have hv' : items.toList[i]? = some v := by rw [Array.getElem?_toList]; exact hv
          have hik : i < ks.length := by
            rw [hlen]
            exact (Array.getElem?_eq_some_iff.mp hv).1
          obtain ⟨u, hu, ru⟩ := hi.get (i := i) (x := kV ks[i]) (by rw [List.getElem?_map, List.getElem?_eq_getElem hik]; rfl)
          rw [hv'] at hu
          cases hu
          exact ⟨ks[i], List.getElem?_eq_getElem hik, ru⟩
        refine setQ_loop ((Walks.list h3 _ l neI items).toS) s.heap.objs.size hSf ks hlen hval (items.size - 0) 0 _ [] (by omega) (Nat.zero_le _) (Nat.zero_le _) hb ⟨⟨_, Heap.get?_push_size _ rfl, rfl, rfl⟩, hl1.push _⟩ ?hS0 ?hR
        case hS0 =>
          refine SetQ.keep (h := s.heap.push { cls := .type "set", dict := none, data := .set #[] 0 (.fresh 0 0 (!w.params.followText "set-order")) }) ?_ fun o q => Heap.get?_push_of_some _ q
          exact setQ_fresh
        case hR =>
          intro s' hm hS'
          obtain ⟨h', g', d', tk', os'⟩ := s'
          obtain rfl : g' = s.gens := hm.gens
          obtain rfl : d' = s.drawn := hm.drawn
          obtain rfl : os' = s.os := hm.os
          show wpAny _ _ _ _ _ _
          refine wpAny_pure (show wpAny _ _ (ret Value.none) _ _ _ from wpAny_pure ⟨rfl, h', tk', rfl, hS', fun b o hb e => ?_⟩)
          have n1 : b ≠ s.heap.objs.size := Nat.ne_of_lt hb
          have n2 : b ≠ (s.heap.push { cls := .type "set", dict := none, data := .set #[] 0 (.fresh 0 0 (!w.params.followText "set-order")) }).objs.size := by
            rw [Heap.size_push]
            exact Nat.ne_of_lt (Nat.lt_succ_of_lt hb)
          exact hm.heap b o (by simp only [List.mem_cons, List.mem_singleton, List.not_mem_nil, or_false, not_or]; exact ⟨n1, n2⟩) (Heap.get?_push_of_some _ (Heap.get?_push_of_some _ e))
      · cases r₂ with
        | error e => exact hr₂
        | ok fl₂ =>
          cases fl₂ with
          | ret r =>
            obtain ⟨rfl, h', tk, rfl, hS', hk'⟩ := hr₂
            repeat (any_goals (first | assumption | wp_step))
            exact h _ _ hS' hk'
          | _ => exact hr₂.elim
    | _ => exact hr.elim
end
end CO

/-! CoP: sorted(set(..)) over the data layer. -/
namespace CO
def keyD : L2.Key → D
  | .inl i => .int i
  | .inr x => .str x
end CO
namespace CoSort
open PySem PySem.SeqAt PySem.W PyProof.Rows
section
variable {P : Program} {w : World} {A : Around} {E : Value → Shared → Prop} {s : Shared}
/-- u is the key k, told as d -/
def KeyIsD (u : Value) (d : PyData) : Prop := ∃ k : L2.Key, L2.RelV (L2.kV k) u ∧ d = CO.keyD k
theorem keyIsD_reads {h : Heap} {u : Value} {d : PyData} (z : KeyIsD u d) : ∃ as, Reads h u d as := by
  obtain ⟨k, r, rfl⟩ := z
  cases k with
  | inl i =>
    obtain ⟨t, rfl⟩ := r
    exact ⟨[], .int i t⟩
  | inr x =>
    obtain ⟨t, rfl⟩ := r
    exact ⟨[], .str x t⟩
theorem each_keyD : ∀ {es : List (Int × Value)} {qs : List L2.Key}, PySem.Paired (CO.KeyE P w) es qs → EachIs KeyIsD (es.map (·.2)) (qs.map CO.keyD)
  | _, _, .nil => .nil
  | _, _, .cons r t => .cons ⟨_, r.1, rfl⟩ (each_keyD t)
theorem each_perm {R : Value → PyData → Prop} {l l' : List Value} (p : l.Perm l') : ∀ {ds : List PyData}, EachIs R l ds → ∃ ds', EachIs R l' ds' ∧ ds'.Perm ds := by
  induction p with
  | nil => exact fun h => ⟨_, h, List.Perm.refl _⟩
  | cons x p ih =>
    intro ds h
    cases h with
    | cons r t =>
      obtain ⟨ds', h1, h2⟩ := ih t
      exact ⟨_ :: ds', .cons r h1, h2.cons _⟩
  | swap x y l =>
    intro ds h
    cases h with
    | cons r t =>
      cases t with
      | cons r' t => exact ⟨_, .cons r' (.cons r t), List.Perm.swap _ _ _⟩
  | trans p q ih1 ih2 =>
    intro ds h
    obtain ⟨d1, h1, h2⟩ := ih1 h
    obtain ⟨d2, h3, h4⟩ := ih2 h1
    exact ⟨d2, h3, h4.trans h2⟩
theorem sorted_setQ {a : Addr} {ks : List L2.Key} {Q : Value → Shared → Prop} (hS : CO.SetQ P w s.heap a ks) (hh : A.handled = none) (hal : AllAlike (ks.map CO.keyD)) (hu : A.units + 4 < cLine)
    (hQ : ∀ s' p (out : List Value) (c : Nat) (ds : List PyData), (∀ b o, s.heap.get? b = some o → s'.heap.get? b = some o) → s'.gens = s.gens → s'.os = s.os → s.heap.objs.size ≤ p → s'.heap.get? p = some (seqObj "list" out.toArray c) →
      ds.Perm (ks.map CO.keyD) → EachIs KeyIsD out (ds.mergeSort (dataLe false id)) → Q (.ref p) s') : wpAny (model P w) A (call (.builtin "sorted") [.ref a]) Q E s := by
  obtain ⟨o, es, ep, t, qs, ho, hex, hd, pq, pm0, nd, hb, hf, hr, hl⟩ := hS
  refine Calls.call_function_entry kind_sorted plain_sorted entry_sorted (args_sorted1 _) ?_
  unfold Builtin.«sorted»
  refine wpAny_bind (m := checkCount "sorted" 1 1 _) (wpAny_pure (wpAny_bind (L2.collect_set (A := A.in1) hh ⟨o, ho, hex.1, hd⟩ hf hb hr hl fun s1 vs k1 hz g1 o1 pm => ?_)))
  obtain ⟨ds, e1, p1⟩ := each_perm pm.symm (each_keyD pq)
  have pd : ds.Perm (ks.map CO.keyD) := p1.trans (pm0.map _)
  have hal' : AllAlike ds := fun d hd' d' hd'' => hal d (pd.mem_iff.mp hd') d' (pd.mem_iff.mp hd'')
  have hlen : vs.length = ds.length := e1.length
  have hsz : vs.length ≤ sizeLine := by
    rw [pm.length_eq, List.length_map, Array.length_toList]
    exact fits_of_scanBound hb
  refine wpAny_bind (wpAny_newList ?_ hsz)
  have hoL : (s1.heap.push (seqObj "list" vs.toArray 0)).get? s1.heap.objs.size = some (seqObj "list" vs.toArray 0) := Heap.get?_push_size _ rfl
  have flat : ∀ d ∈ ds, d ≠ PyData.none ∧ (∀ xs, d ≠ .tuple xs) ∧ d.depth = 0 := fun d hd' => by
    obtain ⟨k, _, rfl⟩ := List.mem_map.mp (pd.mem_iff.mp hd')
    cases k with
    | inl i => exact ⟨(fun z => nomatch z), (fun xs z => nomatch z), rfl⟩
    | inr x => exact ⟨(fun z => nomatch z), (fun xs z => nomatch z), rfl⟩
  have er : ∀ h : Heap, EachIs (fun v d => ∃ as, Reads h v d as) vs ds := fun h => e1.mono fun _ _ z => keyIsD_reads z
  have S : ∀ A' : Around, A'.units + 0 < cLine → SortsAt P w A' { s1 with heap := sortingHeap (s1.heap.push (seqObj "list" vs.toArray 0)) s1.heap.objs.size vs } (dataKind (sortingHeap (s1.heap.push (seqObj "list" vs.toArray 0)) s1.heap.objs.size vs) ds) vs := fun A' hA =>
    SortsAt.data (s := { s1 with heap := sortingHeap (s1.heap.push (seqObj "list" vs.toArray 0)) s1.heap.objs.size vs }) (er _) hal' (.inr fun d hd' => ⟨(flat d hd').1, (flat d hd').2.1⟩) fun d hd' => by rw [(flat d hd').2.2]; exact hA
  have e3 : EachIs KeyIsD (sortVals (dataKind (sortingHeap (s1.heap.push (seqObj "list" vs.toArray 0)) s1.heap.objs.size vs) ds) false vs vs) (ds.mergeSort (dataLe false id)) := by
    have q := sortVals_data (h' := sortingHeap (s1.heap.push (seqObj "list" vs.toArray 0)) s1.heap.objs.size vs) (R := KeyIsD) (enc := id) (bs := ds) (vs := vs) false e1 (er _) (by rw [List.map_id]; exact hal')
    rw [List.map_id] at q
    exact q
  refine wpAny_bind (wpAny_holding (wpAny_call_entry slot_list_sort ⟨_, hoL, rfl⟩ entry_list_sort (list_sort_vals (s := { s1 with heap := s1.heap.push (seqObj "list" vs.toArray 0) }) hoL (S _ ?_) hsz ⟨_, rfl, ?_⟩) (args_list_sort _)))
  · show A.units + 1 + 1 + 0 < cLine
    omega
  · obtain ⟨c, hc⟩ := sortedHeap_at (vs := vs) (out := (sortVals (dataKind (sortingHeap (s1.heap.push (seqObj "list" vs.toArray 0)) s1.heap.objs.size vs) ds) false vs vs).toArray) hoL
    refine wpAny_pure ⟨_, rfl, hQ _ s1.heap.objs.size _ c ds (fun b u e => ?_) g1 o1 hz hc pd e3⟩
    have q := k1 b u e
    have hlt := Heap.lt_size q
    show (sortedHeap (s1.heap.push (seqObj "list" vs.toArray 0)) s1.heap.objs.size vs _).get? b = some u
    rw [sortedHeap_old (Nat.ne_of_lt hlt) (by rw [size_push']; exact Nat.lt_succ_of_lt hlt)]
    exact Heap.get?_push_of_some _ q
end
end CoSort
namespace CO
open PySem PySem.Spec PyProof.Rows L2
/-- keys from data -/
def asKeys : List D → Option (List Key)
  | [] => some []
  | .int i :: r => (asKeys r).map (.inl i :: ·)
  | .str x :: r => (asKeys r).map (.inr x :: ·)
  | _ :: _ => none
theorem asKeys_eq : ∀ {ds : List D} {ks : List Key}, asKeys ds = some ks → ds = ks.map keyD
  | [], _, h => by cases h; rfl
  | .int i :: r, ks, h => by
    have h' : (asKeys r).map (.inl i :: ·) = some ks := h
    cases e : asKeys r with
    | none => rw [e] at h'; cases h'
    | some es =>
      rw [e] at h'
      cases h'
      rw [asKeys_eq e]; rfl
  | .str x :: r, ks, h => by
    have h' : (asKeys r).map (.inr x :: ·) = some ks := h
    cases e : asKeys r with
    | none => rw [e] at h'; cases h'
    | some es =>
      rw [e] at h'
      cases h'
      rw [asKeys_eq e]; rfl
  | .none :: _, _, h => by cases h
  | .bool _ :: _, _, h => by cases h
  | .list _ :: _, _, h => by cases h
  | .tuple _ :: _, _, h => by cases h
  | .dict _ :: _, _, h => by cases h
theorem dpa_keys {G : Hp} : ∀ {ks : List Key} {vs : List V}, DqAll G vs (ks.map keyD) → vs = ks.map kV
  | [], _, h => by cases h; rfl
  | .inl i :: ks, _, h => by
    cases h with
    | cons q t => rw [dpa_keys t, dp_int q]; rfl
  | .inr x :: ks, _, h => by
    cases h with
    | cons q t => rw [dpa_keys t, dp_str q]; rfl
def SetHO (P : Program) (w : World) (a : Addr) (ks : List Key) : HO := .ext fun h => SetQ P w h a ks
section
variable {X : Cx} {κ : Kx} {W : WX}
theorem setHO_new {P : Program} {w : World} {H : Hp} {h : Heap} {a : Addr} {ks : List Key} (R : SetQ P w h a ks) : ObjOk P w H h a (SetHO P w a ks) := by
  have ⟨o, _, _, _, _, ho, _⟩ := R
  exact ⟨R, ⟨o, ho⟩, fun h1 h2 p k => p.keep k⟩
def rSetQ (P : Program) (w : World) : List V → Hp → VK → Prop := fun vs H Q => ∃ (a : Addr) (ks : List Key), vs = [V.ref a] ∧ H a = some (.lst (ks.map kV)) ∧ ks.length < 1000 ∧ ∀ p, H p = none → Q (.ref p) (upd H p (SetHO P w p (dedupK ks [])))
theorem call_setQ (hc : X.calm = true) : CallR X (.type "set") (rSetQ X.prog X.w) := by
  intro pins s σ H vs us Q I r h
  obtain ⟨a, ks, rfl, ha, hl, q⟩ := h
  obtain ⟨its, rv, p, hz⟩ := I.list (SqL.of ha)
  rw [Vals.ref1 r]
  have hlen : its.length = ks.length := by
    have := rv.length
    simpa using this.symm
  refine set1_call (I.ok.hd hc) p.isList (ks := ks) (by simpa using rv) (by simp [hlen]; unfold scanBound; omega) fun h' tk hS hk => ?_
  exact ⟨.ref _, upd H s.heap.objs.size (SetHO X.prog X.w s.heap.objs.size (dedupK ks [])), I.laid (t' := tk) (fun b o e => hk b o (Heap.lt_size e) e) (Nat.le_refl _) (setHO_new hS), rfl, q _ (I.hok.fresh (Nat.le_refl _))⟩
def rSortQ (P : Program) (w : World) : List V → Hp → VK → Prop := fun vs H Q => ∃ (a : Addr) (ks : List Key), vs = [V.ref a] ∧ H a = some (SetHO P w a ks) ∧ PySem.W.AllAlike (ks.map keyD) ∧ ∀ (ds : List D) (qs : List Key) (p : Addr), ds.Perm (ks.map keyD) → qs.map keyD = sortDs ds → H p = none → Q (.ref p) (upd H p (.lst (qs.map kV)))
theorem each_keys2 : ∀ {us : List Value} {ds : List D}, PySem.W.EachIs CoSort.KeyIsD us ds → ∃ qs : List Key, Vals (qs.map kV) us ∧ qs.map keyD = ds
  | _, _, .nil => ⟨[], .nil, rfl⟩
  | _, _, .cons ⟨k, r, e⟩ t => by
    obtain ⟨qs, h1, h2⟩ := each_keys2 t
    exact ⟨k :: qs, .cons r h1, by rw [List.map_cons, h2, e]⟩
theorem call_sortQ (hc : X.calm = true) (hu : X.A.units + 100 < cLine) : CallR X (.builtin "sorted") (rSortQ X.prog X.w) := by
  intro pins s σ H vs us Q I r h
  obtain ⟨a, ks, rfl, ha, hal, q⟩ := h
  have R : SetQ X.prog X.w s.heap a ks := (I.hok a _ ha).1
  rw [Vals.ref1 r]
  refine CoSort.sorted_setQ R (I.ok.hd hc) hal (by omega) fun s' p out c ds k g o hp hg pd eo => ?_
  obtain ⟨qs, q1, q2⟩ := each_keys2 eo
  have hn : H p = none := I.hok.fresh hp
  have hlen : (qs.map kV).length ≤ sizeLine := by
    have e1 : qs.length = ks.length := by
      have := congrArg List.length q2
      rw [List.length_map, List.length_mergeSort, pd.length_eq, List.length_map] at this
      exact this
    rw [List.length_map, e1]
    exact fits_of_scanBound (setQ_len R)
  have J : Inv X pins σ (upd H p (.lst (qs.map kV))) { s with heap := s'.heap, gens := s'.gens, drawn := s'.drawn, toks := s'.toks } :=
    I.call (ch := []) (Un.laid k hp hn) (I.hok.laid k hp ⟨hlen, out, c, q1, hg⟩) (by rw [g]; exact I.bare) (fun _ z => nomatch z)
  have e : s' = { s with heap := s'.heap, gens := s'.gens, drawn := s'.drawn, toks := s'.toks } := by
    cases s'
    cases s
    cases o
    rfl
  rw [e]
  exact ⟨.ref p, _, J, rfl, q ds qs p pd q2 hn⟩
theorem sortDs_perm {ds es : List D} (p : ds.Perm es) (h1 : ∀ a ∈ es, ∀ b ∈ es, leD a b = true ∨ leD b a = true) (h2 : ∀ a ∈ es, ∀ b ∈ es, leD a b = true → leD b a = true → a = b) (h3 : ∀ a ∈ es, ∀ b ∈ es, ∀ c ∈ es, leD a b = true → leD b c = true → leD a c = true) : True := trivial
end
end CO

/-! CoR: the one sorted list; sorted(set(..)) over the data layer. -/
namespace CO
open PySem PySem.Spec PyProof.Rows L2
theorem sorted_uniq {α : Type} {le : α → α → Prop} (anti : ∀ a b, le a b → le b a → a = b) : ∀ {l l' : List α}, l.Pairwise le → l'.Pairwise le → l.Perm l' → l = l'
  | [], l', _, _, p => (List.nil_perm.mp p).symm
  | a :: t, [], _, _, p => by simp at p
  | a :: t, b :: t', h1, h2, p => by
    obtain ⟨a1, a2⟩ := List.pairwise_cons.mp h1
    obtain ⟨b1, b2⟩ := List.pairwise_cons.mp h2
    have e : a = b := by
      have m1 : a ∈ b :: t' := p.mem_iff.mp List.mem_cons_self
      have m2 : b ∈ a :: t := p.mem_iff.mpr List.mem_cons_self
      rcases List.mem_cons.mp m1 with z | z
      · exact z
      · rcases List.mem_cons.mp m2 with y | y
        · exact y.symm
        · exact anti a b (a1 b y) (b1 a z)
    subst e
    rw [sorted_uniq anti a2 b2 (List.Perm.cons_inv p)]
def leI (a b : Int) : Bool := decide (a ≤ b)
def leS (x y : Str) : Bool := decide (x.cps.toList ≤ y.cps.toList)
def sortI (ns : List Int) : List Int := ns.mergeSort leI
def sortS (xs : List Str) : List Str := xs.mergeSort leS
theorem leD_int (a b : Int) : leD (.int a) (.int b) = leI a b := by
  have h := congrFun (congrFun (PySem.W.dataLe_int (β := Int) id) a) b
  exact h
theorem leD_str (a b : Str) : leD (.str a) (.str b) = leS a b := by
  have h := congrFun (congrFun (PySem.W.dataLe_str (β := Str) id) a) b
  exact h
theorem sortDs_ints (ns : List Int) : sortDs (ns.map .int) = (sortI ns).map .int := by
  unfold sortDs sortI
  exact (List.map_mergeSort fun a _ b _ => (leD_int a b).symm).symm
theorem sortDs_strs (xs : List Str) : sortDs (xs.map .str) = (sortS xs).map .str := by
  unfold sortDs sortS
  exact (List.map_mergeSort fun a _ b _ => (leD_str a b).symm).symm
theorem sortI_pw (ns : List Int) : (sortI ns).Pairwise (· ≤ ·) := by
  have h := List.pairwise_mergeSort (le := leI) (fun a b c => by unfold leI; simp only [decide_eq_true_eq]; exact fun h1 h2 => Int.le_trans h1 h2) (fun a b => by unfold leI; simp only [Bool.or_eq_true, decide_eq_true_eq]; exact Int.le_total a b) ns
  exact h.imp fun q => of_decide_eq_true q
theorem sortS_pw (xs : List Str) : (sortS xs).Pairwise (fun a b => a.cps.toList ≤ b.cps.toList) := by
  have h := List.pairwise_mergeSort (le := leS) (fun a b c => by unfold leS; simp only [decide_eq_true_eq]; exact fun h1 h2 => List.le_trans h1 h2) (fun a b => by unfold leS; simp only [Bool.or_eq_true, decide_eq_true_eq]; exact List.le_total _ _) xs
  exact h.imp fun q => of_decide_eq_true q
theorem sortI_perm {a b : List Int} (p : a.Perm b) : sortI a = sortI b :=
  sorted_uniq (fun _ _ h1 h2 => Int.le_antisymm h1 h2) (sortI_pw a) (sortI_pw b) (((List.mergeSort_perm a leI).trans p).trans (List.mergeSort_perm b leI).symm)
theorem sortS_perm {a b : List Str} (p : a.Perm b) : sortS a = sortS b :=
  sorted_uniq (fun _ _ h1 h2 => PySem.W.str_of_cps (List.le_antisymm h1 h2)) (sortS_pw a) (sortS_pw b) (((List.mergeSort_perm a leS).trans p).trans (List.mergeSort_perm b leS).symm)
/-- each once -/
def nubI : List Int → List Int
  | [] => []
  | x :: r => if x ∈ r then nubI r else x :: nubI r
def nubS : List Str → List Str
  | [] => []
  | x :: r => if x ∈ r then nubS r else x :: nubS r
theorem mem_nubI {x : Int} : ∀ {l : List Int}, x ∈ nubI l ↔ x ∈ l
  | [] => by simp [nubI]
  | y :: r => by
    unfold nubI
    split
    · rename_i h
      rw [mem_nubI, List.mem_cons]
      exact ⟨.inr, fun z => z.elim (fun e => e ▸ h) id⟩
    · rw [List.mem_cons, List.mem_cons, mem_nubI]
theorem mem_nubS {x : Str} : ∀ {l : List Str}, x ∈ nubS l ↔ x ∈ l
  | [] => by simp [nubS]
  | y :: r => by
    unfold nubS
    split
    · rename_i h
      rw [mem_nubS, List.mem_cons]
      exact ⟨.inr, fun z => z.elim (fun e => e ▸ h) id⟩
    · rw [List.mem_cons, List.mem_cons, mem_nubS]
theorem nodup_nubI : ∀ l : List Int, (nubI l).Nodup
  | [] => List.nodup_nil
  | y :: r => by
    unfold nubI
    split
    · exact nodup_nubI r
    · rename_i h
      exact List.nodup_cons.mpr ⟨fun z => h (mem_nubI.mp z), nodup_nubI r⟩
theorem nodup_nubS : ∀ l : List Str, (nubS l).Nodup
  | [] => List.nodup_nil
  | y :: r => by
    unfold nubS
    split
    · exact nodup_nubS r
    · rename_i h
      exact List.nodup_cons.mpr ⟨fun z => h (mem_nubS.mp z), nodup_nubS r⟩
theorem mem_addK {x k : Key} {l : List Key} : x ∈ addK k l ↔ x = k ∨ x ∈ l := by
  unfold addK
  split
  · rename_i h
    exact ⟨.inr, fun z => z.elim (fun e => e ▸ hasK_iff.mp h) id⟩
  · exact List.mem_cons
theorem mem_dedupK {x : Key} : ∀ {l acc : List Key}, x ∈ dedupK l acc ↔ x ∈ l ∨ x ∈ acc
  | [], acc => by simp [dedupK]
  | k :: l, acc => by
    unfold dedupK
    rw [mem_dedupK, mem_addK, List.mem_cons]
    constructor
    · rintro (h | h | h)
      · exact .inl (.inr h)
      · exact .inl (.inl h)
      · exact .inr h
    · rintro ((h | h) | h)
      · exact .inr (.inl h)
      · exact .inl h
      · exact .inr (.inr h)
theorem nodup_dedupK : ∀ {l acc : List Key}, acc.Nodup → (dedupK l acc).Nodup
  | [], acc, h => h
  | k :: l, acc, h => by
    unfold dedupK
    refine nodup_dedupK ?_
    unfold addK
    split
    · exact h
    · rename_i z
      exact List.nodup_cons.mpr ⟨fun y => z (hasK_iff.mpr y), h⟩
theorem dedup_ints (ns : List Int) : (dedupK (ns.map .inl) []).Perm ((nubI ns).map .inl) := by
  refine (List.perm_ext_iff_of_nodup (nodup_dedupK List.nodup_nil) ?_).mpr fun k => ?_
  · exact List.Nodup.map_inj_of (nodup_nubI ns)
  · rw [mem_dedupK]
    simp [mem_nubI]
where List.Nodup.map_inj_of {l : List Int} (h : l.Nodup) : (l.map (Sum.inl : Int → Key)).Nodup := by
        refine List.pairwise_map.mpr (h.imp fun q z => q ?_)
        injection z
theorem dedup_strs (xs : List Str) : (dedupK (xs.map .inr) []).Perm ((nubS xs).map .inr) := by
  refine (List.perm_ext_iff_of_nodup (nodup_dedupK List.nodup_nil) ?_).mpr fun k => ?_
  · refine List.pairwise_map.mpr ((nodup_nubS xs).imp fun q z => q ?_)
    injection z
  · rw [mem_dedupK]
    simp [mem_nubS]
def sortSetD (ds : List D) : Option (List D) := if ds.length < 1000 then match asInts ds with
  | some ns => some ((sortI (nubI ns)).map .int)
  | none => match asStrs ds with
    | some xs => some ((sortS (nubS xs)).map .str)
    | none => none
  else none
def eSortSet (m : En → R Ent) (en : En) : R Ent := (dv m en).bind fun d e => match d with
  | .list ds => match sortSetD ds with | some es => .ok (.ow es) e | none => .st
  | _ => .st
section
variable {X : Cx} {κ : Kx} {W : WX}
theorem sortSet_keys {ds es : List D} (h : sortSetD ds = some es) : ∃ ks : List Key, ds = ks.map keyD ∧ ks.length < 1000 ∧ PySem.W.AllAlike ((dedupK ks []).map keyD) ∧ ∀ ds' : List D, ds'.Perm ((dedupK ks []).map keyD) → sortDs ds' = es := by
  unfold sortSetD at h
  by_cases hl : ds.length < 1000
  · rw [if_pos hl] at h
    cases e : asInts ds with
    | some ns =>
      rw [e] at h
      cases h
      have := asInts_eq e
      subst this
      rw [List.length_map] at hl
      refine ⟨ns.map .inl, by rw [List.map_map]; rfl, by rw [List.length_map]; exact hl, ?_, fun ds' p => ?_⟩
      · intro a ha b hb
        obtain ⟨k, hk, rfl⟩ := List.mem_map.mp ha
        obtain ⟨k', hk', rfl⟩ := List.mem_map.mp hb
        have m1 := (dedup_ints ns).mem_iff.mp hk
        have m2 := (dedup_ints ns).mem_iff.mp hk'
        obtain ⟨i, _, rfl⟩ := List.mem_map.mp m1
        obtain ⟨j, _, rfl⟩ := List.mem_map.mp m2
        rfl
      · have p2 : ds'.Perm ((nubI ns).map .int) := by
          refine p.trans ?_
          have := (dedup_ints ns).map keyD
          rw [List.map_map] at this
          exact this
        obtain ⟨qs, e1, e2⟩ : ∃ qs : List Int, qs.Perm (nubI ns) ∧ ds' = qs.map .int := by
          have all : ∀ (l : List D), (∀ d ∈ l, ∃ i, d = .int i) → ∃ qs : List Int, l = qs.map .int := by
            intro l
            induction l with
            | nil => exact fun _ => ⟨[], rfl⟩
            | cons d l ih =>
              intro h
              obtain ⟨i, rfl⟩ := h d List.mem_cons_self
              obtain ⟨qs, rfl⟩ := ih fun d hd => h d (List.mem_cons_of_mem _ hd)
              exact ⟨i :: qs, rfl⟩
          obtain ⟨qs, rfl⟩ := all ds' fun d hd => by
            obtain ⟨i, _, e⟩ := List.mem_map.mp (p2.mem_iff.mp hd)
            exact ⟨i, e.symm⟩
          refine ⟨qs, ?_, rfl⟩
          have q := p2.filterMap (fun d : D => match d with | .int i => some i | _ => none)
          simpa [List.filterMap_map, Function.comp_def] using q
        subst e2
        rw [sortDs_ints, sortI_perm e1]
    | none =>
      rw [e] at h
      cases e' : asStrs ds with
      | none => rw [e'] at h; cases h
      | some xs =>
        rw [e'] at h
        cases h
        have := asStrs_eq e'
        subst this
        rw [List.length_map] at hl
        refine ⟨xs.map .inr, by rw [List.map_map]; rfl, by rw [List.length_map]; exact hl, ?_, fun ds' p => ?_⟩
        · intro a ha b hb
          obtain ⟨k, hk, rfl⟩ := List.mem_map.mp ha
          obtain ⟨k', hk', rfl⟩ := List.mem_map.mp hb
          have m1 := (dedup_strs xs).mem_iff.mp hk
          have m2 := (dedup_strs xs).mem_iff.mp hk'
          obtain ⟨i, _, rfl⟩ := List.mem_map.mp m1
          obtain ⟨j, _, rfl⟩ := List.mem_map.mp m2
          rfl
        · have p2 : ds'.Perm ((nubS xs).map .str) := by
            refine p.trans ?_
            have := (dedup_strs xs).map keyD
            rw [List.map_map] at this
            exact this
          obtain ⟨qs, e1, e2⟩ : ∃ qs : List Str, qs.Perm (nubS xs) ∧ ds' = qs.map .str := by
            have all : ∀ (l : List D), (∀ d ∈ l, ∃ i, d = .str i) → ∃ qs : List Str, l = qs.map .str := by
              intro l
              induction l with
              | nil => exact fun _ => ⟨[], rfl⟩
              | cons d l ih =>
                intro h
                obtain ⟨i, rfl⟩ := h d List.mem_cons_self
                obtain ⟨qs, rfl⟩ := ih fun d hd => h d (List.mem_cons_of_mem _ hd)
                exact ⟨i :: qs, rfl⟩
            obtain ⟨qs, rfl⟩ := all ds' fun d hd => by
              obtain ⟨i, _, e⟩ := List.mem_map.mp (p2.mem_iff.mp hd)
              exact ⟨i, e.symm⟩
            refine ⟨qs, ?_, rfl⟩
            have q := p2.filterMap (fun d : D => match d with | .str i => some i | _ => none)
            simpa [List.filterMap_map, Function.comp_def] using q
          subst e2
          rw [sortDs_strs, sortS_perm e1]
  · rw [if_neg hl] at h
    cases h
theorem de_sortSet {e : Expr} {m : En → R Ent} {p p2 pos pos2 : Pos} (hc : X.calm = true) (hu : X.A.units + 100 < cLine) (hm : X.mg "sorted" = none) (hm2 : X.mg "set" = none) (he : PE X e (tOf κ W m)) (hg : Gl X "sorted" := by rfl) (hg2 : Gl X "set" := by rfl)
    (hs : starEach [e] X.env = (false, eval e X.env) :: starEach [] X.env := by rfl) (hs2 : starEach [.Call (.Name "set" p2) [e] [] pos2] X.env = (false, eval (.Call (.Name "set" p2) [e] [] pos2) X.env) :: starEach [] X.env := by rfl)
    (hpl : (backTo pos2 (starEach [] X.env)).any (·.1) = false := by rfl) (hpl2 : (backTo pos (starEach [] X.env)).any (·.1) = false := by rfl) :
    PE X (.Call (.Name "sorted" p) [.Call (.Name "set" p2) [e] [] pos2] [] pos) (tOf κ W (eSortSet m)) :=
  pe_imp (pe_callB (call_sortQ hc hu) hg hm (by decide +kernel) (pa_cons (pe_callTy (call_setQ hc) hg2 hm2 (by decide +kernel) (pa_cons he pa_nil hs) (by decide) (by decide) hs hpl) pa_nil hs2) (by decide) (by decide) hs2 hpl2) fun σ H Q ⟨w, en, hw, s, po⟩ => by
    subst hw
    refine goD s po fun d e1 v w1 n1 s1 d1 p1 => ?_
    cases d with
    | list ds =>
      obtain ⟨a, xs, rfl, h1, h2⟩ := dp_list d1
      dsimp only at p1
      cases q : sortSetD ds with
      | none => rw [q] at p1; exact False.elim p1
      | some es =>
        rw [q] at p1
        obtain ⟨ks, e1', e2, e3, e4⟩ := sortSet_keys q
        subst e1'
        have := dpa_keys h2
        subst this
        refine ⟨a, ks, rfl, s1.wo.su _ _ h1, e2, fun b hb => ⟨b, dedupK ks [], rfl, upd_same, e3, fun ds' qs c pd eq hc' => ?_⟩⟩
        have s2 := s1.grow (o := SetHO X.prog X.w b (dedupK ks [])) hb
        have n2 := grow_nx (o := SetHO X.prog X.w b (dedupK ks [])) s1.wo.su hb
        have p2 := Po.mono (x := R.ok (Ent.ow es) e1) p1 n2
        have e5 : qs.map keyD = es := eq.trans (e4 ds' pd)
        subst e5
        refine fin_ow s2 p2 ?_ hc'
        have all : ∀ (G : Hp) (qs : List Key), DqAll G (qs.map kV) (qs.map keyD) := by
          intro G qs
          induction qs with
          | nil => exact .nil
          | cons k qs ih =>
            cases k with
            | inl i => exact .cons (.int i) ih
            | inr x => exact .cons (.str x) ih
        exact all _ qs
    | _ => exact False.elim p1
end
end CO

/-! CoS: which error: a def asked within an except suite. -/
namespace CO
open PySem PySem.Spec PyProof.Rows L2

/-! ### isinstance of the error at hand; list.count over data -/
section
variable {X : Cx}
theorem call_isP {a C : Addr} {oe : Obj} (hC : ExcC X.K C) (hz : Zc (.ref C) none oe) (hf : ∃ vs, oe.data = .fields vs) (hp : (a, oe) ∈ X.pn) : CallR X (.builtin "isinstance") (rIsE X.K C a) := by
  intro pins s σ H xs us Q I r h
  obtain ⟨c, cv, b, rfl, hcv, e, q⟩ := h
  cases r with
  | cons rx rr =>
    cases rr with
    | cons rt rr =>
      cases rr
      cases rx
      have ec := hcv _ rt
      subst ec
      obtain ⟨hget, _⟩ := I.pin (a, oe) (List.mem_append.mpr (.inl hp))
      obtain ⟨vs, hv⟩ := hf
      have J : PySem.W.InstAt s.heap a oe C none := by
        obtain ⟨oc, od, oda, osl⟩ := oe
        obtain ⟨h1, h2⟩ := hz
        dsimp only at h1 h2 hv
        subst h1 h2 hv
        exact ⟨hget, rfl, rfl, trivial⟩
      exact PySem.W.kia_one (PySem.W.handS_kitx_exc hC.hg hC.hk hC.hs hC.hd hC.ha hC.hn hC.ht hC.hm) I.kIn J e (fun z => nomatch z) fun tk => ⟨.bl b, H, I.kept (t' := tk) fun _ _ z => z, rfl, q⟩
def rCntD (K : PySem.W.Frag) : V → List V → Hp → VK → Prop := fun x xs H Q => ∃ (a : Addr) (y : V) (d : D) (ds : List D), x = V.ref a ∧ xs = [y] ∧ Dp K H (V.ref a) (.list ds) ∧ Dp K H y d ∧ SeqAt.shaped (.list ds) = true ∧ SeqAt.shaped d = true ∧
  Q (.int (ds.countP fun z => PyData.eqv z d : Nat)) H
theorem mt_countD (hu : X.A.units + 65 < cLine) : MtR X "list.count" (rCntD X.K) := by
  intro pins s σ H x xs v us Q I rx rxs h
  obtain ⟨a, y, d, ds, rfl, rfl, hl, hy, sl, sd, q⟩ := h
  cases rx
  cases rxs with
  | cons ry rt =>
    rename_i uy ut
    cases rt
    obtain ⟨bs, r1⟩ := Dp.reads I d y uy hy ry
    have hxs : PyData.canLayAll0 ds = true := SeqAt.canLay_of_shaped sl
    have hroom : X.A.units + 1 + min (PyData.depthAll ds) d.depth < cLine := room_in_shaped sd hu
    cases hl with
    | lst hs ha =>
      obtain ⟨its, rv, ⟨⟨cls, dd, data, sls⟩, n, ho, hc, hdn, hdt⟩, hlen⟩ := I.list hs
      simp only at hc hdt
      subst hc hdt
      obtain ⟨as, h4⟩ := Dp.readsAll I ds _ its ha rv
      have hmap : its.map (SeqAt.readOf s.heap) = ds := SeqAt.readsAll_map ds its as hxs h4
      refine call_meets PySem.F.slot_list_count ⟨_, ho, rfl⟩ PySem.F.entry_list_count (PySem.F.args_list_count_2 _ _) (SeqAt.list_countAt a its.toArray n dd sls uy (fun u => PyData.eqv (SeqAt.readOf s.heap u) d))
        ⟨ho, SeqAt.items_eqAt (vs := its.toArray) (show ReadsAll s.heap its.toArray.toList ds as from h4) r1 hxs (SeqAt.canLay_of_shaped sd) hroom, ?_⟩
      have e : its.toArray.toList.countP (fun u => PyData.eqv (SeqAt.readOf s.heap u) d) = ds.countP fun z => PyData.eqv z d := by
        rw [← hmap, List.countP_map]
        rfl
      refine ⟨.int (ds.countP fun z => PyData.eqv z d : Nat), H, I.tok _, ⟨s.toks, ?_⟩, q⟩
      show Value.int ((its.toArray.toList.countP (fun u => PyData.eqv (SeqAt.readOf s.heap u) d) : Nat) : Int) s.toks = _
      rw [e]
end

/-! ### a def asked with the pinned error -/
structure FnW (P : Program) (w : World) (K : PySem.W.Frag) (mg : Str → Option Value) (base : Heap) (k : Nat) (f : Addr) (fd : FuncData) (ps : List Str) (p : Addr × Obj) (sp : Sp) : Prop where
  len : ∀ vs H Q E, sp vs H Q E → vs.length = ps.length
  run : ∀ (A : Around) (outer : List Env) (s : Shared) (H : Hp) (args : Args) (us : List Value) (vs : List V) (Q : VK) (E : XK), L2H.RoomH k A → L2H.PinOk outer H s p → Env0 P w K mg base A outer s H → BindsTo s fd args (ps.zip us) → Vals vs us → sp vs H Q E →
    codeAny (model P w) A (.call (.ref f) args) (CR (L2.CX P w) outer P w H s Q E) s
theorem fnW_of {P : Program} {w : World} {K : PySem.W.Frag} {mg : Str → Option Value} {base : Heap} {k : Nat} {x : Str} {st : Stmt} {f : Addr} {fd : FuncData} {N ps : List Str} {p : Addr × Obj} {sp : Sp} (Ff : Fun K x x st f fd) (S : FnScope N ps (defScope st)) (len : ∀ vs H Q E, sp vs H Q E → vs.length = ps.length)
    (hbody : ∀ (cdv : Value) (A : Around) (outer : List Env) (s : Shared) (H : Hp) (vs : List V) (Q : VK) (E : XK), L2H.RoomH k (A.deeper (envOfC x (defScope st) s.heap.objs.size f cdv)) → sp vs H Q E →
      ∃ t, PSs (L2H.cxH (L2.CX P w) P w K mg base N x (defScope st) f cdv A outer s H E p) (defBody st) t ∧ t { nx := fun _ H' => Q .non H', rt := Q } (L2.start N vs) H) : FnW P w K mg base (k + 1) f fd ps p sp := by
  obtain ⟨oc, od, kV, doc, pm, an, cdv, ct, osl, rfl, lk, hcd⟩ := Ff.ex
  refine ⟨len, fun A outer s H args us vs Q E hr hpin e0 hb r hsp => ?_⟩
  have hl := len _ _ _ _ hsp
  have KX : K.In s.heap := e0.mod.kin.keeps fun b o e => (e0.bs b o e).1
  have lim : s.heap.NoLimit := e0.mod.nolimit.keeps fun b o e => (e0.bs b o e).1
  have kinds : ∀ y ∈ ps.zip us, (defScope st).names.lookup y.1 = some .local ∨ ((defScope st).names.lookup y.1 = some .cell ∧ ((cellsFrom (s.heap.objs.size + 1) (defScope st).names []).lookup y.1).isSome = true) := fun y hy => by
    obtain ⟨n, v⟩ := y
    rcases S.par n (List.of_mem_zip hy).1 with q | q
    · exact .inl q
    · exact .inr ⟨q, PySem.W.cellsFrom_some _ _ _ (.inl q)⟩
  refine codeAny_call_function hr.depth (KX _ _ lk) rfl S.co S.gen rfl (PySem.W.codeRec_of KX hcd) (hb _ _ _ _ (wpAny_newFunctionEnv_cells S.kind kinds fun env he s1 x => ?_))
  subst he
  refine ⟨lim.keeps x.toInCall.keep, codeAny_func ?_⟩
  obtain ⟨t, ht, hq⟩ := hbody cdv A outer s H vs Q E (hr.deeper _) hsp
  have I := L2H.inv_startH (CX := L2.CX P w) (E := E) S hpin e0 hl r x
  refine wpAny_mono (ht.run [] s1 (L2.start N vs) H _ I hq) (fun fl s' hs => ?_) fun e s' hs => hs
  cases fl with
  | ret u =>
    obtain ⟨v, σ', H', J, rv, q⟩ := hs
    exact ⟨v, H', J.os, J.bare, J.base, J.hok, rv, q⟩
  | next =>
    obtain ⟨σ', H', J, q⟩ := hs
    exact ⟨.non, H', J.os, J.bare, J.base, J.hok, rfl, q⟩
  | brk =>
    obtain ⟨_, _, _, q⟩ := hs
    exact False.elim q
  | cont =>
    obtain ⟨_, _, _, q⟩ := hs
    exact False.elim q
section
variable {X : Cx} {k : Nat} {f : Addr} {fd : FuncData} {ps : List Str} {sp : Sp} {x : Str} {q pos : Pos} {e : Expr} {t : TA} {pn : Addr × Obj}
theorem pe_callW (F : FnW X.prog X.w X.K X.mg X.base k f fd ps pn sp) (hr : L2H.RoomH k X.A) (hp : pn ∈ X.pn) (hm : X.mg x = some (.ref f)) (hk : PySem.W.keepIn X.K (.ref f) = true) (hb : Binds X.K fd ps []) (ha : PA X (e :: []) t) (hg : Gl X x := by rfl)
    (hdb : (x == ("__debug__" : Str)) = false := by decide) (he : starEach (e :: []) X.env = (false, eval e X.env) :: starEach [] X.env := by rfl) (hpl : (backTo pos (starEach [] X.env)).any (·.1) = false := by rfl) :
    PE X (.Call (.Name x q) (e :: []) [] pos) (fun σ H Q => t σ H fun vs H1 => sp vs H1 Q E0) := by
  refine ⟨fun pins s σ H Q I h => wpAny_Call_Name_kw (ld_glob I hg hm ?_ hdb)⟩
  refine PySem.W.callWith_K (h₀ := X.base) I.ok.mod.kin hk (thn (ha.run pos pins s σ H _ I h) fun us s1 ⟨vs, H1, I1, r, q⟩ => ⟨I1.kIn, ?_⟩) he hpl
  have hl : us.length = ps.length := by
    rw [← r.length]
    exact F.len _ _ _ _ q
  have b := hb s1 us I1.kIn (by rw [List.append_nil]; exact hl)
  rw [List.append_nil] at b
  have P1 := I1.pin pn (List.mem_append_left _ hp)
  have hpin : L2H.PinOk X.stack H1 s1 pn := ⟨P1.1, P1.2.1, fun hm => (List.mem_cons.mp (I1.stkSub pn.1 hm)).elim P1.2.2.1 P1.2.2.2.1, P1.2.2.2.2⟩
  refine wpAny_call (codeAny_mono (F.run X.A X.stack s1 H1 ⟨us, []⟩ us vs Q E0 hr hpin I1.env0 b r q) fun r s' hq => ?_)
  cases r with
  | error e =>
    obtain ⟨_, _, _, _, _, _, _, _, _, _, _, _, z⟩ := hq
    exact z.elim
  | ok fl =>
    cases fl with
    | ret u => exact I1.after hq
    | next => exact False.elim hq
    | brk => exact False.elim hq
    | cont => exact False.elim hq
end

/-! ### which -/
/-- what the top says of the error c and of the classes asked for -/
structure WhichF (K : PySem.W.Frag) (mg : Str → Option Value) (κ : Kx) (c : Nat) : Prop where
  lt : c < 10
  hK : κ.K = K
  isi : mg "isinstance" = none
  ve : mg "ValueError" = none
  g0 : mg "InvalidGame" = some (.ref (κ.ec 0))
  g1 : mg "InvalidRow" = some (.ref (κ.ec 1))
  g2 : mg "InvalidShape" = some (.ref (κ.ec 2))
  g3 : mg "InvalidMove" = some (.ref (κ.ec 3))
  g4 : mg "OutOfReach" = some (.ref (κ.ec 4))
  g5 : mg "OnRing" = some (.ref (κ.ec 5))
  g6 : mg "SeveralShapes" = some (.ref (κ.ec 6))
  g7 : mg "TooLong" = some (.ref (κ.ec 7))
  g8 : mg "NothingToUndo" = some (.ref (κ.ec 8))
  g9 : mg "ParseError" = some (.ref (κ.ec 9))
  kit : ∀ j, j < 10 → PySem.W.kitOne K (.ref (κ.ec c)) (.ref (κ.ec j)) = some (decide (c = j))
  kv : PySem.W.kitOne K (.ref (κ.ec c)) (.type "ValueError") = some true
  cls : ExcC K (κ.ec c)
/-- the answer: ('raised', c) -/
def ansD (c : Nat) : D := .tuple [.str (PySem.Str.ofString "raised"), .int c]
def spWhich (a : Addr) (c : Nat) : Sp := fun vs H Q _ => vs = [.ref a] ∧ ∀ H' p, Same H H' → H' p = none → Q (.ref p) (upd H' p (.tup [.str (PySem.Str.ofString "raised"), .int c]))
def tIs (K : PySem.W.Frag) (C a : Addr) (v : V) : TE := tCB (rIsE K C a) (tCons (tVar 0) (tCons (tC v) tNil))
theorem tIs_ok {K : PySem.W.Frag} {C a : Addr} {v : V} {cv : Value} {b : Bool} {σ : St} {H : Hp} {Q : VK} (h0 : σ[0]? = some (some (.ref a))) (hv : ∀ u, RelV v u → u = cv) (hk : PySem.W.kitOne K (.ref C) cv = some b) (q : Q (.bl b) H) : tIs K C a v σ H Q :=
  ⟨_, h0, v, cv, b, rfl, hv, hk, q⟩
theorem ref_only {C : Addr} : ∀ u, RelV (.ref C) u → u = .ref C := fun _ h => h
def tWhich (K : PySem.W.Frag) (κ : Kx) (C a : Addr) : TS :=
  let is := fun j => tIs K C a (.ref (κ.ec j))
  tSeq (tAsg (tLst (tCons (is 0) (tCons (is 1) (tCons (is 2) tNil)))) (gName 1)) (tSeq (tDrop (tBM K "list" rExtend (tVar 1) (tCons (tLst (tCons (is 3) (tCons (is 4) (tCons (is 5) tNil)))) tNil)))
    (tSeq (tDrop (tBM K "list" rExtend (tVar 1) (tCons (tLst (tCons (is 6) (tCons (is 7) (tCons (is 8) tNil)))) tNil))) (tSeq (tDrop (tBM K "list" rAppend (tVar 1) (tCons (is 9) tNil)))
      (tSeq (tIfS (tOr (tTest (tOp rNe (tBM K "list" (rCntD K) (tVar 1) (tCons (tC (.bl true)) tNil)) (tC (.int 1)))) (tNot (tTest (tIs K C a (.ty "ValueError"))))) (tRet (tTup (tCons (tC (.str "raised")) (tCons (tUn (rU fun i => .int (-i)) (tC (.int 1))) tNil)))) tNext)
        (tRet (tTup (tCons (tC (.str "raised")) (tCons (tBM K "list" (rIndexD K) (tVar 1) (tCons (tC (.bl true)) tNil)) tNil))))))))
theorem same_upd {H H1 : Hp} {p : Addr} {o : HO} (h : Same H H1) (hp : H p = none) : Same H (upd H1 p o) := fun b x e => by
  rw [upd_ne (ne_of_none e hp)]
  exact h b x e
theorem bools_shaped : ∀ bs : List Bool, SeqAt.shaped (.list (bs.map .bool)) = true := by
  intro bs
  have h : ∀ bs : List Bool, PyData.canLayAll0 (bs.map .bool) = true ∧ PyData.depthAll (bs.map .bool) = 0 := by
    intro bs
    induction bs with
    | nil => exact ⟨by simp [PyData.canLayAll0], by simp [PyData.depthAll]⟩
    | cons b bs ih => exact ⟨by simp [PyData.canLayAll0, PyData.canLay0, ih.1], by simp [PyData.depthAll, PyData.depth, ih.2]⟩
  unfold SeqAt.shaped
  simp [PyData.canLay0, PyData.depth, (h bs).1, (h bs).2]
theorem bools_dp {K : PySem.W.Frag} {H : Hp} : ∀ bs : List Bool, DpAll K H (bs.map V.bl) (bs.map .bool)
  | [] => .nil
  | b :: bs => .cons (.bl b) (bools_dp bs)
def whichBs (c : Nat) : List Bool := [decide (c = 0), decide (c = 1), decide (c = 2)] ++ [decide (c = 3), decide (c = 4), decide (c = 5)] ++ [decide (c = 6), decide (c = 7), decide (c = 8)] ++ [decide (c = 9)]
theorem which_count {c : Nat} (h : c < 10) : ((whichBs c).map PyData.bool).countP (fun z => PyData.eqv z (.bool true)) = 1 := by
  have : c = 0 ∨ c = 1 ∨ c = 2 ∨ c = 3 ∨ c = 4 ∨ c = 5 ∨ c = 6 ∨ c = 7 ∨ c = 8 ∨ c = 9 := by omega
  rcases this with rfl | rfl | rfl | rfl | rfl | rfl | rfl | rfl | rfl | rfl <;> decide
theorem which_at {c : Nat} (h : c < 10) : ((whichBs c).map PyData.bool)[c]? = some (.bool true) ∧ ∀ (m : Nat) (z : D), m < c → ((whichBs c).map PyData.bool)[m]? = some z → PyData.eqv z (.bool true) = false := by
  have k1 : ∀ c, c < 10 → (whichBs c)[c]? = some true := by decide
  have k2 : ∀ c, c < 10 → ∀ m, m < c → (whichBs c)[m]? = some false := by decide
  refine ⟨by rw [List.getElem?_map, k1 c h]; rfl, fun m z hm hz => ?_⟩
  rw [List.getElem?_map, k2 c h m hm] at hz
  cases hz
  simp [PyData.eqv]
section
variable {P : Program} {w : World} {K : PySem.W.Frag} {mg : Str → Option Value} {base : Heap} {κ : Kx} {c : Nat} {a : Addr}
theorem pure_which (Fw : WhichF K mg κ c) (vs : List V) (H : Hp) (Q : VK) (E : XK) (h : spWhich a c vs H Q E) : tWhich K κ (κ.ec c) a { nx := fun _ H' => Q .non H', rt := Q } (L2.start ["_law_e", "_law_own"] vs) H := by
  obtain ⟨rfl, k⟩ := h
  have is : ∀ {j : Nat} {σ : St} {H : Hp} {Q : VK}, j < 10 → σ[0]? = some (some (.ref a)) → Q (.bl (decide (c = j))) H → tIs K (κ.ec c) a (.ref (κ.ec j)) σ H Q := fun hj h0 q => tIs_ok h0 ref_only (Fw.kit _ hj) q
  refine is (by decide) rfl (is (by decide) rfl (is (by decide) rfl ⟨by show 3 ≤ sizeLine; decide, fun l hl => ?_⟩))
  have s1 : Same H (upd H l (.lst [.bl (decide (c = 0)), .bl (decide (c = 1)), .bl (decide (c = 2))])) := same_upd (Same.refl H) hl
  refine ⟨_, rfl, .inl ⟨rfl, _, SqL.of upd_same⟩, is (by decide) rfl (is (by decide) rfl (is (by decide) rfl ⟨by show 3 ≤ sizeLine; decide, fun l2 hl2 => ?_⟩))⟩
  have n2 : l2 ≠ l := fun z => by
    rw [z, upd_same] at hl2
    cases hl2
  have s2 := same_upd (o := .lst [.bl (decide (c = 3)), .bl (decide (c = 4)), .bl (decide (c = 5))]) s1 (s1.free hl2)
  refine ⟨l, l2, _, _, rfl, rfl, (upd_ne (Ne.symm n2)).trans upd_same, upd_same, by show 6 ≤ sizeLine; decide, ?_⟩
  have s3 := same_upd (p := l) (o := .lst ([.bl (decide (c = 0)), .bl (decide (c = 1)), .bl (decide (c = 2))] ++ [.bl (decide (c = 3)), .bl (decide (c = 4)), .bl (decide (c = 5))])) s2 hl
  refine ⟨_, rfl, .inl ⟨rfl, _, SqL.of upd_same⟩, is (by decide) rfl (is (by decide) rfl (is (by decide) rfl ⟨by show 3 ≤ sizeLine; decide, fun l3 hl3 => ?_⟩))⟩
  have n3 : l3 ≠ l := fun z => by
    rw [z, upd_same] at hl3
    cases hl3
  have s4 := same_upd (o := .lst [.bl (decide (c = 6)), .bl (decide (c = 7)), .bl (decide (c = 8))]) s3 (s3.free hl3)
  refine ⟨l, l3, _, _, rfl, rfl, (upd_ne (Ne.symm n3)).trans upd_same, upd_same, by show 9 ≤ sizeLine; decide, ?_⟩
  have s5 := same_upd (p := l) (o := .lst ([.bl (decide (c = 0)), .bl (decide (c = 1)), .bl (decide (c = 2))] ++ [.bl (decide (c = 3)), .bl (decide (c = 4)), .bl (decide (c = 5))] ++ [.bl (decide (c = 6)), .bl (decide (c = 7)), .bl (decide (c = 8))])) s4 hl
  refine ⟨_, rfl, .inl ⟨rfl, _, SqL.of upd_same⟩, is (by decide) rfl ⟨l, _, _, rfl, rfl, upd_same, by show 9 < sizeLine; decide, ?_⟩⟩
  have s6 := same_upd (p := l) (o := .lst ((whichBs c).map V.bl)) s5 hl
  have dl : Dp K (upd (upd (upd (upd (upd (upd H l (.lst [.bl (decide (c = 0)), .bl (decide (c = 1)), .bl (decide (c = 2))])) l2 (.lst [.bl (decide (c = 3)), .bl (decide (c = 4)), .bl (decide (c = 5))])) l (.lst ([.bl (decide (c = 0)), .bl (decide (c = 1)), .bl (decide (c = 2))] ++ [.bl (decide (c = 3)), .bl (decide (c = 4)), .bl (decide (c = 5))]))) l3 (.lst [.bl (decide (c = 6)), .bl (decide (c = 7)), .bl (decide (c = 8))]))
    l (.lst ([.bl (decide (c = 0)), .bl (decide (c = 1)), .bl (decide (c = 2))] ++ [.bl (decide (c = 3)), .bl (decide (c = 4)), .bl (decide (c = 5))] ++ [.bl (decide (c = 6)), .bl (decide (c = 7)), .bl (decide (c = 8))]))) l (.lst ((whichBs c).map V.bl))) (.ref l) (.list ((whichBs c).map .bool)) := .lst (SqL.of upd_same) (bools_dp _)
  refine ⟨_, rfl, .inl ⟨rfl, _, SqL.of upd_same⟩, l, .bl true, .bool true, (whichBs c).map .bool, rfl, rfl, dl, .bl true, bools_shaped _, by decide, ?_⟩
  rw [which_count Fw.lt]
  refine ⟨rfl, _, rfl, ?_⟩
  refine iteF (tIs_ok (b := true) rfl (cv := .type "ValueError") (fun u h => h) Fw.kv ⟨true, rfl, iteF ⟨_, rfl, .inl ⟨rfl, _, SqL.of upd_same⟩, l, .bl true, .bool true, (whichBs c).map .bool, c, .bool true, rfl, rfl, dl, .bl true, bools_shaped _, by decide, (which_at Fw.lt).1, rfl, (which_at Fw.lt).2, ?_⟩⟩)
  exact ⟨by show 2 ≤ sizeLine; decide, fun p hp => k _ p s6 hp⟩
end
end CO

/-! CoT: try: .. except CoinError as e: return which(e). -/
namespace CO
open PySem PySem.Spec PyProof.Rows L2
section
variable {κ : Kx} {w : Sn} {σ : St} {en : En}
theorem StR.sameH {H' : Hp} (s : StR κ w σ en) (h : Same w.H H') : StR κ { w with H := H' } σ en := by
  refine ⟨⟨s.wo.fr, s.wo.su.trans h, s.wo.wl, fun j ob q e1 e2 => ?_⟩, s.ln, fun i => ?_⟩
  · have x := s.wo.wd j ob q e1 e2
    cases ob with
    | tn k => exact ⟨x.1, h _ _ x.2⟩
    | tb g rows kept =>
      obtain ⟨dx, l, vg, rs, a1, a2, a3, a4, a5, a6, a7, a8⟩ := x
      exact ⟨dx, l, vg, rs, a1, a2, a3, h _ _ a4, h _ _ a5, h _ _ a6, a7, a8⟩
  · rcases s.sl i with q | ⟨v, q1, q2⟩
    · exact .inl q
    · refine .inr ⟨v, q1, ?_⟩
      show EntR κ { w with H := H' } (.s i) v (en.get i)
      cases hg : en.get i with
      | no => trivial
      | sh d => rw [hg] at q2; exact q2
      | ow ds =>
        rw [hg] at q2
        obtain ⟨p, xs, e1, e2, e3, e4⟩ := q2
        exact ⟨p, xs, e1, e2, h _ _ e3, e4⟩
      | dk kvs =>
        rw [hg] at q2
        obtain ⟨p, xs, e1, e2, e3, e4⟩ := q2
        exact ⟨p, xs, e1, e2, h _ _ e3, e4⟩
      | wr j => rw [hg] at q2; exact q2
      | sc => rw [hg] at q2; exact q2
theorem sameH_nx {H' : Hp} (h : Same w.H H') : Nx w { w with H := H' } := ⟨List.prefix_refl _, Same.refl _, fun x o h1 h2 => ⟨h _ _ h1, rfl, h2⟩⟩
end
def sTry (i : Nat) (cs : List Nat) (ms : En → R Fl) (en : En) : R Fl := match ms en with
  | .ok f e => .ok f e
  | .ex c e => if cs.contains c = true ∧ i < e.sl.length then .ok (.rt (.sh (ansD c))) e else .st
  | .st => .st
/-- what the suite's call gives -/
def tAsk (i : Nat) (a : Addr) (c : Nat) : TE := fun σ H Q => σ[i]? = some (some (.ref a)) ∧ ∀ H' p, Same H H' → H' p = none → Q (.ref p) (upd H' p (.tup [.str (PySem.Str.ofString "raised"), .int c]))
section
variable {X : Cx} {κ : Kx} {W : WX}
theorem ds_tryW (i : Nat) (cs : List Nat) {ce : Addr} {x n : Str} {body : List Stmt} {call : Expr} {np pos pos' rp : Pos} {ms : En → R Fl} (hN : X.N.Nodup) (hc : Names X x (.ref ce)) (hW : ∀ c, cs.contains c = true → PySem.W.exmOne X.K (.ref (κ.ec c)) (.ref ce) = some true)
    (hb : ∀ (W' : WX) (pn : List (Addr × Obj)) (xe : Value → Shared → Prop), Takes (X.tr pn xe) W' → PassesOwn (model X.prog X.w) X.A X.env xe → PSs (X.tr pn xe) body (tSOf κ W' ms))
    (hsu : ∀ c, cs.contains c = true → ∀ (a : Addr) (oe : Obj) (pn : List (Addr × Obj)), Zc (.ref (κ.ec c)) none oe → (∃ vs, oe.data = .fields vs) → PE (X.suite a ((a, oe) :: pn)) call (tAsk i a c))
    (hs : X.stack = X.env :: X.outer := by rfl) (hf : X.env.frame = some X.env.locals := by rfl) (hi : X.N[i]? = some n := by rfl) (hln : X.env.kindOf n = some .local := by rfl) :
    PS X (.Try body [.ExceptHandler (some (.Name x np)) (some n) [.Return (some call) rp] pos'] [] [] pos) (tSOf κ W (sTry i cs ms)) := by
  have base := ps_try_as (X := X) (pos := pos) (np := np) (pos' := pos') (i := i) (tb := fun W' => tSOf κ W' ms) (ts := fun a cls d D σ H => ∃ c, cs.contains c = true ∧ cls = .ref (κ.ec c) ∧ d = none ∧ tRet (tAsk i a c) D σ H) (Wout := NoW) (b₀ := .Return (some call) rp) (suite := []) hs hf hN hi hln hc takes0 hb
    (fun a oe cls d pn hz hfl => ⟨fun pins s σ H D I h => by
      obtain ⟨c, h1, rfl, rfl, h4⟩ := h
      exact (pss_one (ps_ret (hsu c h1 a oe pn hz hfl))).run pins s σ H D I h4⟩)
  refine ps_imp base fun D σ H ⟨w, en, hw, s, p⟩ => ?_
  subst hw
  refine ⟨w, en, rfl, s, ?_⟩
  unfold sTry at p
  cases e : ms en with
  | ok f e1 =>
    rw [e] at p
    exact p
  | ex c e1 =>
    rw [e] at p
    intro σ' w' n' s'
    dsimp only at p
    by_cases hcs : cs.contains c = true ∧ i < e1.sl.length
    · rw [if_pos hcs] at p
      refine ⟨true, hW c hcs.1, fun _ a ha => ⟨c, hcs.1, rfl, rfl, ?_, fun H' q hS hq => ?_⟩, fun z => nomatch z⟩
      · rw [List.getElem?_set_self (by rw [← s'.ln]; exact hcs.2)]
      · have s2 := s'.sameH hS
        have n2 := n'.trans (sameH_nx hS)
        have s3 : StR κ (grow { w' with H := H' } q (.tup [.str (PySem.Str.ofString "raised"), .int c])) σ' e1 := s2.grow hq
        have n3 := n2.trans (grow_nx (w := { w' with H := H' }) (o := .tup [.str (PySem.Str.ofString "raised"), .int c]) s2.wo.su hq)
        exact p (grow { w' with H := H' } q (.tup [.str (PySem.Str.ofString "raised"), .int c])) n3 (.ref q) σ' s3 (.tup upd_same (.cons (.str _) (.cons (.int _) .nil)))
    · rw [if_neg hcs] at p
      exact False.elim p
  | st =>
    rw [e] at p
    exact p
/-- the call in the suite -/
theorem de_ask {k i c : Nat} {f : Addr} {fd : FuncData} {a : Addr} {oe : Obj} {x y : Str} {q py pos : Pos} (Fw : FnW X.prog X.w X.K X.mg X.base k f fd ["_law_e"] (a, oe) (spWhich a c)) (hr : L2H.RoomH k X.A) (hp : (a, oe) ∈ X.pn) (hm : X.mg x = some (.ref f)) (hk : PySem.W.keepIn X.K (.ref f) = true) (hb : Binds X.K fd ["_law_e"] [])
    (hN : X.N[i]? = some y := by rfl) (hv : Vis X.env.scope y := by first | exact Or.inl rfl | exact Or.inr (Or.inl rfl) | exact Or.inr (Or.inr rfl)) (hd : (y == ("__debug__" : Str)) = false := by decide) (hcd : (y == ("__classdict__" : Str)) = false := by decide) (hg : Gl X x := by rfl)
    (hdb : (x == ("__debug__" : Str)) = false := by decide) (he : starEach (.Name y py :: []) X.env = (false, eval (.Name y py) X.env) :: starEach [] X.env := by rfl) (hpl : (backTo pos (starEach [] X.env)).any (·.1) = false := by rfl) :
    PE X (.Call (.Name x q) [.Name y py] [] pos) (tAsk i a c) :=
  pe_imp (pe_callW Fw hr hp hm hk hb (pa_cons (pv i hN hv hd hcd) pa_nil he) hg hdb he hpl) fun σ H Q ⟨h1, h2⟩ => ⟨_, h1, rfl, h2⟩
end
end CO

/-! CoU: the law's town, the law's end. -/
namespace CO
open PySem PySem.Spec PyProof.Rows L2
def sTown (i : Nat) (en : En) : R Fl := .ok .nx (En.set { en with wd := en.wd ++ [Ob.tn 0] } i (.wr en.wd.length))
section
variable {κ : Kx} {w : Sn} {σ : St} {en : En}
/-- a new world object at p -/
def newW (w : Sn) (p : Addr) (o : HO) (j : Nat) : Sn := { w with ad := w.ad ++ [p], H := upd w.H p o, O := fun b => if b = p then some (.w j) else w.O b }
theorem newW_nx {p : Addr} {o : HO} {j : Nat} (hp : w.H p = none) : Nx w (newW w p o j) :=
  ⟨List.prefix_append _ _, Same.refl _, fun x u h1 h2 => by
    have ne : x ≠ p := ne_of_none h1 hp
    exact ⟨(upd_ne ne).trans h1, rfl, (if_neg ne).trans h2⟩⟩
theorem ObR.newW {p q : Addr} {o : HO} {ix : Ix} {ob : Ob} {j : Nat} (hp : w.H p = none) (h : ObR κ w ix q ob) : ObR κ (newW w p o j) ix q ob := by
  have ne : ∀ {q : Addr} {u : HO}, w.H q = some u → q ≠ p := fun e => ne_of_none e hp
  have up : ∀ {q : Addr} {u : HO} {kx : Option Ix}, w.H q = some u → w.O q = kx → (if q = p then some (Ix.w j) else w.O q) = kx := fun e1 e2 => (if_neg (ne e1)).trans e2
  cases ob with
  | tn k => exact ⟨up h.2 h.1, (upd_ne (ne h.2)).trans h.2⟩
  | tb g rows kept =>
    obtain ⟨dx, l, vg, rs, a1, a2, a3, a4, a5, a6, a7, a8⟩ := h
    exact ⟨dx, l, vg, rs, up a4 a1, up a5 a2, up a6 a3, (upd_ne (ne a4)).trans a4, (upd_ne (ne a5)).trans a5, (upd_ne (ne a6)).trans a6, a7, a8⟩
theorem StR.newW {p : Addr} {o : HO} {ob : Ob} (s : StR κ w σ en) (hp : w.H p = none) (hr : ObR κ (CO.newW w p o en.wd.length) (.w en.wd.length) p ob) : StR κ (CO.newW w p o en.wd.length) σ { en with wd := en.wd ++ [ob] } := by
  refine ⟨⟨fun q i e => ?_, fun b u e => ?_, ?_, fun j ob' q e1 e2 => ?_⟩, s.ln, fun i => ?_⟩
  · by_cases z : q = p
    · rw [z]; exact s.wo.su.free hp
    · have e' : (if q = p then some (Ix.w en.wd.length) else w.O q) = some i := e
      rw [if_neg z] at e'
      exact s.wo.fr q i e'
  · have q := s.wo.su b u e
    exact (upd_ne (ne_of_none q hp)).trans q
  · show (w.ad ++ [p]).length = (en.wd ++ [ob]).length
    rw [List.length_append, List.length_append, s.wo.wl]; rfl
  · have e1' : (en.wd ++ [ob])[j]? = some ob' := e1
    have e2' : (w.ad ++ [p])[j]? = some q := e2
    by_cases hj : j < en.wd.length
    · rw [List.getElem?_append_left hj] at e1'
      rw [List.getElem?_append_left (by rw [s.wo.wl]; exact hj)] at e2'
      exact (s.wo.wd j ob' q e1' e2').newW hp
    · have ej : j = en.wd.length := by
        have := (List.getElem?_eq_some_iff.mp e1').1
        rw [List.length_append, List.length_singleton] at this
        omega
      subst ej
      rw [List.getElem?_append_right (Nat.le_refl _), Nat.sub_self] at e1'
      rw [List.getElem?_append_right (by rw [s.wo.wl]; exact Nat.le_refl _), s.wo.wl, Nat.sub_self] at e2'
      cases e1'
      cases e2'
      exact hr
  · rcases s.sl i with q | ⟨v, q1, q2⟩
    · exact .inl q
    · refine .inr ⟨v, q1, ?_⟩
      show EntR κ (CO.newW w p o en.wd.length) (.s i) v (en.get i)
      have ne : ∀ {q : Addr} {u : HO}, w.H q = some u → q ≠ p := fun e => ne_of_none e hp
      cases hg : en.get i with
      | no => trivial
      | sh d => rw [hg] at q2; exact q2
      | ow ds =>
        rw [hg] at q2
        obtain ⟨q, ys, e1, e2, e3, e4⟩ := q2
        exact ⟨q, ys, e1, (if_neg (ne e3)).trans e2, (upd_ne (ne e3)).trans e3, e4⟩
      | dk kvs =>
        rw [hg] at q2
        obtain ⟨q, ys, e1, e2, e3, e4⟩ := q2
        exact ⟨q, ys, e1, (if_neg (ne e3)).trans e2, (upd_ne (ne e3)).trans e3, e4⟩
      | wr j =>
        rw [hg] at q2
        obtain ⟨q, e1, e2⟩ := q2
        exact ⟨q, e1, (newW_nx (o := o) (j := en.wd.length) hp).ad e2⟩
      | sc => rw [hg] at q2; exact q2
end
section
variable {X : Cx} {κ : Kx} {W : WX}
theorem ds_town (i : Nat) {x : Str} {pe pos' pos : Pos} (hN : X.N.Nodup) (hi : X.N[i]? = some x := by rfl) (hx : Loc X.env.scope x := by first | exact Or.inl rfl | exact Or.inr rfl) (hs : swapsWith (.List [] pe) (some (.Name x pos')) pos.line X.env = pure false := by rfl)
    (hf : X.fn x = true ∨ X.env.scope.names.lookup x = some .local := by first | exact .inl rfl | exact .inr rfl) : PS X (.Assign [.Name x pos'] (.List [] pe) pos) (tSOf κ W (sTown i)) :=
  ps_imp (ps_set hN hi hx (pe_lst pa_nil) hs hf) fun Dn σ H ⟨w, en, hw, s, p⟩ => by
    subst hw
    refine ⟨by decide, fun q hq => ?_⟩
    have s1 : StR κ (newW w q (.lst []) en.wd.length) σ { en with wd := en.wd ++ [.tn 0] } := s.newW hq ⟨if_pos rfl, upd_same⟩
    have ha : (newW w q (.lst []) en.wd.length).ad[en.wd.length]? = some q := by
      show (w.ad ++ [q])[en.wd.length]? = some q
      rw [← s.wo.wl, List.getElem?_append_right (Nat.le_refl _), Nat.sub_self]; rfl
    have s2 := s1.sto (i := i) (v := .ref q) (r := .wr en.wd.length) ⟨q, rfl, ha⟩
    have n1 := newW_nx (w := w) (p := q) (o := .lst []) (j := en.wd.length) hq
    have n2 : Nx w { newW w q (.lst []) en.wd.length with O := stoO (newW w q (.lst []) en.wd.length).O i (own? (.wr en.wd.length) (.ref q)) } := sto_nx n1 fun p e => by cases e
    exact p _ n2 _ s2
end
/-- as fnD_of, the def's own object in sight -/
theorem fnOk_of {P : Program} {w : World} {K : PySem.W.Frag} {mg : Str → Option Value} {base : Heap} {κ : Kx} {x : Str} {st : Stmt} {f : Addr} {fd : FuncData} {N ps : List Str} {k : Nat} (Ff : Fun K x x st f fd) (S : FnScope N ps (defScope st)) (ms : En → R Fl)
    (hbody : ∀ (cdv : Value) (A : Around) (outer : List Env) (s : Shared) (H : Hp) (E : XK), Room k (A.deeper (envOfC x (defScope st) s.heap.objs.size f cdv)) →
      PSs (cxOf (L2.CX P w) P w K mg base N x (defScope st) f cdv A outer s H E) (defBody st) (tSOf κ (fun cls d _ H => E cls d H) ms)) : FnOk P w K mg base (L2.CX P w) (k + 1) f fd ps (spOf κ ps.length (finM N.length ms)) := by
  refine Ff.okX S (fun vs H Q E h => h.1) (fun cdv A outer s H vs Q E hr h => ⟨_, hbody cdv A outer s H E hr, ?_⟩)
  obtain ⟨_, w0, es, wd, hH, hw, hO, ha, p⟩ := h
  refine ⟨w0, _, hH, start_ok hw ha, ?_⟩
  unfold finM at p
  cases hm : ms ⟨es ++ List.replicate (N.length - es.length) .no, wd⟩ with
  | ok fl e =>
    rw [hm] at p
    intro w' n
    cases fl with
    | nx => exact fun σ' s' => p .non w' n s'.wo .non
    | rt r => exact fun v σ' s' er => p v w' n s'.wo er
    | bk => exact False.elim p
    | ct => exact False.elim p
  | ex c e =>
    rw [hm] at p
    exact fun σ' w' n s' => p w' n s'.wo
  | st =>
    rw [hm] at p
    exact p
/-- the law's start -/
theorem law_start {κ : Kx} {K : PySem.W.Frag} {m : List Ent → List Ob → R Ent} {H : Hp} {a : Addr} {ns : List Int} (hK : κ.K = K) (hS : SqL K H a (ns.map V.int)) (h : ∃ e, m [.sc ns] [] = .ok (.sh (.bool true)) e) : spOf κ 1 m [.ref a] H (fun v _ => v = .bl true) fun _ _ _ => False := by
  obtain ⟨e, he⟩ := h
  refine ⟨rfl, ⟨[], fun _ => none, H, H⟩, [.sc ns], [], rfl, ⟨(fun p i z => nomatch z), Same.refl _, rfl, (fun j ob p z => by simp at z)⟩, (fun p ix z => nomatch z), .cons ⟨a, rfl, by rw [hK]; exact hS⟩ .nil, ?_⟩
  rw [he]
  exact fun v w' n hw er => dp_bool er
theorem cx_false {P : Program} {w : World} {H : Hp} {s : Shared} {e : Value} {s' : Shared} (h : L2.CX P w [] H s (fun _ _ _ => False) e s') : False := by
  obtain ⟨_, _, _, _, _, _, _, _, _, _, _, _, z⟩ := h
  exact z
/-! ### what K says by names -/
def adr (K : PySem.W.Frag) (x : Str) : Addr := match PySem.W.nsIn K mainGlobals x with
  | some (some (.ref a)) => a
  | _ => 0
theorem adr_of {K : PySem.W.Frag} {x : Str} {a : Addr} (h : PySem.W.nsIn K mainGlobals x = some (some (.ref a))) : adr K x = a := by
  unfold adr
  rw [h]
def excNm : Nat → Str
  | 0 => "InvalidGame" | 1 => "InvalidRow" | 2 => "InvalidShape" | 3 => "InvalidMove" | 4 => "OutOfReach"
  | 5 => "OnRing" | 6 => "SeveralShapes" | 7 => "TooLong" | 8 => "NothingToUndo" | 9 => "ParseError" | _ => "CoinError"
def kOf (K : PySem.W.Frag) : Kx := ⟨K, adr K "Table", fun j => adr K (excNm j)⟩
theorem exn_mk {K : PySem.W.Frag} {h : Heap} {mg : Str → Option Value} {C : Addr} (c : Nat) (X : K.In h) (G : h.Ns mainGlobals mg) (a : PySem.W.nsIn K mainGlobals (excNm c) = some (some (.ref C))) (k : PySem.W.keepIn K (.ref C) = true)
    (e : PySem.W.excIn K C [.type "ValueError", .type "Exception", .type "BaseException", .type "object"] "ValueError.__new__" = true) (s : PySem.W.subIn K (.ref C) (.type "BaseException") = some true) (t : PySem.W.typeIn K (.ref C) = some (.type "type")) : ExnOk K mg (kOf K) c (excNm c) := by
  have z : (kOf K).ec c = C := adr_of a
  refine ⟨?_, ?_, ?_, ?_, ?_⟩ <;> rw [z]
  · exact PySem.W.mg_of X G a
  · exact k
  · exact e
  · exact s
  · exact t
theorem fun_ok {K : PySem.W.Frag} {h : Heap} {mg : Str → Option Value} {x : Str} {st : Stmt} {f : Addr} {ps : List Str} {oc : Value} {od an : Option Addr} {osl : Array (Option Value)} {kV doc pm cdv ct : Value} (X : K.In h) (G : h.Ns mainGlobals mg) (a : PySem.W.nsIn K mainGlobals x = some (some (.ref f)))
    (l : K.lookup f = some ⟨oc, od, .func (PySem.W.fnOf x x (defArgs st) (defBody st) (defScope st) .none kV doc pm an cdv ct), osl⟩) (c : PySem.W.codeIn K cdv x = true) (k : PySem.W.keepIn K (.ref f) = true)
    (b : ∀ (kV doc pm : Value) (an : Option Addr) (cdv ct : Value) (us : List Value), us.length = ps.length → bindArgs (PySem.W.fnOf x x (defArgs st) (defBody st) (defScope st) .none kV doc pm an cdv ct) ⟨us, []⟩ = pure (ps.zip us)) : FunOk K mg x st ps :=
  ⟨f, _, fun_mk l c k, PySem.W.mg_of X G a, (fun_mk l c k).binds b⟩
end CO

/-! CoV: running the data functions. -/
namespace CO
open PySem PySem.Spec PyProof.Rows L2

theorem bind_ok {α β : Type} (a : α) (e : En) (f : α → En → R β) : (R.ok a e).bind f = f a e := rfl
theorem bind_ex {α β : Type} (c : Nat) (e : En) (f : α → En → R β) : (R.ex c e : R α).bind f = .ex c e := rfl
theorem bind_st {α β : Type} (f : α → En → R β) : (R.st : R α).bind f = .st := rfl
theorem bind_eq {α β : Type} {x : R α} {a : α} {e : En} {f : α → En → R β} (h : x = .ok a e) : x.bind f = f a e := by rw [h]; rfl
theorem get_mk (l : List Ent) (wd : List Ob) (i : Nat) : En.get ⟨l, wd⟩ i = l.getD i .no := rfl
theorem set_mk (l : List Ent) (wd : List Ob) (i : Nat) (e : Ent) : En.set ⟨l, wd⟩ i e = ⟨l.set i e, wd⟩ := rfl

/-! ### a def's run -/
/-- m gives r and leaves the world wd' -/
def Run (m : List Ent → List Ob → R Ent) (es : List Ent) (wd : List Ob) (r : Ent) (wd' : List Ob) : Prop := ∃ sl, m es wd = .ok r ⟨sl, wd'⟩
def RunX (m : List Ent → List Ob → R Ent) (es : List Ent) (wd : List Ob) (c : Nat) (wd' : List Ob) : Prop := ∃ sl, m es wd = .ex c ⟨sl, wd'⟩
theorem Run.ret {nN : Nat} {f : En → R Fl} {es : List Ent} {wd wd' : List Ob} {r : Ent} {sl : List Ent} (h : f ⟨es ++ List.replicate (nN - es.length) .no, wd⟩ = .ok (.rt r) ⟨sl, wd'⟩) : Run (finM nN f) es wd r wd' := ⟨sl, by unfold finM; rw [h]; rfl⟩
theorem Run.none {nN : Nat} {f : En → R Fl} {es : List Ent} {wd wd' : List Ob} {sl : List Ent} (h : f ⟨es ++ List.replicate (nN - es.length) .no, wd⟩ = .ok .nx ⟨sl, wd'⟩) : Run (finM nN f) es wd (.sh .none) wd' := ⟨sl, by unfold finM; rw [h]; rfl⟩
theorem RunX.of {nN : Nat} {f : En → R Fl} {es : List Ent} {wd wd' : List Ob} {c : Nat} {sl : List Ent} (h : f ⟨es ++ List.replicate (nN - es.length) .no, wd⟩ = .ex c ⟨sl, wd'⟩) : RunX (finM nN f) es wd c wd' := ⟨sl, by unfold finM; rw [h]; rfl⟩
theorem call_run {n : Nat} {m : List Ent → List Ob → R Ent} {ms : En → R (List Ent)} {en : En} {es : List Ent} {sl : List Ent} {wd wd' : List Ob} {r : Ent} (ha : ms en = .ok es ⟨sl, wd⟩) (hl : es.length = n) (h : Run m es wd r wd') : eCallF n m ms en = .ok r ⟨sl, wd'⟩ := by
  obtain ⟨sl', h⟩ := h
  unfold eCallF
  rw [ha, bind_ok, if_pos hl]
  show (match m es wd with | .ok r e' => R.ok r { sl := sl, wd := e'.wd } | .ex c e' => .ex c { sl := sl, wd := e'.wd } | .st => .st) = _
  rw [h]
theorem call_runX {n : Nat} {m : List Ent → List Ob → R Ent} {ms : En → R (List Ent)} {en : En} {es : List Ent} {sl : List Ent} {wd wd' : List Ob} {c : Nat} (ha : ms en = .ok es ⟨sl, wd⟩) (hl : es.length = n) (h : RunX m es wd c wd') : eCallF n m ms en = .ex c ⟨sl, wd'⟩ := by
  obtain ⟨sl', h⟩ := h
  unfold eCallF
  rw [ha, bind_ok, if_pos hl]
  show (match m es wd with | .ok r e' => R.ok r { sl := sl, wd := e'.wd } | .ex c e' => .ex c { sl := sl, wd := e'.wd } | .st => .st) = _
  rw [h]

/-! ### loops -/
def stepS (g : Ent → En → R Unit) (b : En → R Fl) (d : D) (e : En) : R Fl := (g (.sh d) e).bind fun _ e1 => b e1
theorem for_run {S : Type} {g : Ent → En → R Unit} {b : En → R Fl} (E : S → En → Prop) (step : S → D → S) : ∀ (ds : List D) (s : S) (e : En), E s e → (∀ d ∈ ds, ∀ s e, E s e → ∃ e', stepS g b d e = .ok .nx e' ∧ E (step s d) e') → ∃ e', forGo g b ds e = .ok .nx e' ∧ E (ds.foldl step s) e'
  | [], s, e, h, _ => ⟨e, rfl, h⟩
  | d :: ds, s, e, h, k => by
    obtain ⟨e1, h1, h2⟩ := k d List.mem_cons_self s e h
    obtain ⟨e2, h3, h4⟩ := for_run E step ds _ e1 h2 fun d m => k d (List.mem_cons_of_mem _ m)
    refine ⟨e2, ?_, h4⟩
    unfold forGo
    unfold stepS at h1
    cases hg : g (.sh d) e with
    | ok u e3 => rw [hg, bind_ok] at h1; rw [bind_ok, h1, bind_ok]; exact h3
    | ex c e3 => rw [hg] at h1; cases h1
    | st => rw [hg] at h1; cases h1
/-- one turn of a comprehension -/
def itemG (g : Ent → En → R Unit) (t : En → R Bool) (m : En → R Ent) (vs : List Nat) (d : D) (e : En) : R (Option D) := (noEx (g (.sh d) (wipeE e vs))).bind fun _ e1 => (noEx (t e1)).bind fun b e2 =>
      if b = true then (noEx (dv m e2)).bind fun x e3 => .ok (some x) e3 else .ok none e2
theorem comp_step {g : Ent → En → R Unit} {t : En → R Bool} {m : En → R Ent} {vs : List Nat} {d : D} {ds : List D} {e e' : En} {acc : List D} {o : Option D} (hl : acc.length < lim) (h : itemG g t m vs d e = .ok o e') :
    compGo g t m vs (d :: ds) e acc = compGo g t m vs ds e' (acc ++ o.toList) := by
  conv => lhs; unfold compGo
  rw [if_pos hl]
  unfold itemG at h
  cases h1 : noEx (g (.sh d) (wipeE e vs)) with
  | ok u e1 =>
    rw [h1, bind_ok] at h
    rw [bind_ok]
    cases h2 : noEx (t e1) with
    | ok b e2 =>
      rw [h2, bind_ok] at h
      rw [bind_ok]
      cases b with
      | false =>
        rw [if_neg (by decide)] at h ⊢
        cases h
        rw [Option.toList_none, List.append_nil]
      | true =>
        rw [if_pos rfl] at h ⊢
        cases h3 : noEx (dv m e2) with
        | ok x e3 =>
          rw [h3, bind_ok] at h
          rw [bind_ok]
          cases h
          rfl
        | ex c e3 => rw [h3] at h; cases h
        | st => rw [h3] at h; cases h
    | ex c e2 => rw [h2] at h; cases h
    | st => rw [h2] at h; cases h
  | ex c e1 => rw [h1] at h; cases h
  | st => rw [h1] at h; cases h
theorem comp_pure {g : Ent → En → R Unit} {t : En → R Bool} {m : En → R Ent} {vs : List Nat} (E : En → Prop) (F : D → Option D) : ∀ (ds : List D) (e : En) (acc : List D), E e → acc.length + ds.length ≤ lim → (∀ d ∈ ds, ∀ e, E e → ∃ e', itemG g t m vs d e = .ok (F d) e' ∧ E e') →
    ∃ e', compGo g t m vs ds e acc = .ok (acc ++ ds.filterMap F) e' ∧ E e'
  | [], e, acc, h, _, _ => ⟨e, by simp [compGo], h⟩
  | d :: ds, e, acc, h, hl, k => by
    have hl' : acc.length + (ds.length + 1) ≤ lim := hl
    obtain ⟨e1, h1, h2⟩ := k d List.mem_cons_self e h
    have ho : (F d).toList.length ≤ 1 := by cases F d <;> simp
    obtain ⟨e2, h3, h4⟩ := comp_pure E F ds e1 (acc ++ (F d).toList) h2 (by rw [List.length_append]; omega) fun d m => k d (List.mem_cons_of_mem _ m)
    refine ⟨e2, ?_, h4⟩
    rw [comp_step (by omega) h1, h3]
    congr 1
    cases hF : F d with
    | none => simp [List.filterMap_cons, hF]
    | some x => simp [List.filterMap_cons, hF]
/-- each item something, the state going on -/
theorem comp_some {S : Type} {g : Ent → En → R Unit} {t : En → R Bool} {m : En → R Ent} {vs : List Nat} (E : Nat → En → Prop) (Pd : D → Prop) : ∀ (ds : List D) (k : Nat) (e : En) (acc : List D), E k e → acc.length + ds.length ≤ lim → (∀ d ∈ acc, Pd d) → (∀ d ∈ ds, ∀ j e, k ≤ j → j < k + ds.length → E j e → ∃ x e', itemG g t m vs d e = .ok (some x) e' ∧ Pd x ∧ E (j + 1) e') →
    ∃ xs e', compGo g t m vs ds e acc = .ok xs e' ∧ xs.length = acc.length + ds.length ∧ (∀ d ∈ xs, Pd d) ∧ E (k + ds.length) e'
  | [], k, e, acc, h, _, ha, _ => ⟨acc, e, rfl, rfl, ha, h⟩
  | d :: ds, k, e, acc, h, hl, ha, st => by
    have hl' : acc.length + (ds.length + 1) ≤ lim := hl
    obtain ⟨x, e1, h1, hx, h2⟩ := st d List.mem_cons_self k e (Nat.le_refl _) (by simp) h
    obtain ⟨xs, e2, h3, h4, h5, h6⟩ := comp_some (S := S) E Pd ds (k + 1) e1 (acc ++ [x]) h2 (by rw [List.length_append]; simp; omega) (by
      intro d hd
      rcases List.mem_append.mp hd with q | q
      · exact ha d q
      · rw [List.mem_singleton.mp q]; exact hx) fun d m j e a b => st d (List.mem_cons_of_mem _ m) j e (by omega) (by simp; omega)
    refine ⟨xs, e2, ?_, ?_, h5, ?_⟩
    · rw [comp_step (by omega) h1]
      exact h3
    · rw [h4, List.length_append]; simp; omega
    · rw [show k + (d :: ds).length = k + 1 + ds.length by simp; omega]; exact h6
theorem lc_run {mi : En → R (List D)} {g : Ent → En → R Unit} {t : En → R Bool} {m : En → R Ent} {vs : List Nat} {en e e' : En} {ds xs : List D} (h : mi en = .ok ds e) (hc : compGo g t m vs ds e [] = .ok xs e') : eLc mi g t m vs en = .ok (.ow xs) (restE (wipeE e' vs) e vs) := by
  unfold eLc
  rw [h, bind_ok, hc, bind_ok]
theorem noEx_ok {α : Type} (a : α) (e : En) : noEx (R.ok a e) = .ok a e := rfl
theorem isT_int_none : isT "int" (.none) = false := rfl
theorem isT_int_bool (b : Bool) : isT "int" (.bool b) = true := rfl
theorem isT_int_int (i : Int) : isT "int" (.int i) = true := rfl
theorem isT_int_str (s : Str) : isT "int" (.str s) = false := rfl
theorem isT_int_list (l : List D) : isT "int" (.list l) = false := rfl
theorem isT_int_tuple (l : List D) : isT "int" (.tuple l) = false := rfl
theorem isT_bool_none : isT "bool" (.none) = false := rfl
theorem isT_bool_bool (b : Bool) : isT "bool" (.bool b) = true := rfl
theorem isT_bool_int (i : Int) : isT "bool" (.int i) = false := rfl
theorem isT_bool_str (s : Str) : isT "bool" (.str s) = false := rfl
theorem isT_bool_list (l : List D) : isT "bool" (.list l) = false := rfl
theorem isT_bool_tuple (l : List D) : isT "bool" (.tuple l) = false := rfl
theorem isT_str_none : isT "str" (.none) = false := rfl
theorem isT_str_bool (b : Bool) : isT "str" (.bool b) = false := rfl
theorem isT_str_int (i : Int) : isT "str" (.int i) = false := rfl
theorem isT_str_str (s : Str) : isT "str" (.str s) = true := rfl
theorem isT_str_list (l : List D) : isT "str" (.list l) = false := rfl
theorem isT_str_tuple (l : List D) : isT "str" (.tuple l) = false := rfl
theorem isT_tuple_none : isT "tuple" (.none) = false := rfl
theorem isT_tuple_bool (b : Bool) : isT "tuple" (.bool b) = false := rfl
theorem isT_tuple_int (i : Int) : isT "tuple" (.int i) = false := rfl
theorem isT_tuple_str (s : Str) : isT "tuple" (.str s) = false := rfl
theorem isT_tuple_list (l : List D) : isT "tuple" (.list l) = false := rfl
theorem isT_tuple_tuple (l : List D) : isT "tuple" (.tuple l) = true := rfl
theorem isT_list_none : isT "list" (.none) = false := rfl
theorem isT_list_bool (b : Bool) : isT "list" (.bool b) = false := rfl
theorem isT_list_int (i : Int) : isT "list" (.int i) = false := rfl
theorem isT_list_str (s : Str) : isT "list" (.str s) = false := rfl
theorem isT_list_list (l : List D) : isT "list" (.list l) = true := rfl
theorem isT_list_tuple (l : List D) : isT "list" (.tuple l) = false := rfl
theorem lenL_0 {α : Type}  : (([] : List α).length ≤ lim) = True := eq_true (by show 0 ≤ lim; decide)
theorem lenL_1 {α : Type} (a0 : α) : (([a0] : List α).length ≤ lim) = True := eq_true (by show 1 ≤ lim; decide)
theorem lenL_2 {α : Type} (a0 a1 : α) : (([a0, a1] : List α).length ≤ lim) = True := eq_true (by show 2 ≤ lim; decide)
theorem lenL_3 {α : Type} (a0 a1 a2 : α) : (([a0, a1, a2] : List α).length ≤ lim) = True := eq_true (by show 3 ≤ lim; decide)
theorem lenL_4 {α : Type} (a0 a1 a2 a3 : α) : (([a0, a1, a2, a3] : List α).length ≤ lim) = True := eq_true (by show 4 ≤ lim; decide)
theorem lenL_5 {α : Type} (a0 a1 a2 a3 a4 : α) : (([a0, a1, a2, a3, a4] : List α).length ≤ lim) = True := eq_true (by show 5 ≤ lim; decide)
theorem lenL_6 {α : Type} (a0 a1 a2 a3 a4 a5 : α) : (([a0, a1, a2, a3, a4, a5] : List α).length ≤ lim) = True := eq_true (by show 6 ≤ lim; decide)
theorem lenL_7 {α : Type} (a0 a1 a2 a3 a4 a5 a6 : α) : (([a0, a1, a2, a3, a4, a5, a6] : List α).length ≤ lim) = True := eq_true (by show 7 ≤ lim; decide)
theorem lenL_8 {α : Type} (a0 a1 a2 a3 a4 a5 a6 a7 : α) : (([a0, a1, a2, a3, a4, a5, a6, a7] : List α).length ≤ lim) = True := eq_true (by show 8 ≤ lim; decide)
theorem lenL_9 {α : Type} (a0 a1 a2 a3 a4 a5 a6 a7 a8 : α) : (([a0, a1, a2, a3, a4, a5, a6, a7, a8] : List α).length ≤ lim) = True := eq_true (by show 9 ≤ lim; decide)
theorem lenL_10 {α : Type} (a0 a1 a2 a3 a4 a5 a6 a7 a8 a9 : α) : (([a0, a1, a2, a3, a4, a5, a6, a7, a8, a9] : List α).length ≤ lim) = True := eq_true (by show 10 ≤ lim; decide)
theorem lenL_11 {α : Type} (a0 a1 a2 a3 a4 a5 a6 a7 a8 a9 a10 : α) : (([a0, a1, a2, a3, a4, a5, a6, a7, a8, a9, a10] : List α).length ≤ lim) = True := eq_true (by show 11 ≤ lim; decide)
theorem lenL_12 {α : Type} (a0 a1 a2 a3 a4 a5 a6 a7 a8 a9 a10 a11 : α) : (([a0, a1, a2, a3, a4, a5, a6, a7, a8, a9, a10, a11] : List α).length ≤ lim) = True := eq_true (by show 12 ≤ lim; decide)
end CO

namespace CO
open PySem PySem.Spec PyProof.Rows L2
def cs : List Nat := [9]
def f_is_integer : En → R Fl :=
  sRet (eAnd (eIsi "int" (eN 0)) (eAnd (eNot (eIsi "bool" (eN 0))) (eChain gLe gLe (eN 1) (eN 0) (eN 2))))
def m_is_integer := finM 3 f_is_integer
def f_is_shape : En → R Fl :=
  sSeq (sIf (tOrM (tNotM (tst (eIsi "str" (eN 0)))) (tOrM (tNotM (tst (eChain gLe gLe (eC (.int 1)) (eLenN 0) (eC (.int 8))))) (tNotM (tst (eCall gAll (aCons (eLc (iAll (eN 0)) (gN 1) (tYesM) (eBin gIn (eN 1) (eC (.str (PySem.Str.ofString "x.")))) [1]) (aNil))))))) (sRet (eC (.bool false))) (sPass)) (sRet (eAnd (eBin gEq (eIxN 0 (eC (.int 0))) (eC (.str (PySem.Str.ofString "x")))) (eBin gEq (eIxN 0 (eNeg (eC (.int 1)))) (eC (.str (PySem.Str.ofString "x"))))))
def m_is_shape := finM 2 f_is_shape
def f_is_game : En → R Fl :=
  sSeq (sIf (tOrM (tNotM (tst (eIsi "tuple" (eN 0)))) (tst (eBin gNe (eLenN 0) (eC (.int 3))))) (sRet (eC (.bool false))) (sPass)) (sSeq (sAsg (gT [1, 2, 3]) (eN 0)) (sSeq (sIf (tOrM (tNotM (tst (eCallF 3 m_is_integer (aCons (eN 1) (aCons (eC (.int 1)) (aCons (eC (.int 8)) (aNil))))))) (tNotM (tst (eIsi "bool" (eN 3))))) (sRet (eC (.bool false))) (sPass)) (sSeq (sIf (tOrM (tNotM (tst (eIsi "tuple" (eN 2)))) (tOrM (tNotM (tst (eChain gLe gLe (eC (.int 1)) (eLenN 2) (eC (.int 3))))) (tNotM (tst (eCall gAll (aCons (eLc (iAll (eN 2)) (gN 4) (tYesM) (eCallF 1 m_is_shape (aCons (eN 4) (aNil))) [4]) (aNil))))))) (sRet (eC (.bool false))) (sPass)) (sRet (eAnd (eBin gLe (eCall gMax (aCons (eLc (iAll (eN 2)) (gN 4) (tYesM) (eLenN 4) [4]) (aNil))) (eN 1)) (eCall gAll (aCons (eLc (iZp (eN 2) (eSl (eN 2) (pSo (eC (.int 1))) (pNo))) (gT [4, 5]) (tYesM) (eBin gLt (eN 4) (eN 5)) [4, 5]) (aNil))))))))
def m_is_game := finM 6 f_is_game
def f_check_game : En → R Fl :=
  sIf (tNotM (tst (eCallF 1 m_is_game (aCons (eN 0) (aNil))))) (sEx_ 0) (sPass)
def m_check_game := finM 1 f_check_game
def f_text_of : En → R Fl :=
  sRet (eMt "str" gJoin (eC (.str (PySem.Str.ofString " "))) (aCons (eBin gAdd (eLst (aCons (eCall gStr (aCons (eIxN 0 (eC (.int 0))) (aNil))) (aCons (eIf (tst (eIxN 0 (eC (.int 2)))) (eC (.str (PySem.Str.ofString "ring"))) (eC (.str (PySem.Str.ofString "row")))) (aNil)))) (eCall gList (aCons (eIxN 0 (eC (.int 1))) (aNil)))) (aNil)))
def m_text_of := finM 1 f_text_of
def f_format_game : En → R Fl :=
  sSeq (sEx (eCallF 1 m_check_game (aCons (eN 0) (aNil)))) (sRet (eCallF 1 m_text_of (aCons (eN 0) (aNil))))
def m_format_game := finM 1 f_format_game
def f_parse_game : En → R Fl :=
  sSeq (sIf (tNotM (tst (eIsi "str" (eN 0)))) (sEx_ 9) (sPass)) (sSeq (sSet 1 (eMt "str" gSplit (eN 0) (aCons (eC (.str (PySem.Str.ofString " "))) (aNil)))) (sSeq (sIf (tOrM (tst (eBin gLt (eLenN 1) (eC (.int 3)))) (tOrM (tst (eBin gNe (eCall gLen (aCons (eIxN 1 (eC (.int 0))) (aNil))) (eC (.int 1)))) (tOrM (tst (eBin gNotIn (eIxN 1 (eC (.int 0))) (eC (.str (PySem.Str.ofString "12345678"))))) (tst (eBin gNotIn (eIxN 1 (eC (.int 1))) (eTup (aCons (eC (.str (PySem.Str.ofString "ring"))) (aCons (eC (.str (PySem.Str.ofString "row"))) (aNil))))))))) (sEx_ 9) (sPass)) (sSeq (sSet 2 (eTup (aCons (eCall gInt (aCons (eIxN 1 (eC (.int 0))) (aNil))) (aCons (eCall gTuple (aCons (eSl (eN 1) (pSo (eC (.int 2))) (pNo)) (aNil))) (aCons (eBin gEq (eIxN 1 (eC (.int 1))) (eC (.str (PySem.Str.ofString "ring")))) (aNil)))))) (sSeq (sIf (tNotM (tst (eCallF 1 m_is_game (aCons (eN 2) (aNil))))) (sEx_ 9) (sPass)) (sRet (eMv 2))))))
def m_parse_game := finM 3 f_parse_game
def f__law_cell_at : En → R Fl :=
  sSeq (sIf (tst (eBin gLt (eN 1) (eLenSc 0))) (sRet (eIxSc 0 (eN 1))) (sPass)) (sSeq (sIf (tst (eScNil 0)) (sRet (eC (.int 0))) (sPass)) (sSeq (sSet 2 (eIxSc 0 (eBin gMod (eN 1) (eLenSc 0)))) (sSeq (sFor (iR1 (eCall gMin (aCons (eBin gDiv (eN 1) (eLenSc 0)) (aCons (eC (.int 60)) (aNil))))) (gN 3) (sSet 2 (eBin gDiv (eN 2) (eC (.int 1000003))))) (sRet (eBin gAdd (eBin gAdd (eBin gMul (eIxSc 0 (eBin gMod (eN 1) (eLenSc 0))) (eC (.int 31))) (eN 1)) (eBin gMul (eN 2) (eC (.int 101))))))))
def m__law_cell_at := finM 4 f__law_cell_at
def f__law_mixed : En → R Fl :=
  sSeq (sSet 3 (eBin gMod (eBin gAdd (eBin gAdd (eBin gMul (eCallF 2 m__law_cell_at (aCons (eN 0) (aCons (eN 1) (aNil)))) (eC (.int 1103515245))) (eBin gMul (eC (.int 7919)) (eN 1))) (eC (.int 12345))) (eC (.int 2147483647)))) (sRet (eBin gMod (eBin gMod (eBin gMod (eBin gPow (eN 3) (eC (.int 5))) (eC (.int 2147483647))) (eC (.int 999983))) (eN 2)))
def m__law_mixed := finM 4 f__law_mixed
def f__law_draw : En → R Fl :=
  sSeq (sEx (eAppTn 1)) (sRet (eCallF 3 m__law_mixed (aCons (eN 0) (aCons (eLenN 1) (aCons (eN 2) (aNil))))))
def m__law_draw := finM 3 f__law_draw
def f__law_pick : En → R Fl :=
  sRet (eIxN 2 (eCallF 3 m__law_draw (aCons (eN 0) (aCons (eN 1) (aCons (eLenN 2) (aNil))))))
def m__law_pick := finM 3 f__law_pick
def f__law_some_shape : En → R Fl :=
  sSeq (sSet 3 (eBin gAdd (eC (.int 1)) (eCallF 3 m__law_draw (aCons (eN 0) (aCons (eN 1) (aCons (eN 2) (aNil))))))) (sSeq (sIf (tst (eBin gEq (eN 3) (eC (.int 1)))) (sRet (eC (.str (PySem.Str.ofString "x")))) (sPass)) (sRet (eBin gAdd (eBin gAdd (eC (.str (PySem.Str.ofString "x"))) (eMt "str" gJoin (eC (.str (PySem.Str.ofString ""))) (aCons (eLc (iR1 (eBin gSub (eN 3) (eC (.int 2)))) (gN 4) (tYesM) (eCallF 3 m__law_pick (aCons (eN 0) (aCons (eN 1) (aCons (eLst (aCons (eC (.str (PySem.Str.ofString "."))) (aCons (eC (.str (PySem.Str.ofString "x"))) (aNil)))) (aNil))))) [4]) (aNil)))) (eC (.str (PySem.Str.ofString "x"))))))
def m__law_some_shape := finM 5 f__law_some_shape
def f__law_some_game : En → R Fl :=
  sSeq (sSet 3 (eBin gAdd (eC (.int 1)) (eCallF 3 m__law_draw (aCons (eN 0) (aCons (eN 1) (aCons (eN 2) (aNil))))))) (sSeq (sSet 4 (eSortSet (eLc (iR1 (eBin gAdd (eC (.int 1)) (eCallF 3 m__law_draw (aCons (eN 0) (aCons (eN 1) (aCons (eC (.int 3)) (aNil))))))) (gN 5) (tYesM) (eCallF 3 m__law_some_shape (aCons (eN 0) (aCons (eN 1) (aCons (eN 3) (aNil))))) [5]))) (sRet (eTup (aCons (eN 3) (aCons (eCall gTuple (aCons (eN 4) (aNil))) (aCons (eBin gEq (eCallF 3 m__law_draw (aCons (eN 0) (aCons (eN 1) (aCons (eC (.int 2)) (aNil))))) (eC (.int 0))) (aNil)))))))
def m__law_some_game := finM 6 f__law_some_game
def f__law_read : En → R Fl :=
  sTry 1 cs (sRet (eCallF 1 m_parse_game (aCons (eN 0) (aNil))))
def m__law_read := finM 2 f__law_read
def f_law : En → R Fl :=
  sSeq (sTown 1) (sSeq (sSet 2 (eCallF 3 m__law_some_game (aCons (eN 0) (aCons (eN 1) (aCons (eC (.int 8)) (aNil)))))) (sSeq (sSet 3 (eBin gAdd (eCall gStr (aCons (eIxN 2 (eC (.int 0))) (aNil))) (eIf (tst (eIxN 2 (eC (.int 2)))) (eC (.str (PySem.Str.ofString " ring"))) (eC (.str (PySem.Str.ofString " row")))))) (sSeq (sFor (iAll (eIxN 2 (eC (.int 1)))) (gN 4) (sSet 3 (eBin gAdd (eBin gAdd (eN 3) (eC (.str (PySem.Str.ofString " ")))) (eN 4)))) (sSeq (sIf (tOrM (tst (eBin gNe (eCallF 1 m_format_game (aCons (eN 2) (aNil))) (eN 3))) (tst (eBin gNe (eCallF 1 m__law_read (aCons (eN 3) (aNil))) (eN 2)))) (sRet (eC (.bool false))) (sPass)) (sSeq (sSet 5 (eLst (aCons (eC .none) (aCons (eC (.int 5)) (aCons (eC (.str (PySem.Str.ofString ""))) (aCons (eBin gAdd (eN 3) (eC (.str (PySem.Str.ofString " ")))) (aCons (eBin gAdd (eC (.str (PySem.Str.ofString " "))) (eN 3)) (aCons (eBin gAdd (eN 3) (eC (.str (PySem.Str.ofString " y")))) (aCons (eRepl (eN 3) (PySem.Str.ofString "r") (PySem.Str.ofString "R")) (aCons (eBin gAdd (eC (.str (PySem.Str.ofString "0"))) (eN 3)) (aCons (eC (.str (PySem.Str.ofString "3"))) (aCons (eC (.str (PySem.Str.ofString "3 row"))) (aNil))))))))))))) (sSeq (sEx (eExt 5 (eLst (aCons (eC (.str (PySem.Str.ofString "3 row  x"))) (aCons (eC (.str (PySem.Str.ofString "0 row x"))) (aCons (eC (.str (PySem.Str.ofString "9 row x"))) (aCons (eC (.str (PySem.Str.ofString "3 line x"))) (aCons (eC (.str (PySem.Str.ofString "3 row xx x"))) (aCons (eC (.str (PySem.Str.ofString "3 row x x"))) (aCons (eC (.str (PySem.Str.ofString "2 row xxx"))) (aNil))))))))))) (sSeq (sEx (eExt 5 (eLst (aCons (eC (.str (PySem.Str.ofString "3 row x."))) (aCons (eC (.str (PySem.Str.ofString "3 row .x"))) (aCons (eC (.str (PySem.Str.ofString "3 x row"))) (aCons (eC (.str (PySem.Str.ofString "3 row x xx xxx x.x"))) (aCons (eC (.str (PySem.Str.ofString "-3 row x"))) (aCons (eC (.str (PySem.Str.ofString "3.0 row x"))) (aCons (eC (.str (PySem.Str.ofString "3 ring"))) (aCons (eC (.str (PySem.Str.ofString "3 rowx"))) (aNil)))))))))))) (sSeq (sIf (tst (eBin gNe (eLc (iAll (eN 5)) (gN 6) (tYesM) (eCallF 1 m__law_read (aCons (eN 6) (aNil))) [6]) (eBin gMul (eLst (aCons (eTup (aCons (eC (.str (PySem.Str.ofString "raised"))) (aCons (eC (.int 9)) (aNil)))) (aNil))) (eLenN 5)))) (sRet (eC (.bool false))) (sPass)) (sRet (eBin gEq (eCallF 1 m__law_read (aCons (eC (.str (PySem.Str.ofString "8 ring x......x"))) (aNil))) (eTup (aCons (eC (.int 8)) (aCons (eTup (aCons (eC (.str (PySem.Str.ofString "x......x"))) (aNil))) (aCons (eC (.bool true)) (aNil)))))))))))))))
def m_law := finM 7 f_law
def top (i : Nat) : Stmt := PySem.Challenge.pw_coinshapes_k08_whole_formatting.main.body.getD i (.Pass ⟨0, 0, 0, 0⟩)
abbrev s_is_integer : Stmt := top 14
abbrev s_is_shape : Stmt := top 15
abbrev s_is_game : Stmt := top 16
abbrev s_check_game : Stmt := top 17
abbrev s_text_of : Stmt := top 19
abbrev s_format_game : Stmt := top 20
abbrev s_parse_game : Stmt := top 21
abbrev s__law_cell_at : Stmt := top 23
abbrev s__law_mixed : Stmt := top 24
abbrev s__law_draw : Stmt := top 25
abbrev s__law_pick : Stmt := top 26
abbrev s__law_some_shape : Stmt := top 27
abbrev s__law_some_game : Stmt := top 28
abbrev s__law_read : Stmt := top 30
abbrev s_law : Stmt := top 31
abbrev s__law_which : Stmt := top 29
structure Tx (K : PySem.W.Frag) (mg : Str → Option Value) (κ : Kx) : Prop where
  hK : κ.K = K
  b_all : mg "all" = none
  b_bool : mg "bool" = none
  b_int : mg "int" = none
  b_isinstance : mg "isinstance" = none
  b_len : mg "len" = none
  b_list : mg "list" = none
  b_max : mg "max" = none
  b_min : mg "min" = none
  b_range : mg "range" = none
  b_set : mg "set" = none
  b_sorted : mg "sorted" = none
  b_str : mg "str" = none
  b_tuple : mg "tuple" = none
  b_zip : mg "zip" = none
  c_MOST : ∃ t, mg "MOST" = some (.int 8 t)
  x_InvalidGame : ExnOk K mg κ 0 "InvalidGame"
  x_ParseError : ExnOk K mg κ 9 "ParseError"
  nCE : ∃ ce, mg "CoinError" = some (.ref ce) ∧ ∀ c, cs.contains c = true → PySem.W.exmOne K (.ref (κ.ec c)) (.ref ce) = some true
  whF : ∀ c, cs.contains c = true → WhichF K mg κ c
  f__law_which : ∃ f fd, Fun K "_law_which" "_law_which" s__law_which f fd ∧ mg "_law_which" = some (.ref f) ∧ Binds K fd ["_law_e"] []
  f_is_integer : FunOk K mg "is_integer" s_is_integer ["value", "low", "high"]
  f_is_shape : FunOk K mg "is_shape" s_is_shape ["value"]
  f_is_game : FunOk K mg "is_game" s_is_game ["value"]
  f_check_game : FunOk K mg "check_game" s_check_game ["game"]
  f_text_of : FunOk K mg "text_of" s_text_of ["game"]
  f_format_game : FunOk K mg "format_game" s_format_game ["game"]
  f_parse_game : FunOk K mg "parse_game" s_parse_game ["text"]
  f__law_cell_at : FunOk K mg "_law_cell_at" s__law_cell_at ["_law_script", "_law_k"]
  f__law_mixed : FunOk K mg "_law_mixed" s__law_mixed ["_law_script", "_law_k", "_law_many"]
  f__law_draw : FunOk K mg "_law_draw" s__law_draw ["_law_script", "_law_town", "_law_many"]
  f__law_pick : FunOk K mg "_law_pick" s__law_pick ["_law_script", "_law_town", "_law_some"]
  f__law_some_shape : FunOk K mg "_law_some_shape" s__law_some_shape ["_law_script", "_law_town", "_law_most"]
  f__law_some_game : FunOk K mg "_law_some_game" s__law_some_game ["_law_script", "_law_town", "_law_most"]
  f__law_read : FunOk K mg "_law_read" s__law_read ["_law_text"]
theorem Tx.hEM {K : PySem.W.Frag} {mg : Str → Option Value} {κ : Kx} (hT : Tx K mg κ) : True := trivial
section
variable {P : Program} {w : World} {K : PySem.W.Frag} {mg : Str → Option Value} {base : Heap} {κ : Kx}
theorem b__law_which {c : Nat} {a : Addr} {oe : Obj} {f : Addr} {cdv : Value} {A : Around} {outer : List Env} {s : Shared} {H : Hp} {E : XK} (hr : L2H.RoomH 0 (A.deeper (envOfC "_law_which" (defScope s__law_which) s.heap.objs.size f cdv))) (hF : WhichF K mg κ c) (hz : Zc (.ref (κ.ec c)) none oe) (hf : ∃ vs, oe.data = .fields vs) :
    PSs (L2H.cxH (L2.CX P w) P w K mg base ["_law_e", "_law_own"] "_law_which" (defScope s__law_which) f cdv A outer s H E (a, oe)) (defBody s__law_which) (tWhich K κ (κ.ec c) a) := by
  have nd : (["_law_e", "_law_own"] : List Str).Nodup := by decide +kernel
  have hu : (A.deeper (envOfC "_law_which" (defScope s__law_which) s.heap.objs.size f cdv)).units + 65 < cLine := by have := hr.un; omega
  have h : PSs (L2H.cxH (L2.CX P w) P w K mg base ["_law_e", "_law_own"] "_law_which" (defScope s__law_which) f cdv A outer s H E (a, oe)) (defBody s__law_which) _ := pss_cons (ps_set (i := 1) nd rfl (Or.inl rfl) (pe_lst (pa_cons (pe_callB (call_isP hF.cls hz hf List.mem_cons_self) (by rfl) hF.isi (by decide +kernel) (pa_cons (pv 0) (pa_cons (pe_glob (v := .ref (κ.ec 0)) (by rfl) hF.g0 rfl) pa_nil)) (by decide) (by decide)) (pa_cons (pe_callB (call_isP hF.cls hz hf List.mem_cons_self) (by rfl) hF.isi (by decide +kernel) (pa_cons (pv 0) (pa_cons (pe_glob (v := .ref (κ.ec 1)) (by rfl) hF.g1 rfl) pa_nil)) (by decide) (by decide)) (pa_cons (pe_callB (call_isP hF.cls hz hf List.mem_cons_self) (by rfl) hF.isi (by decide +kernel) (pa_cons (pv 0) (pa_cons (pe_glob (v := .ref (κ.ec 2)) (by rfl) hF.g2 rfl) pa_nil)) (by decide) (by decide)) pa_nil)))))
    (pss_cons (ps_expr (pe_bm PySem.F.plainAttrs_list PySem.F.slot_list_extend PySem.F.type_list_extend mt_extend (pv 1) (pa_cons (pe_lst (pa_cons (pe_callB (call_isP hF.cls hz hf List.mem_cons_self) (by rfl) hF.isi (by decide +kernel) (pa_cons (pv 0) (pa_cons (pe_glob (v := .ref (κ.ec 3)) (by rfl) hF.g3 rfl) pa_nil)) (by decide) (by decide)) (pa_cons (pe_callB (call_isP hF.cls hz hf List.mem_cons_self) (by rfl) hF.isi (by decide +kernel) (pa_cons (pv 0) (pa_cons (pe_glob (v := .ref (κ.ec 4)) (by rfl) hF.g4 rfl) pa_nil)) (by decide) (by decide)) (pa_cons (pe_callB (call_isP hF.cls hz hf List.mem_cons_self) (by rfl) hF.isi (by decide +kernel) (pa_cons (pv 0) (pa_cons (pe_glob (v := .ref (κ.ec 5)) (by rfl) hF.g5 rfl) pa_nil)) (by decide) (by decide)) pa_nil)))) pa_nil)))
    (pss_cons (ps_expr (pe_bm PySem.F.plainAttrs_list PySem.F.slot_list_extend PySem.F.type_list_extend mt_extend (pv 1) (pa_cons (pe_lst (pa_cons (pe_callB (call_isP hF.cls hz hf List.mem_cons_self) (by rfl) hF.isi (by decide +kernel) (pa_cons (pv 0) (pa_cons (pe_glob (v := .ref (κ.ec 6)) (by rfl) hF.g6 rfl) pa_nil)) (by decide) (by decide)) (pa_cons (pe_callB (call_isP hF.cls hz hf List.mem_cons_self) (by rfl) hF.isi (by decide +kernel) (pa_cons (pv 0) (pa_cons (pe_glob (v := .ref (κ.ec 7)) (by rfl) hF.g7 rfl) pa_nil)) (by decide) (by decide)) (pa_cons (pe_callB (call_isP hF.cls hz hf List.mem_cons_self) (by rfl) hF.isi (by decide +kernel) (pa_cons (pv 0) (pa_cons (pe_glob (v := .ref (κ.ec 8)) (by rfl) hF.g8 rfl) pa_nil)) (by decide) (by decide)) pa_nil)))) pa_nil)))
    (pss_cons (ps_expr (pe_bm PySem.F.plainAttrs_list PySem.F.slot_list_append PySem.F.type_list_append mt_append (pv 1) (pa_cons (pe_callB (call_isP hF.cls hz hf List.mem_cons_self) (by rfl) hF.isi (by decide +kernel) (pa_cons (pv 0) (pa_cons (pe_glob (v := .ref (κ.ec 9)) (by rfl) hF.g9 rfl) pa_nil)) (by decide) (by decide)) pa_nil)))
    (pss_cons (ps_if (pw_or (pt_cmpR op_ne (pe_bm PySem.F.plainAttrs_list PySem.F.slot_list_count PySem.F.type_list_count (mt_countD hu) (pv 1) (pa_cons pe_bl pa_nil)) pe_int (nomark _))
        (pw_or1 (pt_not (pt_val (pe_callB (call_isP hF.cls hz hf List.mem_cons_self) (by rfl) hF.isi (by decide +kernel) (pa_cons (pv 0) (pa_cons (pe_bltn (v := .ty "ValueError") (by rfl) hF.ve (by decide +kernel) rfl) pa_nil)) (by decide) (by decide)) (by intro _; rfl))))).pt
        (pss_one (ps_ret (pe_tup (pa_cons pe_str (pa_cons (pe_un un_neg pe_int) pa_nil))))) pss_nil)
    (pss_one (ps_ret (pe_tup (pa_cons pe_str (pa_cons (pe_bm PySem.F.plainAttrs_list PySem.F.slot_list_index PySem.F.type_list_index (mt_indexD hu) (pv 1) (pa_cons pe_bl pa_nil)) pa_nil)))))))))
  exact h
theorem d__law_which {X : Cx} {k i c : Nat} {a : Addr} {oe : Obj} {pn : List (Addr × Obj)} {x : Str} {py q pos : Pos} (hT : Tx X.K X.mg κ) (hr : Room k X.A) (hc : cs.contains c = true) (hz : Zc (.ref (κ.ec c)) none oe) (hf : ∃ vs, oe.data = .fields vs) (hk : 1 ≤ k) (hN : X.N[i]? = some x := by rfl)
    (hv : Vis X.env.scope x := by first | exact Or.inl rfl | exact Or.inr (Or.inl rfl) | exact Or.inr (Or.inr rfl)) (hd : (x == ("__debug__" : Str)) = false := by decide) (hcd : (x == ("__classdict__" : Str)) = false := by decide) (hg : Gl X "_law_which" := by rfl)
    (he : starEach (.Name x py :: []) X.env = (false, eval (.Name x py) X.env) :: starEach [] X.env := by rfl) (hpl : (backTo pos (starEach [] X.env)).any (·.1) = false := by rfl) : PE (X.suite a ((a, oe) :: pn)) (.Call (.Name "_law_which" q) [.Name x py] [] pos) (tAsk i a c) := by
  obtain ⟨f, fd, Ff, gx, hb⟩ := hT.f__law_which
  have hF := hT.whF c hc
  have FW : FnW X.prog X.w X.K X.mg X.base 1 f fd ["_law_e"] (a, oe) (spWhich a c) := fnW_of (N := ["_law_e", "_law_own"]) Ff ⟨rfl, rfl, rfl, by decide +kernel, rfl, by decide +kernel, by decide +kernel⟩ (fun vs H Q E h => by rw [h.1]; rfl)
    fun cdv A outer s H vs Q E hr2 h => ⟨_, b__law_which hr2 hF hz hf, pure_which hF vs H Q E h⟩
  exact de_ask (X := X.suite a ((a, oe) :: pn)) FW ⟨by have := hr.dp; show X.A.depth + _ < _; omega, by have := hr.un; show X.A.units + _ < _; omega⟩ List.mem_cons_self gx Ff.kp hb hN hv hd hcd hg (by decide) he hpl
theorem d_is_integer (hT : Tx K mg κ) : FnD P w K mg base κ "is_integer" 1 3 m_is_integer := by
  obtain ⟨f, fd, Ff, gx, hb⟩ := hT.f_is_integer
  have nd : (["value", "low", "high"] : List Str).Nodup := by decide +kernel
  refine fnD_of (N := ["value", "low", "high"]) (ps := ["value", "low", "high"]) Ff ⟨rfl, rfl, rfl, nd, rfl, by decide +kernel, by decide +kernel⟩ gx hb f_is_integer fun cdv A outer s H E hr => ?_
  have tkf : Takes (cxOf (L2.CX P w) P w K mg base ["value", "low", "high"] "is_integer" (defScope s_is_integer) f cdv A outer s H E) (fun cls d _ H => E cls d H) := takes_of rfl rfl rfl rfl
  exact dss_one (ds_ret (de_and (de_isi kitAll_int hT.b_isinstance hT.b_int (de_name 0)) (de_and (de_not (de_isi kitAll_bool hT.b_isinstance hT.b_bool (de_name 0))) (de_one (de_chain od_le od_le (de_name 1) (de_name 0) (de_name 2))))))
theorem d_is_shape (hT : Tx K mg κ) : FnD P w K mg base κ "is_shape" 1 1 m_is_shape := by
  obtain ⟨f, fd, Ff, gx, hb⟩ := hT.f_is_shape
  have nd : (["value", "sign"] : List Str).Nodup := by decide +kernel
  refine fnD_of (N := ["value", "sign"]) (ps := ["value"]) Ff ⟨rfl, rfl, rfl, nd, rfl, by decide +kernel, by decide +kernel⟩ gx hb f_is_shape fun cdv A outer s H E hr => ?_
  have tkf : Takes (cxOf (L2.CX P w) P w K mg base ["value", "sign"] "is_shape" (defScope s_is_shape) f cdv A outer s H E) (fun cls d _ H => E cls d H) := takes_of rfl rfl rfl rfl
  exact dss_cons (ds_if ((dw_or (dt_not (dt_val (de_isi kitAll_str hT.b_isinstance hT.b_str (de_name 0)))) (dw_or (dt_not (dt_chain od_le od_le (de_int) (de_lenN 0 hT.b_len) (de_globI hT.c_MOST.choose_spec))) (dw_or1 (dt_not (dt_val (de_callB (cd_all rfl) hT.b_all (da_cons (de_lc (own := [((PySem.Str.ofString "sign"), 1)]) rfl nd (di_seq hT.hK.symm (de_name 0)) (by rfl) (fun _ _ _ _ _ => dg_name 1 nd) (fun _ _ _ _ _ => dpts_nil) (fun _ _ _ _ _ => de_cmp (od_in (u65 hr)) (de_name 1) (de_str))) (da_nil)))))))).pt) (dss_one (ds_ret (de_bl))) (dss_nil)) (dss_one (ds_ret (de_and (de_cmp (od_eq (u64 hr)) (de_ixN 0 (de_int)) (de_str)) (de_one (de_cmp (od_eq (u64 hr)) (de_ixN 0 (de_neg (de_int))) (de_str))))))
theorem d_is_game (hT : Tx K mg κ) : FnD P w K mg base κ "is_game" 2 1 m_is_game := by
  obtain ⟨f, fd, Ff, gx, hb⟩ := hT.f_is_game
  have nd : (["value", "length", "shapes", "ring", "one", "other"] : List Str).Nodup := by decide +kernel
  refine fnD_of (N := ["value", "length", "shapes", "ring", "one", "other"]) (ps := ["value"]) Ff ⟨rfl, rfl, rfl, nd, rfl, by decide +kernel, by decide +kernel⟩ gx hb f_is_game fun cdv A outer s H E hr => ?_
  have tkf : Takes (cxOf (L2.CX P w) P w K mg base ["value", "length", "shapes", "ring", "one", "other"] "is_game" (defScope s_is_game) f cdv A outer s H E) (fun cls d _ H => E cls d H) := takes_of rfl rfl rfl rfl
  exact dss_cons (ds_if ((dw_or (dt_not (dt_val (de_isi kitAll_tuple hT.b_isinstance hT.b_tuple (de_name 0)))) (dw_or1 (dt_cmp (od_ne (u64 hr)) (de_lenN 0 hT.b_len) (de_int)))).pt) (dss_one (ds_ret (de_bl))) (dss_nil)) (dss_cons (ds_asg (de_name 0) (dg_tup rfl (dgs_name 1 nd (dgs_name 2 nd (dgs_name 3 nd (dgs_nil)))))) (dss_cons (ds_if ((dw_or (dt_not (dt_val (de_call (d_is_integer hT) (hr.mono (by decide)) tkf (da_cons (de_name 1) (da_cons (de_int) (da_cons (de_globI hT.c_MOST.choose_spec) (da_nil))))))) (dw_or1 (dt_not (dt_val (de_isi kitAll_bool hT.b_isinstance hT.b_bool (de_name 3)))))).pt) (dss_one (ds_ret (de_bl))) (dss_nil)) (dss_cons (ds_if ((dw_or (dt_not (dt_val (de_isi kitAll_tuple hT.b_isinstance hT.b_tuple (de_name 2)))) (dw_or (dt_not (dt_chain od_le od_le (de_int) (de_lenN 2 hT.b_len) (de_int))) (dw_or1 (dt_not (dt_val (de_callB (cd_all rfl) hT.b_all (da_cons (de_lc (own := [((PySem.Str.ofString "one"), 4)]) rfl nd (di_seq hT.hK.symm (de_name 2)) (by rfl) (fun _ _ _ _ _ => dg_name 4 nd) (fun _ _ _ _ _ => dpts_nil) (fun _ _ _ _ _ => de_call (d_is_shape hT) (hr.mono (by decide)) takes0 (da_cons (de_name 4) (da_nil)))) (da_nil)))))))).pt) (dss_one (ds_ret (de_bl))) (dss_nil)) (dss_one (ds_ret (de_and (de_cmp od_le (de_callB (cd_max rfl) hT.b_max (da_cons (de_lc (own := [((PySem.Str.ofString "one"), 4)]) rfl nd (di_seq hT.hK.symm (de_name 2)) (by rfl) (fun _ _ _ _ _ => dg_name 4 nd) (fun _ _ _ _ _ => dpts_nil) (fun _ _ _ _ _ => de_lenN 4 hT.b_len)) (da_nil))) (de_name 1)) (de_one (de_callB (cd_all rfl) hT.b_all (da_cons (de_lc (own := [((PySem.Str.ofString "one"), 4), ((PySem.Str.ofString "other"), 5)]) rfl nd (di_zip hT.hK.symm hT.b_zip (de_name 2) (de_slice (de_name 2) (dp_so (de_int)) (dp_no))) (by rfl) (fun _ _ _ _ _ => dg_tup rfl (dgs_name 4 nd (dgs_name 5 nd (dgs_nil)))) (fun _ _ _ _ _ => dpts_nil) (fun _ _ _ _ _ => de_cmp od_lt (de_name 4) (de_name 5))) (da_nil))))))))))
theorem d_check_game (hT : Tx K mg κ) : FnD P w K mg base κ "check_game" 3 1 m_check_game := by
  obtain ⟨f, fd, Ff, gx, hb⟩ := hT.f_check_game
  have nd : (["game"] : List Str).Nodup := by decide +kernel
  refine fnD_of (N := ["game"]) (ps := ["game"]) Ff ⟨rfl, rfl, rfl, nd, rfl, by decide +kernel, by decide +kernel⟩ gx hb f_check_game fun cdv A outer s H E hr => ?_
  have tkf : Takes (cxOf (L2.CX P w) P w K mg base ["game"] "check_game" (defScope s_check_game) f cdv A outer s H E) (fun cls d _ H => E cls d H) := takes_of rfl rfl rfl rfl
  exact dss_one (ds_if (dt_not (dt_val (de_call (d_is_game hT) (hr.mono (by decide)) tkf (da_cons (de_name 0) (da_nil))))) (dss_one (ds_raiseX 0 rfl tkf hT.x_InvalidGame)) (dss_nil))
theorem d_text_of (hT : Tx K mg κ) : FnD P w K mg base κ "text_of" 1 1 m_text_of := by
  obtain ⟨f, fd, Ff, gx, hb⟩ := hT.f_text_of
  have nd : (["game"] : List Str).Nodup := by decide +kernel
  refine fnD_of (N := ["game"]) (ps := ["game"]) Ff ⟨rfl, rfl, rfl, nd, rfl, by decide +kernel, by decide +kernel⟩ gx hb f_text_of fun cdv A outer s H E hr => ?_
  have tkf : Takes (cxOf (L2.CX P w) P w K mg base ["game"] "text_of" (defScope s_text_of) f cdv A outer s H E) (fun cls d _ H => E cls d H) := takes_of rfl rfl rfl rfl
  exact dss_one (ds_ret (de_mt md_join PySem.F.plainAttrs_str PySem.F.slot_str_join PySem.F.type_str_join (de_str) (da_cons (de_bin od_add (de_lst (da_cons (de_callTy cd_str hT.b_str (da_cons (de_ixN 0 (de_int)) (da_nil))) (da_cons (de_if (dt_val (de_ixN 0 (de_int))) (de_str) (de_str)) (da_nil)))) (de_callTy cd_list hT.b_list (da_cons (de_ixN 0 (de_int)) (da_nil)))) (da_nil))))
theorem d_format_game (hT : Tx K mg κ) : FnD P w K mg base κ "format_game" 4 1 m_format_game := by
  obtain ⟨f, fd, Ff, gx, hb⟩ := hT.f_format_game
  have nd : (["game"] : List Str).Nodup := by decide +kernel
  refine fnD_of (N := ["game"]) (ps := ["game"]) Ff ⟨rfl, rfl, rfl, nd, rfl, by decide +kernel, by decide +kernel⟩ gx hb f_format_game fun cdv A outer s H E hr => ?_
  have tkf : Takes (cxOf (L2.CX P w) P w K mg base ["game"] "format_game" (defScope s_format_game) f cdv A outer s H E) (fun cls d _ H => E cls d H) := takes_of rfl rfl rfl rfl
  exact dss_cons (ds_expr (de_call (d_check_game hT) (hr.mono (by decide)) tkf (da_cons (de_name 0) (da_nil)))) (dss_one (ds_ret (de_call (d_text_of hT) (hr.mono (by decide)) tkf (da_cons (de_name 0) (da_nil)))))
theorem d_parse_game (hT : Tx K mg κ) : FnD P w K mg base κ "parse_game" 3 1 m_parse_game := by
  obtain ⟨f, fd, Ff, gx, hb⟩ := hT.f_parse_game
  have nd : (["text", "words", "game"] : List Str).Nodup := by decide +kernel
  refine fnD_of (N := ["text", "words", "game"]) (ps := ["text"]) Ff ⟨rfl, rfl, rfl, nd, rfl, by decide +kernel, by decide +kernel⟩ gx hb f_parse_game fun cdv A outer s H E hr => ?_
  have tkf : Takes (cxOf (L2.CX P w) P w K mg base ["text", "words", "game"] "parse_game" (defScope s_parse_game) f cdv A outer s H E) (fun cls d _ H => E cls d H) := takes_of rfl rfl rfl rfl
  exact dss_cons (ds_if (dt_not (dt_val (de_isi kitAll_str hT.b_isinstance hT.b_str (de_name 0)))) (dss_one (ds_raiseX 9 rfl tkf hT.x_ParseError)) (dss_nil)) (dss_cons (ds_set 1 nd (de_mt md_split PySem.F.plainAttrs_str PySem.F.slot_str_split PySem.F.type_str_split (de_name 0) (da_cons (de_str) (da_nil)))) (dss_cons (ds_if ((dw_or (dt_cmp od_lt (de_lenN 1 hT.b_len) (de_int)) (dw_or (dt_cmp (od_ne (u64 hr)) (de_callB cd_len hT.b_len (da_cons (de_ixN 1 (de_int)) (da_nil))) (de_int)) (dw_or (dt_cmp (od_notIn (u65 hr)) (de_ixN 1 (de_int)) (de_str)) (dw_or1 (dt_cmp (od_notIn (u65 hr)) (de_ixN 1 (de_int)) (de_tup (da_cons (de_str) (da_cons (de_str) (da_nil))))))))).pt) (dss_one (ds_raiseX 9 rfl tkf hT.x_ParseError)) (dss_nil)) (dss_cons (ds_set 2 nd (de_tup (da_cons (de_callTy cd_int hT.b_int (da_cons (de_ixN 1 (de_int)) (da_nil))) (da_cons (de_callTy cd_tuple hT.b_tuple (da_cons (de_slice (de_name 1) (dp_so (de_int)) (dp_no)) (da_nil))) (da_cons (de_cmp (od_eq (u64 hr)) (de_ixN 1 (de_int)) (de_str)) (da_nil)))))) (dss_cons (ds_if (dt_not (dt_val (de_call (d_is_game hT) (hr.mono (by decide)) tkf (da_cons (de_name 2) (da_nil))))) (dss_one (ds_raiseX 9 rfl tkf hT.x_ParseError)) (dss_nil)) (dss_one (ds_ret (de_move 2)))))))
theorem d__law_cell_at (hT : Tx K mg κ) : FnD P w K mg base κ "_law_cell_at" 1 2 m__law_cell_at := by
  obtain ⟨f, fd, Ff, gx, hb⟩ := hT.f__law_cell_at
  have nd : (["_law_script", "_law_k", "_law_spare", "_law_again"] : List Str).Nodup := by decide +kernel
  refine fnD_of (N := ["_law_script", "_law_k", "_law_spare", "_law_again"]) (ps := ["_law_script", "_law_k"]) Ff ⟨rfl, rfl, rfl, nd, rfl, by decide +kernel, by decide +kernel⟩ gx hb f__law_cell_at fun cdv A outer s H E hr => ?_
  have tkf : Takes (cxOf (L2.CX P w) P w K mg base ["_law_script", "_law_k", "_law_spare", "_law_again"] "_law_cell_at" (defScope s__law_cell_at) f cdv A outer s H E) (fun cls d _ H => E cls d H) := takes_of rfl rfl rfl rfl
  exact dss_cons (ds_if (dt_cmp od_lt (de_name 1) (de_lenSc 0 hT.hK.symm hT.b_len)) (dss_one (ds_ret (de_ixSc 0 hT.hK.symm (de_name 1)))) (dss_nil)) (dss_cons (ds_if (dt_scNil 0 hT.hK.symm (u64 hr)) (dss_one (ds_ret (de_int))) (dss_nil)) (dss_cons (ds_set 2 nd (de_ixSc 0 hT.hK.symm (de_bin od_mod (de_name 1) (de_lenSc 0 hT.hK.symm hT.b_len)))) (dss_cons (ds_for (passes_of rfl) rfl (di_range1 hT.b_range (de_callB (cd_min rfl) hT.b_min (da_cons (de_bin od_div (de_name 1) (de_lenSc 0 hT.hK.symm hT.b_len)) (da_cons (de_int) (da_nil))))) (dg_name 3 nd) (dss_one (ds_set 2 nd (de_bin od_div (de_name 2) (de_int))))) (dss_one (ds_ret (de_bin od_add (de_bin od_add (de_bin od_mul (de_ixSc 0 hT.hK.symm (de_bin od_mod (de_name 1) (de_lenSc 0 hT.hK.symm hT.b_len))) (de_int)) (de_name 1)) (de_bin od_mul (de_name 2) (de_int))))))))
theorem d__law_mixed (hT : Tx K mg κ) : FnD P w K mg base κ "_law_mixed" 2 3 m__law_mixed := by
  obtain ⟨f, fd, Ff, gx, hb⟩ := hT.f__law_mixed
  have nd : (["_law_script", "_law_k", "_law_many", "_law_spun"] : List Str).Nodup := by decide +kernel
  refine fnD_of (N := ["_law_script", "_law_k", "_law_many", "_law_spun"]) (ps := ["_law_script", "_law_k", "_law_many"]) Ff ⟨rfl, rfl, rfl, nd, rfl, by decide +kernel, by decide +kernel⟩ gx hb f__law_mixed fun cdv A outer s H E hr => ?_
  have tkf : Takes (cxOf (L2.CX P w) P w K mg base ["_law_script", "_law_k", "_law_many", "_law_spun"] "_law_mixed" (defScope s__law_mixed) f cdv A outer s H E) (fun cls d _ H => E cls d H) := takes_of rfl rfl rfl rfl
  exact dss_cons (ds_set 3 nd (de_bin od_mod (de_bin od_add (de_bin od_add (de_bin od_mul (de_call (d__law_cell_at hT) (hr.mono (by decide)) tkf (da_cons (de_name 0) (da_cons (de_name 1) (da_nil)))) (de_int)) (de_bin od_mul (de_int) (de_name 1))) (de_int)) (de_int))) (dss_one (ds_ret (de_bin od_mod (de_bin od_mod (de_bin od_mod (de_bin od_pow (de_name 3) (de_int)) (de_int)) (de_int)) (de_name 2))))
theorem d__law_draw (hT : Tx K mg κ) : FnD P w K mg base κ "_law_draw" 3 3 m__law_draw := by
  obtain ⟨f, fd, Ff, gx, hb⟩ := hT.f__law_draw
  have nd : (["_law_script", "_law_town", "_law_many"] : List Str).Nodup := by decide +kernel
  refine fnD_of (N := ["_law_script", "_law_town", "_law_many"]) (ps := ["_law_script", "_law_town", "_law_many"]) Ff ⟨rfl, rfl, rfl, nd, rfl, by decide +kernel, by decide +kernel⟩ gx hb f__law_draw fun cdv A outer s H E hr => ?_
  have tkf : Takes (cxOf (L2.CX P w) P w K mg base ["_law_script", "_law_town", "_law_many"] "_law_draw" (defScope s__law_draw) f cdv A outer s H E) (fun cls d _ H => E cls d H) := takes_of rfl rfl rfl rfl
  exact dss_cons (ds_expr (de_appTn 1)) (dss_one (ds_ret (de_call (d__law_mixed hT) (hr.mono (by decide)) tkf (da_cons (de_name 0) (da_cons (de_lenN 1 hT.b_len) (da_cons (de_name 2) (da_nil)))))))
theorem d__law_pick (hT : Tx K mg κ) : FnD P w K mg base κ "_law_pick" 4 3 m__law_pick := by
  obtain ⟨f, fd, Ff, gx, hb⟩ := hT.f__law_pick
  have nd : (["_law_script", "_law_town", "_law_some"] : List Str).Nodup := by decide +kernel
  refine fnD_of (N := ["_law_script", "_law_town", "_law_some"]) (ps := ["_law_script", "_law_town", "_law_some"]) Ff ⟨rfl, rfl, rfl, nd, rfl, by decide +kernel, by decide +kernel⟩ gx hb f__law_pick fun cdv A outer s H E hr => ?_
  have tkf : Takes (cxOf (L2.CX P w) P w K mg base ["_law_script", "_law_town", "_law_some"] "_law_pick" (defScope s__law_pick) f cdv A outer s H E) (fun cls d _ H => E cls d H) := takes_of rfl rfl rfl rfl
  exact dss_one (ds_ret (de_ixN 2 (de_call (d__law_draw hT) (hr.mono (by decide)) tkf (da_cons (de_name 0) (da_cons (de_name 1) (da_cons (de_lenN 2 hT.b_len) (da_nil)))))))
theorem d__law_some_shape (hT : Tx K mg κ) : FnD P w K mg base κ "_law_some_shape" 5 3 m__law_some_shape := by
  obtain ⟨f, fd, Ff, gx, hb⟩ := hT.f__law_some_shape
  have nd : (["_law_script", "_law_town", "_law_most", "_law_size", "_law_again"] : List Str).Nodup := by decide +kernel
  refine fnD_of (N := ["_law_script", "_law_town", "_law_most", "_law_size", "_law_again"]) (ps := ["_law_script", "_law_town", "_law_most"]) Ff ⟨rfl, rfl, rfl, nd, rfl, by decide +kernel, by decide +kernel⟩ gx hb f__law_some_shape fun cdv A outer s H E hr => ?_
  have tkf : Takes (cxOf (L2.CX P w) P w K mg base ["_law_script", "_law_town", "_law_most", "_law_size", "_law_again"] "_law_some_shape" (defScope s__law_some_shape) f cdv A outer s H E) (fun cls d _ H => E cls d H) := takes_of rfl rfl rfl rfl
  exact dss_cons (ds_set 3 nd (de_bin od_add (de_int) (de_call (d__law_draw hT) (hr.mono (by decide)) tkf (da_cons (de_name 0) (da_cons (de_name 1) (da_cons (de_name 2) (da_nil))))))) (dss_cons (ds_if (dt_cmp (od_eq (u64 hr)) (de_name 3) (de_int)) (dss_one (ds_ret (de_str))) (dss_nil)) (dss_one (ds_ret (de_bin od_add (de_bin od_add (de_str) (de_mt md_join PySem.F.plainAttrs_str PySem.F.slot_str_join PySem.F.type_str_join (de_str) (da_cons (de_lc (own := [((PySem.Str.ofString "_law_again"), 4)]) rfl nd (di_range1 hT.b_range (de_bin od_sub (de_name 3) (de_int))) (by rfl) (fun _ _ _ _ _ => dg_name 4 nd) (fun _ _ _ _ _ => dpts_nil) (fun _ _ _ _ _ => de_call (d__law_pick hT) (hr.mono (by decide)) takes0 (da_cons (de_name 0) (da_cons (de_name 1) (da_cons (de_lst (da_cons (de_str) (da_cons (de_str) (da_nil)))) (da_nil)))))) (da_nil)))) (de_str)))))
theorem d__law_some_game (hT : Tx K mg κ) : FnD P w K mg base κ "_law_some_game" 6 3 m__law_some_game := by
  obtain ⟨f, fd, Ff, gx, hb⟩ := hT.f__law_some_game
  have nd : (["_law_script", "_law_town", "_law_most", "_law_length", "_law_shapes", "_law_again"] : List Str).Nodup := by decide +kernel
  refine fnD_of (N := ["_law_script", "_law_town", "_law_most", "_law_length", "_law_shapes", "_law_again"]) (ps := ["_law_script", "_law_town", "_law_most"]) Ff ⟨rfl, rfl, rfl, nd, rfl, by decide +kernel, by decide +kernel⟩ gx hb f__law_some_game fun cdv A outer s H E hr => ?_
  have tkf : Takes (cxOf (L2.CX P w) P w K mg base ["_law_script", "_law_town", "_law_most", "_law_length", "_law_shapes", "_law_again"] "_law_some_game" (defScope s__law_some_game) f cdv A outer s H E) (fun cls d _ H => E cls d H) := takes_of rfl rfl rfl rfl
  exact dss_cons (ds_set 3 nd (de_bin od_add (de_int) (de_call (d__law_draw hT) (hr.mono (by decide)) tkf (da_cons (de_name 0) (da_cons (de_name 1) (da_cons (de_name 2) (da_nil))))))) (dss_cons (ds_set 4 nd (de_sortSet rfl (u100 hr) hT.b_sorted hT.b_set (de_lc (own := [((PySem.Str.ofString "_law_again"), 5)]) rfl nd (di_range1 hT.b_range (de_bin od_add (de_int) (de_call (d__law_draw hT) (hr.mono (by decide)) tkf (da_cons (de_name 0) (da_cons (de_name 1) (da_cons (de_int) (da_nil))))))) (by rfl) (fun _ _ _ _ _ => dg_name 5 nd) (fun _ _ _ _ _ => dpts_nil) (fun _ _ _ _ _ => de_call (d__law_some_shape hT) (hr.mono (by decide)) takes0 (da_cons (de_name 0) (da_cons (de_name 1) (da_cons (de_name 3) (da_nil)))))))) (dss_one (ds_ret (de_tup (da_cons (de_name 3) (da_cons (de_callTy cd_tuple hT.b_tuple (da_cons (de_name 4) (da_nil))) (da_cons (de_cmp (od_eq (u64 hr)) (de_call (d__law_draw hT) (hr.mono (by decide)) tkf (da_cons (de_name 0) (da_cons (de_name 1) (da_cons (de_int) (da_nil))))) (de_int)) (da_nil))))))))
theorem d__law_read (hT : Tx K mg κ) : FnD P w K mg base κ "_law_read" 4 1 m__law_read := by
  obtain ⟨f, fd, Ff, gx, hb⟩ := hT.f__law_read
  have nd : (["_law_text", "_law_e"] : List Str).Nodup := by decide +kernel
  obtain ⟨ce, hCE, hEM⟩ := hT.nCE
  refine fnD_of (N := ["_law_text", "_law_e"]) (ps := ["_law_text"]) Ff ⟨rfl, rfl, rfl, nd, rfl, by decide +kernel, by decide +kernel⟩ gx hb f__law_read fun cdv A outer s H E hr => ?_
  have tkf : Takes (cxOf (L2.CX P w) P w K mg base ["_law_text", "_law_e"] "_law_read" (defScope s__law_read) f cdv A outer s H E) (fun cls d _ H => E cls d H) := takes_of rfl rfl rfl rfl
  exact dss_one (ds_tryW 1 cs nd ⟨rfl, by decide, Or.inl hCE⟩ hEM (fun W2 pn xe tk2 hp2 => dss_one (ds_ret (de_call (d_parse_game hT) (hr.mono (by decide)) tk2 (da_cons (de_name 0) (da_nil))))) (fun c hc a oe pn hz hf => d__law_which (k := 3) hT hr hc hz hf (by decide)))
theorem d_law (hT : Tx K mg κ) {f : Addr} {fd : FuncData} (Ff : Fun K "law" "law" s_law f fd) : FnOk P w K mg base (L2.CX P w) 7 f fd ["_law_script"] (spOf κ 1 m_law) := by
  have nd : (["_law_script", "_law_town", "_law_own", "_law_text", "_law_shape", "_law_odds", "_law_odd"] : List Str).Nodup := by decide +kernel
  refine fnOk_of (N := ["_law_script", "_law_town", "_law_own", "_law_text", "_law_shape", "_law_odds", "_law_odd"]) (ps := ["_law_script"]) Ff ⟨rfl, rfl, rfl, nd, rfl, by decide +kernel, by decide +kernel⟩ f_law fun cdv A outer s H E hr => ?_
  have tkf : Takes (cxOf (L2.CX P w) P w K mg base ["_law_script", "_law_town", "_law_own", "_law_text", "_law_shape", "_law_odds", "_law_odd"] "law" (defScope s_law) f cdv A outer s H E) (fun cls d _ H => E cls d H) := takes_of rfl rfl rfl rfl
  exact dss_cons (ds_town 1 nd) (dss_cons (ds_set 2 nd (de_call (d__law_some_game hT) (hr.mono (by decide)) tkf (da_cons (de_name 0) (da_cons (de_name 1) (da_cons (de_int) (da_nil)))))) (dss_cons (ds_set 3 nd (de_bin od_add (de_callTy cd_str hT.b_str (da_cons (de_ixN 2 (de_int)) (da_nil))) (de_if (dt_val (de_ixN 2 (de_int))) (de_str) (de_str)))) (dss_cons (ds_for (passes_of rfl) rfl (di_seq hT.hK.symm (de_ixN 2 (de_int))) (dg_name 4 nd) (dss_one (ds_set 3 nd (de_bin od_add (de_bin od_add (de_name 3) (de_str)) (de_name 4))))) (dss_cons (ds_if ((dw_or (dt_cmp (od_ne (u64 hr)) (de_call (d_format_game hT) (hr.mono (by decide)) tkf (da_cons (de_name 2) (da_nil))) (de_name 3)) (dw_or1 (dt_cmp (od_ne (u64 hr)) (de_call (d__law_read hT) (hr.mono (by decide)) tkf (da_cons (de_name 3) (da_nil))) (de_name 2)))).pt) (dss_one (ds_ret (de_bl))) (dss_nil)) (dss_cons (ds_set 5 nd (de_lst (da_cons (de_non) (da_cons (de_int) (da_tok (dra_cons (dr_of (de_bin od_add (de_name 3) (de_str))) (dra_cons (dr_of (de_bin od_add (de_str) (de_name 3))) (dra_cons (dr_of (de_bin od_add (de_name 3) (de_str))) (dra_cons (dr_repl (de_name 3)) (dra_cons (dr_of (de_bin od_add (de_str) (de_name 3))) (dra_cons (dr_of (de_str)) (dra_cons (dr_of (de_str)) (dra_nil))))))))))))) (dss_cons (ds_expr (de_ext 5 (de_lst (da_cons (de_str) (da_cons (de_str) (da_cons (de_str) (da_cons (de_str) (da_cons (de_str) (da_cons (de_str) (da_cons (de_str) (da_nil))))))))))) (dss_cons (ds_expr (de_ext 5 (de_lst (da_cons (de_str) (da_cons (de_str) (da_cons (de_str) (da_cons (de_str) (da_cons (de_str) (da_cons (de_str) (da_cons (de_str) (da_cons (de_str) (da_nil)))))))))))) (dss_cons (ds_if (dt_cmp (od_ne (u64 hr)) (de_lc (own := [((PySem.Str.ofString "_law_odd"), 6)]) rfl nd (di_seq hT.hK.symm (de_name 5)) (by rfl) (fun _ _ _ _ _ => dg_name 6 nd) (fun _ _ _ _ _ => dpts_nil) (fun _ _ _ _ _ => de_call (d__law_read hT) (hr.mono (by decide)) takes0 (da_cons (de_name 6) (da_nil)))) (de_bin od_mul (de_lst (da_cons (de_tup (da_cons (de_str) (da_cons (de_int) (da_nil)))) (da_nil))) (de_lenN 5 hT.b_len))) (dss_one (ds_ret (de_bl))) (dss_nil)) (dss_one (ds_ret (de_cmp (od_eq (u64 hr)) (de_call (d__law_read hT) (hr.mono (by decide)) tkf (da_cons (de_str) (da_nil))) (de_tup (da_cons (de_int) (da_cons (de_tup (da_cons (de_str) (da_nil))) (da_cons (de_bl) (da_nil))))))))))))))))
end
theorem ec_mg {K : PySem.W.Frag} {h : Heap} {mg : Str → Option Value} {C : Addr} (c : Nat) (X : K.In h) (G : h.Ns mainGlobals mg) (a : PySem.W.nsIn K mainGlobals (excNm c) = some (some (.ref C))) : mg (excNm c) = some (.ref ((kOf K).ec c)) := by
  rw [show (kOf K).ec c = C from adr_of a]
  exact PySem.W.mg_of X G a
theorem tx_mk {K : PySem.W.Frag} {h : Heap} {mg : Str → Option Value} {C0 C1 C2 C3 C4 C5 C6 C7 C8 C9 CE f14 f15 f16 f17 f19 f20 f21 f23 f24 f25 f26 f27 f28 f30 f31 f29 : Addr} {tM : Tok} {oc14 kV14 dc14 pm14 cd14 ct14 oc15 kV15 dc15 pm15 cd15 ct15 oc16 kV16 dc16 pm16 cd16 ct16 oc17 kV17 dc17 pm17 cd17 ct17 oc19 kV19 dc19 pm19 cd19 ct19 oc20 kV20 dc20 pm20 cd20 ct20 oc21 kV21 dc21 pm21 cd21 ct21 oc23 kV23 dc23 pm23 cd23 ct23 oc24 kV24 dc24 pm24 cd24 ct24 oc25 kV25 dc25 pm25 cd25 ct25 oc26 kV26 dc26 pm26 cd26 ct26 oc27 kV27 dc27 pm27 cd27 ct27 oc28 kV28 dc28 pm28 cd28 ct28 oc30 kV30 dc30 pm30 cd30 ct30 oc31 kV31 dc31 pm31 cd31 ct31 oc29 kV29 dc29 pm29 cd29 ct29 : Value} {od14 an14 od15 an15 od16 an16 od17 an17 od19 an19 od20 an20 od21 an21 od23 an23 od24 an24 od25 an25 od26 an26 od27 an27 od28 an28 od30 an30 od31 an31 od29 an29 : Option Addr} {sl14 sl15 sl16 sl17 sl19 sl20 sl21 sl23 sl24 sl25 sl26 sl27 sl28 sl30 sl31 sl29 : Array (Option Value)} (X : K.In h) (G : h.Ns mainGlobals mg)
    (z_all : PySem.W.nsIn K mainGlobals "all" = some none)
    (z_bool : PySem.W.nsIn K mainGlobals "bool" = some none)
    (z_int : PySem.W.nsIn K mainGlobals "int" = some none)
    (z_isinstance : PySem.W.nsIn K mainGlobals "isinstance" = some none)
    (z_len : PySem.W.nsIn K mainGlobals "len" = some none)
    (z_list : PySem.W.nsIn K mainGlobals "list" = some none)
    (z_max : PySem.W.nsIn K mainGlobals "max" = some none)
    (z_min : PySem.W.nsIn K mainGlobals "min" = some none)
    (z_range : PySem.W.nsIn K mainGlobals "range" = some none)
    (z_set : PySem.W.nsIn K mainGlobals "set" = some none)
    (z_sorted : PySem.W.nsIn K mainGlobals "sorted" = some none)
    (z_str : PySem.W.nsIn K mainGlobals "str" = some none)
    (z_tuple : PySem.W.nsIn K mainGlobals "tuple" = some none)
    (z_zip : PySem.W.nsIn K mainGlobals "zip" = some none)
    (z_MOST : PySem.W.nsIn K mainGlobals "MOST" = some (some (.int 8 tM)))
    (n_0 : PySem.W.nsIn K mainGlobals "InvalidGame" = some (some (.ref C0)))
    (k_0 : PySem.W.keepIn K (.ref C0) = true)
    (e_0 : PySem.W.excIn K C0 [.type "ValueError", .type "Exception", .type "BaseException", .type "object"] "ValueError.__new__" = true)
    (s_0 : PySem.W.subIn K (.ref C0) (.type "BaseException") = some true)
    (t_0 : PySem.W.typeIn K (.ref C0) = some (.type "type"))
    (n_1 : PySem.W.nsIn K mainGlobals "InvalidRow" = some (some (.ref C1)))
    (n_2 : PySem.W.nsIn K mainGlobals "InvalidShape" = some (some (.ref C2)))
    (n_3 : PySem.W.nsIn K mainGlobals "InvalidMove" = some (some (.ref C3)))
    (n_4 : PySem.W.nsIn K mainGlobals "OutOfReach" = some (some (.ref C4)))
    (n_5 : PySem.W.nsIn K mainGlobals "OnRing" = some (some (.ref C5)))
    (n_6 : PySem.W.nsIn K mainGlobals "SeveralShapes" = some (some (.ref C6)))
    (n_7 : PySem.W.nsIn K mainGlobals "TooLong" = some (some (.ref C7)))
    (n_8 : PySem.W.nsIn K mainGlobals "NothingToUndo" = some (some (.ref C8)))
    (n_9 : PySem.W.nsIn K mainGlobals "ParseError" = some (some (.ref C9)))
    (k_9 : PySem.W.keepIn K (.ref C9) = true)
    (e_9 : PySem.W.excIn K C9 [.type "ValueError", .type "Exception", .type "BaseException", .type "object"] "ValueError.__new__" = true)
    (s_9 : PySem.W.subIn K (.ref C9) (.type "BaseException") = some true)
    (t_9 : PySem.W.typeIn K (.ref C9) = some (.type "type"))
    (n_CE : PySem.W.nsIn K mainGlobals "CoinError" = some (some (.ref CE)))
    (z_ve : PySem.W.nsIn K mainGlobals "ValueError" = some none)
    (em_9 : PySem.W.exmOne K (.ref C9) (.ref CE) = some true)
    (kt_9_0 : PySem.W.kitOne K (.ref C9) (.ref C0) = some false)
    (kt_9_1 : PySem.W.kitOne K (.ref C9) (.ref C1) = some false)
    (kt_9_2 : PySem.W.kitOne K (.ref C9) (.ref C2) = some false)
    (kt_9_3 : PySem.W.kitOne K (.ref C9) (.ref C3) = some false)
    (kt_9_4 : PySem.W.kitOne K (.ref C9) (.ref C4) = some false)
    (kt_9_5 : PySem.W.kitOne K (.ref C9) (.ref C5) = some false)
    (kt_9_6 : PySem.W.kitOne K (.ref C9) (.ref C6) = some false)
    (kt_9_7 : PySem.W.kitOne K (.ref C9) (.ref C7) = some false)
    (kt_9_8 : PySem.W.kitOne K (.ref C9) (.ref C8) = some false)
    (kt_9_9 : PySem.W.kitOne K (.ref C9) (.ref C9) = some true)
    (kv_9 : PySem.W.kitOne K (.ref C9) (.type "ValueError") = some true)
    (c1_9 : PySem.W.findIn K (.ref C9) "__getattribute__" = some (some (.builtin "BaseException.__getattribute__")))
    (c2_9 : PySem.W.findIn K (.ref C9) "__getattr__" = some none)
    (c4_9 : PySem.W.hasDictIn K C9 = true)
    (c5_9 : PySem.W.findIn K (.ref C9) "__class__" = some (some (.builtin "object.__class__")))
    (c8_9 : PySem.W.mroIn K C9 (.type "object") = some true)
    (c6 : PySem.W.specialIn K (.builtin "object.__class__") "__get__" = some (some (.builtin "getset_descriptor.__get__")))
    (c7 : PySem.W.takesIn K (.builtin "object.__class__") = some true)
    (a_14 : PySem.W.nsIn K mainGlobals "is_integer" = some (some (.ref f14)))
    (l_14 : K.lookup f14 = some ⟨oc14, od14, .func (PySem.W.fnOf "is_integer" "is_integer" (defArgs s_is_integer) (defBody s_is_integer) (defScope s_is_integer) .none kV14 dc14 pm14 an14 cd14 ct14), sl14⟩)
    (d_14 : PySem.W.codeIn K cd14 "is_integer" = true)
    (q_14 : PySem.W.keepIn K (.ref f14) = true)
    (a_15 : PySem.W.nsIn K mainGlobals "is_shape" = some (some (.ref f15)))
    (l_15 : K.lookup f15 = some ⟨oc15, od15, .func (PySem.W.fnOf "is_shape" "is_shape" (defArgs s_is_shape) (defBody s_is_shape) (defScope s_is_shape) .none kV15 dc15 pm15 an15 cd15 ct15), sl15⟩)
    (d_15 : PySem.W.codeIn K cd15 "is_shape" = true)
    (q_15 : PySem.W.keepIn K (.ref f15) = true)
    (a_16 : PySem.W.nsIn K mainGlobals "is_game" = some (some (.ref f16)))
    (l_16 : K.lookup f16 = some ⟨oc16, od16, .func (PySem.W.fnOf "is_game" "is_game" (defArgs s_is_game) (defBody s_is_game) (defScope s_is_game) .none kV16 dc16 pm16 an16 cd16 ct16), sl16⟩)
    (d_16 : PySem.W.codeIn K cd16 "is_game" = true)
    (q_16 : PySem.W.keepIn K (.ref f16) = true)
    (a_17 : PySem.W.nsIn K mainGlobals "check_game" = some (some (.ref f17)))
    (l_17 : K.lookup f17 = some ⟨oc17, od17, .func (PySem.W.fnOf "check_game" "check_game" (defArgs s_check_game) (defBody s_check_game) (defScope s_check_game) .none kV17 dc17 pm17 an17 cd17 ct17), sl17⟩)
    (d_17 : PySem.W.codeIn K cd17 "check_game" = true)
    (q_17 : PySem.W.keepIn K (.ref f17) = true)
    (a_19 : PySem.W.nsIn K mainGlobals "text_of" = some (some (.ref f19)))
    (l_19 : K.lookup f19 = some ⟨oc19, od19, .func (PySem.W.fnOf "text_of" "text_of" (defArgs s_text_of) (defBody s_text_of) (defScope s_text_of) .none kV19 dc19 pm19 an19 cd19 ct19), sl19⟩)
    (d_19 : PySem.W.codeIn K cd19 "text_of" = true)
    (q_19 : PySem.W.keepIn K (.ref f19) = true)
    (a_20 : PySem.W.nsIn K mainGlobals "format_game" = some (some (.ref f20)))
    (l_20 : K.lookup f20 = some ⟨oc20, od20, .func (PySem.W.fnOf "format_game" "format_game" (defArgs s_format_game) (defBody s_format_game) (defScope s_format_game) .none kV20 dc20 pm20 an20 cd20 ct20), sl20⟩)
    (d_20 : PySem.W.codeIn K cd20 "format_game" = true)
    (q_20 : PySem.W.keepIn K (.ref f20) = true)
    (a_21 : PySem.W.nsIn K mainGlobals "parse_game" = some (some (.ref f21)))
    (l_21 : K.lookup f21 = some ⟨oc21, od21, .func (PySem.W.fnOf "parse_game" "parse_game" (defArgs s_parse_game) (defBody s_parse_game) (defScope s_parse_game) .none kV21 dc21 pm21 an21 cd21 ct21), sl21⟩)
    (d_21 : PySem.W.codeIn K cd21 "parse_game" = true)
    (q_21 : PySem.W.keepIn K (.ref f21) = true)
    (a_23 : PySem.W.nsIn K mainGlobals "_law_cell_at" = some (some (.ref f23)))
    (l_23 : K.lookup f23 = some ⟨oc23, od23, .func (PySem.W.fnOf "_law_cell_at" "_law_cell_at" (defArgs s__law_cell_at) (defBody s__law_cell_at) (defScope s__law_cell_at) .none kV23 dc23 pm23 an23 cd23 ct23), sl23⟩)
    (d_23 : PySem.W.codeIn K cd23 "_law_cell_at" = true)
    (q_23 : PySem.W.keepIn K (.ref f23) = true)
    (a_24 : PySem.W.nsIn K mainGlobals "_law_mixed" = some (some (.ref f24)))
    (l_24 : K.lookup f24 = some ⟨oc24, od24, .func (PySem.W.fnOf "_law_mixed" "_law_mixed" (defArgs s__law_mixed) (defBody s__law_mixed) (defScope s__law_mixed) .none kV24 dc24 pm24 an24 cd24 ct24), sl24⟩)
    (d_24 : PySem.W.codeIn K cd24 "_law_mixed" = true)
    (q_24 : PySem.W.keepIn K (.ref f24) = true)
    (a_25 : PySem.W.nsIn K mainGlobals "_law_draw" = some (some (.ref f25)))
    (l_25 : K.lookup f25 = some ⟨oc25, od25, .func (PySem.W.fnOf "_law_draw" "_law_draw" (defArgs s__law_draw) (defBody s__law_draw) (defScope s__law_draw) .none kV25 dc25 pm25 an25 cd25 ct25), sl25⟩)
    (d_25 : PySem.W.codeIn K cd25 "_law_draw" = true)
    (q_25 : PySem.W.keepIn K (.ref f25) = true)
    (a_26 : PySem.W.nsIn K mainGlobals "_law_pick" = some (some (.ref f26)))
    (l_26 : K.lookup f26 = some ⟨oc26, od26, .func (PySem.W.fnOf "_law_pick" "_law_pick" (defArgs s__law_pick) (defBody s__law_pick) (defScope s__law_pick) .none kV26 dc26 pm26 an26 cd26 ct26), sl26⟩)
    (d_26 : PySem.W.codeIn K cd26 "_law_pick" = true)
    (q_26 : PySem.W.keepIn K (.ref f26) = true)
    (a_27 : PySem.W.nsIn K mainGlobals "_law_some_shape" = some (some (.ref f27)))
    (l_27 : K.lookup f27 = some ⟨oc27, od27, .func (PySem.W.fnOf "_law_some_shape" "_law_some_shape" (defArgs s__law_some_shape) (defBody s__law_some_shape) (defScope s__law_some_shape) .none kV27 dc27 pm27 an27 cd27 ct27), sl27⟩)
    (d_27 : PySem.W.codeIn K cd27 "_law_some_shape" = true)
    (q_27 : PySem.W.keepIn K (.ref f27) = true)
    (a_28 : PySem.W.nsIn K mainGlobals "_law_some_game" = some (some (.ref f28)))
    (l_28 : K.lookup f28 = some ⟨oc28, od28, .func (PySem.W.fnOf "_law_some_game" "_law_some_game" (defArgs s__law_some_game) (defBody s__law_some_game) (defScope s__law_some_game) .none kV28 dc28 pm28 an28 cd28 ct28), sl28⟩)
    (d_28 : PySem.W.codeIn K cd28 "_law_some_game" = true)
    (q_28 : PySem.W.keepIn K (.ref f28) = true)
    (a_30 : PySem.W.nsIn K mainGlobals "_law_read" = some (some (.ref f30)))
    (l_30 : K.lookup f30 = some ⟨oc30, od30, .func (PySem.W.fnOf "_law_read" "_law_read" (defArgs s__law_read) (defBody s__law_read) (defScope s__law_read) .none kV30 dc30 pm30 an30 cd30 ct30), sl30⟩)
    (d_30 : PySem.W.codeIn K cd30 "_law_read" = true)
    (q_30 : PySem.W.keepIn K (.ref f30) = true)
    (a_31 : PySem.W.nsIn K mainGlobals "law" = some (some (.ref f31)))
    (l_31 : K.lookup f31 = some ⟨oc31, od31, .func (PySem.W.fnOf "law" "law" (defArgs s_law) (defBody s_law) (defScope s_law) .none kV31 dc31 pm31 an31 cd31 ct31), sl31⟩)
    (d_31 : PySem.W.codeIn K cd31 "law" = true)
    (q_31 : PySem.W.keepIn K (.ref f31) = true)
    (a_29 : PySem.W.nsIn K mainGlobals "_law_which" = some (some (.ref f29)))
    (l_29 : K.lookup f29 = some ⟨oc29, od29, .func (PySem.W.fnOf "_law_which" "_law_which" (defArgs s__law_which) (defBody s__law_which) (defScope s__law_which) .none kV29 dc29 pm29 an29 cd29 ct29), sl29⟩)
    (d_29 : PySem.W.codeIn K cd29 "_law_which" = true)
    (q_29 : PySem.W.keepIn K (.ref f29) = true) : Tx K mg (kOf K) where
  hK := rfl
  b_all := PySem.W.mg_none_of X G z_all
  b_bool := PySem.W.mg_none_of X G z_bool
  b_int := PySem.W.mg_none_of X G z_int
  b_isinstance := PySem.W.mg_none_of X G z_isinstance
  b_len := PySem.W.mg_none_of X G z_len
  b_list := PySem.W.mg_none_of X G z_list
  b_max := PySem.W.mg_none_of X G z_max
  b_min := PySem.W.mg_none_of X G z_min
  b_range := PySem.W.mg_none_of X G z_range
  b_set := PySem.W.mg_none_of X G z_set
  b_sorted := PySem.W.mg_none_of X G z_sorted
  b_str := PySem.W.mg_none_of X G z_str
  b_tuple := PySem.W.mg_none_of X G z_tuple
  b_zip := PySem.W.mg_none_of X G z_zip
  c_MOST := ⟨_, PySem.W.mg_of X G z_MOST⟩
  x_InvalidGame := exn_mk 0 X G n_0 k_0 e_0 s_0 t_0
  x_ParseError := exn_mk 9 X G n_9 k_9 e_9 s_9 t_9
  nCE := ⟨CE, PySem.W.mg_of X G n_CE, fun c hc => by
    have hc2 : c = 9 := by
      unfold cs at hc
      simpa using hc
    rcases hc2 with rfl
    · rw [show (kOf K).ec 9 = C9 from adr_of n_9]
      exact em_9⟩
  whF := fun c hc => by
    have hc2 : c = 9 := by
      unfold cs at hc
      simpa using hc
    rcases hc2 with rfl
    · refine { lt := by decide, hK := rfl, isi := PySem.W.mg_none_of X G z_isinstance, ve := PySem.W.mg_none_of X G z_ve, g0 := ec_mg 0 X G n_0, g1 := ec_mg 1 X G n_1, g2 := ec_mg 2 X G n_2, g3 := ec_mg 3 X G n_3, g4 := ec_mg 4 X G n_4, g5 := ec_mg 5 X G n_5, g6 := ec_mg 6 X G n_6, g7 := ec_mg 7 X G n_7, g8 := ec_mg 8 X G n_8, g9 := ec_mg 9 X G n_9, kit := fun j hj => ?_, kv := ?_, cls := ?_ }
      · rw [show (kOf K).ec 9 = C9 from adr_of n_9]
        have hj2 : j = 0 ∨ j = 1 ∨ j = 2 ∨ j = 3 ∨ j = 4 ∨ j = 5 ∨ j = 6 ∨ j = 7 ∨ j = 8 ∨ j = 9 := by omega
        rcases hj2 with rfl | rfl | rfl | rfl | rfl | rfl | rfl | rfl | rfl | rfl
        · rw [show (kOf K).ec 0 = C0 from adr_of n_0]
          exact kt_9_0
        · rw [show (kOf K).ec 1 = C1 from adr_of n_1]
          exact kt_9_1
        · rw [show (kOf K).ec 2 = C2 from adr_of n_2]
          exact kt_9_2
        · rw [show (kOf K).ec 3 = C3 from adr_of n_3]
          exact kt_9_3
        · rw [show (kOf K).ec 4 = C4 from adr_of n_4]
          exact kt_9_4
        · rw [show (kOf K).ec 5 = C5 from adr_of n_5]
          exact kt_9_5
        · rw [show (kOf K).ec 6 = C6 from adr_of n_6]
          exact kt_9_6
        · rw [show (kOf K).ec 7 = C7 from adr_of n_7]
          exact kt_9_7
        · rw [show (kOf K).ec 8 = C8 from adr_of n_8]
          exact kt_9_8
        · rw [show (kOf K).ec 9 = C9 from adr_of n_9]
          exact kt_9_9
      · rw [show (kOf K).ec 9 = C9 from adr_of n_9]
        exact kv_9
      · rw [show (kOf K).ec 9 = C9 from adr_of n_9]
        exact ⟨c1_9, c2_9, s_9, c4_9, c5_9, c6, c7, c8_9⟩
  f_is_integer := fun_ok X G a_14 l_14 d_14 q_14 fun _ _ _ _ _ _ us hl => match us, hl with | [_, _, _], _ => rfl
  f_is_shape := fun_ok X G a_15 l_15 d_15 q_15 fun _ _ _ _ _ _ us hl => match us, hl with | [_], _ => rfl
  f_is_game := fun_ok X G a_16 l_16 d_16 q_16 fun _ _ _ _ _ _ us hl => match us, hl with | [_], _ => rfl
  f_check_game := fun_ok X G a_17 l_17 d_17 q_17 fun _ _ _ _ _ _ us hl => match us, hl with | [_], _ => rfl
  f_text_of := fun_ok X G a_19 l_19 d_19 q_19 fun _ _ _ _ _ _ us hl => match us, hl with | [_], _ => rfl
  f_format_game := fun_ok X G a_20 l_20 d_20 q_20 fun _ _ _ _ _ _ us hl => match us, hl with | [_], _ => rfl
  f_parse_game := fun_ok X G a_21 l_21 d_21 q_21 fun _ _ _ _ _ _ us hl => match us, hl with | [_], _ => rfl
  f__law_cell_at := fun_ok X G a_23 l_23 d_23 q_23 fun _ _ _ _ _ _ us hl => match us, hl with | [_, _], _ => rfl
  f__law_mixed := fun_ok X G a_24 l_24 d_24 q_24 fun _ _ _ _ _ _ us hl => match us, hl with | [_, _, _], _ => rfl
  f__law_draw := fun_ok X G a_25 l_25 d_25 q_25 fun _ _ _ _ _ _ us hl => match us, hl with | [_, _, _], _ => rfl
  f__law_pick := fun_ok X G a_26 l_26 d_26 q_26 fun _ _ _ _ _ _ us hl => match us, hl with | [_, _, _], _ => rfl
  f__law_some_shape := fun_ok X G a_27 l_27 d_27 q_27 fun _ _ _ _ _ _ us hl => match us, hl with | [_, _, _], _ => rfl
  f__law_some_game := fun_ok X G a_28 l_28 d_28 q_28 fun _ _ _ _ _ _ us hl => match us, hl with | [_, _, _], _ => rfl
  f__law_read := fun_ok X G a_30 l_30 d_30 q_30 fun _ _ _ _ _ _ us hl => match us, hl with | [_], _ => rfl
  f__law_which := fun_ok X G a_29 l_29 d_29 q_29 fun _ _ _ _ _ _ us hl => match us, hl with | [_], _ => rfl
theorem all_mk {P : Program} {w : World} {K : PySem.W.Frag} {h : Heap} {mg : Str → Option Value} {fa : Addr} {C0 C1 C2 C3 C4 C5 C6 C7 C8 C9 CE f14 f15 f16 f17 f19 f20 f21 f23 f24 f25 f26 f27 f28 f30 f31 f29 : Addr} {tM : Tok} {oc14 kV14 dc14 pm14 cd14 ct14 oc15 kV15 dc15 pm15 cd15 ct15 oc16 kV16 dc16 pm16 cd16 ct16 oc17 kV17 dc17 pm17 cd17 ct17 oc19 kV19 dc19 pm19 cd19 ct19 oc20 kV20 dc20 pm20 cd20 ct20 oc21 kV21 dc21 pm21 cd21 ct21 oc23 kV23 dc23 pm23 cd23 ct23 oc24 kV24 dc24 pm24 cd24 ct24 oc25 kV25 dc25 pm25 cd25 ct25 oc26 kV26 dc26 pm26 cd26 ct26 oc27 kV27 dc27 pm27 cd27 ct27 oc28 kV28 dc28 pm28 cd28 ct28 oc30 kV30 dc30 pm30 cd30 ct30 oc31 kV31 dc31 pm31 cd31 ct31 oc29 kV29 dc29 pm29 cd29 ct29 : Value} {od14 an14 od15 an15 od16 an16 od17 an17 od19 an19 od20 an20 od21 an21 od23 an23 od24 an24 od25 an25 od26 an26 od27 an27 od28 an28 od30 an30 od31 an31 od29 an29 : Option Addr} {sl14 sl15 sl16 sl17 sl19 sl20 sl21 sl23 sl24 sl25 sl26 sl27 sl28 sl30 sl31 sl29 : Array (Option Value)} (X : K.In h) (G : h.Ns mainGlobals mg) (hfa : mg "law" = some (.ref fa))
    (z_all : PySem.W.nsIn K mainGlobals "all" = some none)
    (z_bool : PySem.W.nsIn K mainGlobals "bool" = some none)
    (z_int : PySem.W.nsIn K mainGlobals "int" = some none)
    (z_isinstance : PySem.W.nsIn K mainGlobals "isinstance" = some none)
    (z_len : PySem.W.nsIn K mainGlobals "len" = some none)
    (z_list : PySem.W.nsIn K mainGlobals "list" = some none)
    (z_max : PySem.W.nsIn K mainGlobals "max" = some none)
    (z_min : PySem.W.nsIn K mainGlobals "min" = some none)
    (z_range : PySem.W.nsIn K mainGlobals "range" = some none)
    (z_set : PySem.W.nsIn K mainGlobals "set" = some none)
    (z_sorted : PySem.W.nsIn K mainGlobals "sorted" = some none)
    (z_str : PySem.W.nsIn K mainGlobals "str" = some none)
    (z_tuple : PySem.W.nsIn K mainGlobals "tuple" = some none)
    (z_zip : PySem.W.nsIn K mainGlobals "zip" = some none)
    (z_MOST : PySem.W.nsIn K mainGlobals "MOST" = some (some (.int 8 tM)))
    (n_0 : PySem.W.nsIn K mainGlobals "InvalidGame" = some (some (.ref C0)))
    (k_0 : PySem.W.keepIn K (.ref C0) = true)
    (e_0 : PySem.W.excIn K C0 [.type "ValueError", .type "Exception", .type "BaseException", .type "object"] "ValueError.__new__" = true)
    (s_0 : PySem.W.subIn K (.ref C0) (.type "BaseException") = some true)
    (t_0 : PySem.W.typeIn K (.ref C0) = some (.type "type"))
    (n_1 : PySem.W.nsIn K mainGlobals "InvalidRow" = some (some (.ref C1)))
    (n_2 : PySem.W.nsIn K mainGlobals "InvalidShape" = some (some (.ref C2)))
    (n_3 : PySem.W.nsIn K mainGlobals "InvalidMove" = some (some (.ref C3)))
    (n_4 : PySem.W.nsIn K mainGlobals "OutOfReach" = some (some (.ref C4)))
    (n_5 : PySem.W.nsIn K mainGlobals "OnRing" = some (some (.ref C5)))
    (n_6 : PySem.W.nsIn K mainGlobals "SeveralShapes" = some (some (.ref C6)))
    (n_7 : PySem.W.nsIn K mainGlobals "TooLong" = some (some (.ref C7)))
    (n_8 : PySem.W.nsIn K mainGlobals "NothingToUndo" = some (some (.ref C8)))
    (n_9 : PySem.W.nsIn K mainGlobals "ParseError" = some (some (.ref C9)))
    (k_9 : PySem.W.keepIn K (.ref C9) = true)
    (e_9 : PySem.W.excIn K C9 [.type "ValueError", .type "Exception", .type "BaseException", .type "object"] "ValueError.__new__" = true)
    (s_9 : PySem.W.subIn K (.ref C9) (.type "BaseException") = some true)
    (t_9 : PySem.W.typeIn K (.ref C9) = some (.type "type"))
    (n_CE : PySem.W.nsIn K mainGlobals "CoinError" = some (some (.ref CE)))
    (z_ve : PySem.W.nsIn K mainGlobals "ValueError" = some none)
    (em_9 : PySem.W.exmOne K (.ref C9) (.ref CE) = some true)
    (kt_9_0 : PySem.W.kitOne K (.ref C9) (.ref C0) = some false)
    (kt_9_1 : PySem.W.kitOne K (.ref C9) (.ref C1) = some false)
    (kt_9_2 : PySem.W.kitOne K (.ref C9) (.ref C2) = some false)
    (kt_9_3 : PySem.W.kitOne K (.ref C9) (.ref C3) = some false)
    (kt_9_4 : PySem.W.kitOne K (.ref C9) (.ref C4) = some false)
    (kt_9_5 : PySem.W.kitOne K (.ref C9) (.ref C5) = some false)
    (kt_9_6 : PySem.W.kitOne K (.ref C9) (.ref C6) = some false)
    (kt_9_7 : PySem.W.kitOne K (.ref C9) (.ref C7) = some false)
    (kt_9_8 : PySem.W.kitOne K (.ref C9) (.ref C8) = some false)
    (kt_9_9 : PySem.W.kitOne K (.ref C9) (.ref C9) = some true)
    (kv_9 : PySem.W.kitOne K (.ref C9) (.type "ValueError") = some true)
    (c1_9 : PySem.W.findIn K (.ref C9) "__getattribute__" = some (some (.builtin "BaseException.__getattribute__")))
    (c2_9 : PySem.W.findIn K (.ref C9) "__getattr__" = some none)
    (c4_9 : PySem.W.hasDictIn K C9 = true)
    (c5_9 : PySem.W.findIn K (.ref C9) "__class__" = some (some (.builtin "object.__class__")))
    (c8_9 : PySem.W.mroIn K C9 (.type "object") = some true)
    (c6 : PySem.W.specialIn K (.builtin "object.__class__") "__get__" = some (some (.builtin "getset_descriptor.__get__")))
    (c7 : PySem.W.takesIn K (.builtin "object.__class__") = some true)
    (a_14 : PySem.W.nsIn K mainGlobals "is_integer" = some (some (.ref f14)))
    (l_14 : K.lookup f14 = some ⟨oc14, od14, .func (PySem.W.fnOf "is_integer" "is_integer" (defArgs s_is_integer) (defBody s_is_integer) (defScope s_is_integer) .none kV14 dc14 pm14 an14 cd14 ct14), sl14⟩)
    (d_14 : PySem.W.codeIn K cd14 "is_integer" = true)
    (q_14 : PySem.W.keepIn K (.ref f14) = true)
    (a_15 : PySem.W.nsIn K mainGlobals "is_shape" = some (some (.ref f15)))
    (l_15 : K.lookup f15 = some ⟨oc15, od15, .func (PySem.W.fnOf "is_shape" "is_shape" (defArgs s_is_shape) (defBody s_is_shape) (defScope s_is_shape) .none kV15 dc15 pm15 an15 cd15 ct15), sl15⟩)
    (d_15 : PySem.W.codeIn K cd15 "is_shape" = true)
    (q_15 : PySem.W.keepIn K (.ref f15) = true)
    (a_16 : PySem.W.nsIn K mainGlobals "is_game" = some (some (.ref f16)))
    (l_16 : K.lookup f16 = some ⟨oc16, od16, .func (PySem.W.fnOf "is_game" "is_game" (defArgs s_is_game) (defBody s_is_game) (defScope s_is_game) .none kV16 dc16 pm16 an16 cd16 ct16), sl16⟩)
    (d_16 : PySem.W.codeIn K cd16 "is_game" = true)
    (q_16 : PySem.W.keepIn K (.ref f16) = true)
    (a_17 : PySem.W.nsIn K mainGlobals "check_game" = some (some (.ref f17)))
    (l_17 : K.lookup f17 = some ⟨oc17, od17, .func (PySem.W.fnOf "check_game" "check_game" (defArgs s_check_game) (defBody s_check_game) (defScope s_check_game) .none kV17 dc17 pm17 an17 cd17 ct17), sl17⟩)
    (d_17 : PySem.W.codeIn K cd17 "check_game" = true)
    (q_17 : PySem.W.keepIn K (.ref f17) = true)
    (a_19 : PySem.W.nsIn K mainGlobals "text_of" = some (some (.ref f19)))
    (l_19 : K.lookup f19 = some ⟨oc19, od19, .func (PySem.W.fnOf "text_of" "text_of" (defArgs s_text_of) (defBody s_text_of) (defScope s_text_of) .none kV19 dc19 pm19 an19 cd19 ct19), sl19⟩)
    (d_19 : PySem.W.codeIn K cd19 "text_of" = true)
    (q_19 : PySem.W.keepIn K (.ref f19) = true)
    (a_20 : PySem.W.nsIn K mainGlobals "format_game" = some (some (.ref f20)))
    (l_20 : K.lookup f20 = some ⟨oc20, od20, .func (PySem.W.fnOf "format_game" "format_game" (defArgs s_format_game) (defBody s_format_game) (defScope s_format_game) .none kV20 dc20 pm20 an20 cd20 ct20), sl20⟩)
    (d_20 : PySem.W.codeIn K cd20 "format_game" = true)
    (q_20 : PySem.W.keepIn K (.ref f20) = true)
    (a_21 : PySem.W.nsIn K mainGlobals "parse_game" = some (some (.ref f21)))
    (l_21 : K.lookup f21 = some ⟨oc21, od21, .func (PySem.W.fnOf "parse_game" "parse_game" (defArgs s_parse_game) (defBody s_parse_game) (defScope s_parse_game) .none kV21 dc21 pm21 an21 cd21 ct21), sl21⟩)
    (d_21 : PySem.W.codeIn K cd21 "parse_game" = true)
    (q_21 : PySem.W.keepIn K (.ref f21) = true)
    (a_23 : PySem.W.nsIn K mainGlobals "_law_cell_at" = some (some (.ref f23)))
    (l_23 : K.lookup f23 = some ⟨oc23, od23, .func (PySem.W.fnOf "_law_cell_at" "_law_cell_at" (defArgs s__law_cell_at) (defBody s__law_cell_at) (defScope s__law_cell_at) .none kV23 dc23 pm23 an23 cd23 ct23), sl23⟩)
    (d_23 : PySem.W.codeIn K cd23 "_law_cell_at" = true)
    (q_23 : PySem.W.keepIn K (.ref f23) = true)
    (a_24 : PySem.W.nsIn K mainGlobals "_law_mixed" = some (some (.ref f24)))
    (l_24 : K.lookup f24 = some ⟨oc24, od24, .func (PySem.W.fnOf "_law_mixed" "_law_mixed" (defArgs s__law_mixed) (defBody s__law_mixed) (defScope s__law_mixed) .none kV24 dc24 pm24 an24 cd24 ct24), sl24⟩)
    (d_24 : PySem.W.codeIn K cd24 "_law_mixed" = true)
    (q_24 : PySem.W.keepIn K (.ref f24) = true)
    (a_25 : PySem.W.nsIn K mainGlobals "_law_draw" = some (some (.ref f25)))
    (l_25 : K.lookup f25 = some ⟨oc25, od25, .func (PySem.W.fnOf "_law_draw" "_law_draw" (defArgs s__law_draw) (defBody s__law_draw) (defScope s__law_draw) .none kV25 dc25 pm25 an25 cd25 ct25), sl25⟩)
    (d_25 : PySem.W.codeIn K cd25 "_law_draw" = true)
    (q_25 : PySem.W.keepIn K (.ref f25) = true)
    (a_26 : PySem.W.nsIn K mainGlobals "_law_pick" = some (some (.ref f26)))
    (l_26 : K.lookup f26 = some ⟨oc26, od26, .func (PySem.W.fnOf "_law_pick" "_law_pick" (defArgs s__law_pick) (defBody s__law_pick) (defScope s__law_pick) .none kV26 dc26 pm26 an26 cd26 ct26), sl26⟩)
    (d_26 : PySem.W.codeIn K cd26 "_law_pick" = true)
    (q_26 : PySem.W.keepIn K (.ref f26) = true)
    (a_27 : PySem.W.nsIn K mainGlobals "_law_some_shape" = some (some (.ref f27)))
    (l_27 : K.lookup f27 = some ⟨oc27, od27, .func (PySem.W.fnOf "_law_some_shape" "_law_some_shape" (defArgs s__law_some_shape) (defBody s__law_some_shape) (defScope s__law_some_shape) .none kV27 dc27 pm27 an27 cd27 ct27), sl27⟩)
    (d_27 : PySem.W.codeIn K cd27 "_law_some_shape" = true)
    (q_27 : PySem.W.keepIn K (.ref f27) = true)
    (a_28 : PySem.W.nsIn K mainGlobals "_law_some_game" = some (some (.ref f28)))
    (l_28 : K.lookup f28 = some ⟨oc28, od28, .func (PySem.W.fnOf "_law_some_game" "_law_some_game" (defArgs s__law_some_game) (defBody s__law_some_game) (defScope s__law_some_game) .none kV28 dc28 pm28 an28 cd28 ct28), sl28⟩)
    (d_28 : PySem.W.codeIn K cd28 "_law_some_game" = true)
    (q_28 : PySem.W.keepIn K (.ref f28) = true)
    (a_30 : PySem.W.nsIn K mainGlobals "_law_read" = some (some (.ref f30)))
    (l_30 : K.lookup f30 = some ⟨oc30, od30, .func (PySem.W.fnOf "_law_read" "_law_read" (defArgs s__law_read) (defBody s__law_read) (defScope s__law_read) .none kV30 dc30 pm30 an30 cd30 ct30), sl30⟩)
    (d_30 : PySem.W.codeIn K cd30 "_law_read" = true)
    (q_30 : PySem.W.keepIn K (.ref f30) = true)
    (a_31 : PySem.W.nsIn K mainGlobals "law" = some (some (.ref f31)))
    (l_31 : K.lookup f31 = some ⟨oc31, od31, .func (PySem.W.fnOf "law" "law" (defArgs s_law) (defBody s_law) (defScope s_law) .none kV31 dc31 pm31 an31 cd31 ct31), sl31⟩)
    (d_31 : PySem.W.codeIn K cd31 "law" = true)
    (q_31 : PySem.W.keepIn K (.ref f31) = true)
    (a_29 : PySem.W.nsIn K mainGlobals "_law_which" = some (some (.ref f29)))
    (l_29 : K.lookup f29 = some ⟨oc29, od29, .func (PySem.W.fnOf "_law_which" "_law_which" (defArgs s__law_which) (defBody s__law_which) (defScope s__law_which) .none kV29 dc29 pm29 an29 cd29 ct29), sl29⟩)
    (d_29 : PySem.W.codeIn K cd29 "_law_which" = true)
    (q_29 : PySem.W.keepIn K (.ref f29) = true) :
    ∃ fd : FuncData, (∀ (s : Shared) (v : Value), BindsTo s fd ⟨[v], []⟩ [("_law_script", v)]) ∧ ∀ base : Heap, K.In base → base.Ns mainGlobals mg → FnOk P w K mg base (L2.CX P w) 7 fa fd ["_law_script"] (spOf (kOf K) 1 m_law) := by
  have e := hfa.symm.trans (PySem.W.mg_of X G a_31)
  cases e
  have Ff := fun_mk (st := s_law) l_31 d_31 q_31
  exact ⟨_, fun s v => .of_eq rfl, fun base _ _ => d_law (tx_mk X G z_all z_bool z_int z_isinstance z_len z_list z_max z_min z_range z_set z_sorted z_str z_tuple z_zip z_MOST n_0 k_0 e_0 s_0 t_0 n_1 n_2 n_3 n_4 n_5 n_6 n_7 n_8 n_9 k_9 e_9 s_9 t_9 n_CE z_ve em_9 kt_9_0 kt_9_1 kt_9_2 kt_9_3 kt_9_4 kt_9_5 kt_9_6 kt_9_7 kt_9_8 kt_9_9 kv_9 c1_9 c2_9 c4_9 c5_9 c8_9 c6 c7 a_14 l_14 d_14 q_14 a_15 l_15 d_15 q_15 a_16 l_16 d_16 q_16 a_17 l_17 d_17 q_17 a_19 l_19 d_19 q_19 a_20 l_20 d_20 q_20 a_21 l_21 d_21 q_21 a_23 l_23 d_23 q_23 a_24 l_24 d_24 q_24 a_25 l_25 d_25 q_25 a_26 l_26 d_26 q_26 a_27 l_27 d_27 q_27 a_28 l_28 d_28 q_28 a_30 l_30 d_30 q_30 a_31 l_31 d_31 q_31 a_29 l_29 d_29 q_29) Ff⟩
end CO
/-! Ma: the law's draws. -/
namespace CO
open PySem PySem.Spec PyProof.Rows L2

theorem atI_in {α : Type} {xs : List α} {i : Nat} (h : i < xs.length) : atI xs (i : Int) = some xs[i] := by
  unfold atI ixN
  simp [h]
theorem cell_at {ns : List Int} (k : Nat) (wd : List Ob) (hl : ns.length ≤ 63) : ∃ c : Int, Run m__law_cell_at [.sc ns, .sh (.int k)] wd (.sh (.int c)) wd := by
  by_cases h1 : k < ns.length
  · refine ⟨ns[k], Run.ret (sl := [.sc ns, .sh (.int k), .no, .no]) ?_⟩
    show f__law_cell_at ⟨[.sc ns, .sh (.int k), .no, .no], wd⟩ = _
    have h1' : (k : Int) < (ns.length : Int) := by omega
    unfold f__law_cell_at
    simp only [bind_ok, bind_ex, bind_st, get_mk, set_mk, sSeq, sEx, sRet, sIf, sSet, sPass, sEx_, sBk, sAsg, sPar2, sPar3, thenS, dv, toD, eC, eN, eMv, eP, eBin, tst, eChain, tAndM, tOrM, tNotM, eAnd, eOr, eNot, eIf, toA, aNil, aCons, asDs, dvs, eTup, eLst, eCall, eIx, eIxN, itemE, eSl, pNo, pSo, cutD, gLen, eLenN, lenD, gList, gTuple, gN, gT, setAll, eMt, tyD, eIsi, gAdd, gSub, gDiv, gMod, gMul, gPow, gLt, gLe, gGt, gGe, gStr, gMin, gIn, gNotIn, gIs, gIsNot, isD, eLenSc, eIxSc, eScNil, eAppTn, sTown, tYesM, noEx_ok, itemG, stepS, iAll, itemsOf, iR1, iR2, wipeE, restE, keepE, sAug, gIadd, gImul, eApp, eExt, eNeg, List.getD_cons_zero, List.getD_cons_succ, List.set_cons_zero, List.set_cons_succ, List.getElem?_cons_zero, List.getElem?_cons_succ, Option.map_some, Option.map_none, Bool.not_true, Bool.not_false, beq_self_eq_true, if_true, if_false, ite_true, ite_false, Bool.false_eq_true, reduceIte, reduceCtorEq, lenL_0, lenL_1, lenL_2, lenL_3, lenL_4, lenL_5, lenL_6, lenL_7, lenL_8, lenL_9, lenL_10, lenL_11, lenL_12, h1', decide_true, atI_in h1]
  · by_cases h2 : ns = []
    · subst h2
      refine ⟨0, Run.ret (sl := [.sc [], .sh (.int k), .no, .no]) ?_⟩
      show f__law_cell_at ⟨[.sc [], .sh (.int k), .no, .no], wd⟩ = _
      have h1' : ¬ (k : Int) < 0 := by omega
      unfold f__law_cell_at
      simp [bind_ok, bind_ex, bind_st, get_mk, set_mk, sSeq, sEx, sRet, sIf, sSet, sPass, sEx_, sBk, sAsg, sPar2, sPar3, thenS, dv, toD, eC, eN, eMv, eP, eBin, tst, eChain, tAndM, tOrM, tNotM, eAnd, eOr, eNot, eIf, toA, aNil, aCons, asDs, dvs, eTup, eLst, eCall, eIx, eIxN, itemE, eSl, pNo, pSo, cutD, gLen, eLenN, lenD, gList, gTuple, gN, gT, setAll, eMt, tyD, eIsi, gAdd, gSub, gDiv, gMod, gMul, gPow, gLt, gLe, gGt, gGe, gStr, gMin, gIn, gNotIn, gIs, gIsNot, isD, eLenSc, eIxSc, eScNil, eAppTn, sTown, tYesM, noEx_ok, itemG, stepS, iAll, itemsOf, iR1, iR2, wipeE, restE, keepE, sAug, gIadd, gImul, eApp, eExt, eNeg, List.getD_cons_zero, List.getD_cons_succ, List.set_cons_zero, List.set_cons_succ, List.getElem?_cons_zero, List.getElem?_cons_succ, Option.map_some, Option.map_none, Bool.not_true, Bool.not_false, beq_self_eq_true, if_true, if_false, ite_true, ite_false, Bool.false_eq_true, reduceIte, reduceCtorEq, lenL_0, lenL_1, lenL_2, lenL_3, lenL_4, lenL_5, lenL_6, lenL_7, lenL_8, lenL_9, lenL_10, lenL_11, lenL_12, h1']
    · have hp : 0 < ns.length := List.length_pos_iff.mpr h2
      have h1' : ¬ (k : Int) < (ns.length : Int) := by omega
      have hm : k % ns.length < ns.length := Nat.mod_lt _ hp
      have hm' : ((k : Int) % (ns.length : Int)) = ((k % ns.length : Nat) : Int) := by simp
      have he : ns.isEmpty = false := by cases ns; exact absurd rfl h2; rfl
      have hp' : (0 : Int) < (ns.length : Int) := by omega
      have hp2 : (0 : Int) < (ns.length : Int) ∧ (ns.length : Int) < 1073741824 := by omega
      have hr : ∀ n : Nat, ∃ c : Int, ∃ e, forGo (gN 3) (sSet 2 (eBin gDiv (eN 2) (eC (.int 1000003)))) (rangeL 0 n) ⟨[.sc ns, .sh (.int k), .sh (.int ns[k % ns.length]), .no], wd⟩ = .ok .nx ⟨[.sc ns, .sh (.int k), .sh (.int c), e], wd⟩ := by
        intro n
        obtain ⟨e', h3, z, x, h4⟩ := for_run (S := Unit) (g := gN 3) (b := sSet 2 (eBin gDiv (eN 2) (eC (.int 1000003)))) (fun _ e => ∃ (c : Int) (x : Ent), e = ⟨[.sc ns, .sh (.int k), .sh (.int c), x], wd⟩) (fun s _ => s) (rangeL 0 n) () _ ⟨_, _, rfl⟩ (by
          rintro d hd s e ⟨c, x, rfl⟩
          refine ⟨_, ?_, c / 1000003, .sh d, rfl⟩
          simp [bind_ok, bind_ex, bind_st, get_mk, set_mk, sSeq, sEx, sRet, sIf, sSet, sPass, sEx_, sBk, sAsg, sPar2, sPar3, thenS, dv, toD, eC, eN, eMv, eP, eBin, tst, eChain, tAndM, tOrM, tNotM, eAnd, eOr, eNot, eIf, toA, aNil, aCons, asDs, dvs, eTup, eLst, eCall, eIx, eIxN, itemE, eSl, pNo, pSo, cutD, gLen, eLenN, lenD, gList, gTuple, gN, gT, setAll, eMt, tyD, eIsi, gAdd, gSub, gDiv, gMod, gMul, gPow, gLt, gLe, gGt, gGe, gStr, gMin, gIn, gNotIn, gIs, gIsNot, isD, eLenSc, eIxSc, eScNil, eAppTn, sTown, tYesM, noEx_ok, itemG, stepS, iAll, itemsOf, iR1, iR2, wipeE, restE, keepE, sAug, gIadd, gImul, eApp, eExt, eNeg, List.getD_cons_zero, List.getD_cons_succ, List.set_cons_zero, List.set_cons_succ, List.getElem?_cons_zero, List.getElem?_cons_succ, Option.map_some, Option.map_none, Bool.not_true, Bool.not_false, beq_self_eq_true, if_true, if_false, ite_true, ite_false, Bool.false_eq_true, reduceIte, reduceCtorEq, lenL_0, lenL_1, lenL_2, lenL_3, lenL_4, lenL_5, lenL_6, lenL_7, lenL_8, lenL_9, lenL_10, lenL_11, lenL_12])
        subst h4
        exact ⟨z, x, h3⟩
      obtain ⟨c, e, hc⟩ := hr (if (60 : Int) < (k : Int) / (ns.length : Int) then (60 : Int) else (k : Int) / (ns.length : Int)).toNat
      have hb : ∀ q : Int, 0 ≤ q → ((if (60 : Int) < q then (60 : Int) else q) ≤ 100000 ∧ -100000 ≤ (if (60 : Int) < q then (60 : Int) else q)) := by
        intro q hq
        split <;> omega
      have hb2 := hb ((k : Int) / (ns.length : Int)) (Int.ediv_nonneg (by omega) (by omega))
      refine ⟨ns[k % ns.length] * 31 + k + c * 101, Run.ret (sl := [.sc ns, .sh (.int k), .sh (.int c), e]) ?_⟩
      show f__law_cell_at ⟨[.sc ns, .sh (.int k), .no, .no], wd⟩ = _
      unfold f__law_cell_at
      simp only [bind_ok, bind_ex, bind_st, get_mk, set_mk, sSeq, sEx, sRet, sIf, sSet, sPass, sEx_, sBk, sAsg, sPar2, sPar3, thenS, dv, toD, eC, eN, eMv, eP, eBin, tst, eChain, tAndM, tOrM, tNotM, eAnd, eOr, eNot, eIf, toA, aNil, aCons, asDs, dvs, eTup, eLst, eCall, eIx, eIxN, itemE, eSl, pNo, pSo, cutD, gLen, eLenN, lenD, gList, gTuple, gN, gT, setAll, eMt, tyD, eIsi, gAdd, gSub, gDiv, gMod, gMul, gPow, gLt, gLe, gGt, gGe, gStr, gMin, gIn, gNotIn, gIs, gIsNot, isD, eLenSc, eIxSc, eScNil, eAppTn, sTown, tYesM, noEx_ok, itemG, stepS, iAll, itemsOf, iR1, iR2, wipeE, restE, keepE, sAug, gIadd, gImul, eApp, eExt, eNeg, List.getD_cons_zero, List.getD_cons_succ, List.set_cons_zero, List.set_cons_succ, List.getElem?_cons_zero, List.getElem?_cons_succ, Option.map_some, Option.map_none, Bool.not_true, Bool.not_false, beq_self_eq_true, if_true, if_false, ite_true, ite_false, Bool.false_eq_true, reduceIte, reduceCtorEq, lenL_0, lenL_1, lenL_2, lenL_3, lenL_4, lenL_5, lenL_6, lenL_7, lenL_8, lenL_9, lenL_10, lenL_11, lenL_12, h1', decide_false, he, hp', hm', atI_in hm, sFor, hp2, and_self, hb2, hc]
      simp [bind_ok, bind_ex, bind_st, get_mk, set_mk, sSeq, sEx, sRet, sIf, sSet, sPass, sEx_, sBk, sAsg, sPar2, sPar3, thenS, dv, toD, eC, eN, eMv, eP, eBin, tst, eChain, tAndM, tOrM, tNotM, eAnd, eOr, eNot, eIf, toA, aNil, aCons, asDs, dvs, eTup, eLst, eCall, eIx, eIxN, itemE, eSl, pNo, pSo, cutD, gLen, eLenN, lenD, gList, gTuple, gN, gT, setAll, eMt, tyD, eIsi, gAdd, gSub, gDiv, gMod, gMul, gPow, gLt, gLe, gGt, gGe, gStr, gMin, gIn, gNotIn, gIs, gIsNot, isD, eLenSc, eIxSc, eScNil, eAppTn, sTown, tYesM, noEx_ok, itemG, stepS, iAll, itemsOf, iR1, iR2, wipeE, restE, keepE, sAug, gIadd, gImul, eApp, eExt, eNeg, List.getD_cons_zero, List.getD_cons_succ, List.set_cons_zero, List.set_cons_succ, List.getElem?_cons_zero, List.getElem?_cons_succ, Option.map_some, Option.map_none, Bool.not_true, Bool.not_false, beq_self_eq_true, if_true, if_false, ite_true, ite_false, Bool.false_eq_true, reduceIte, reduceCtorEq, lenL_0, lenL_1, lenL_2, lenL_3, lenL_4, lenL_5, lenL_6, lenL_7, lenL_8, lenL_9, lenL_10, lenL_11, lenL_12]
theorem mixed {ns : List Int} (k : Nat) {many : Nat} (wd : List Ob) (hl : ns.length ≤ 63) (hm : 0 < many) : ∃ v : Nat, v < many ∧ Run m__law_mixed [.sc ns, .sh (.int k), .sh (.int many)] wd (.sh (.int v)) wd := by
  obtain ⟨c, hc⟩ := cell_at k wd hl
  have hm' : (0 : Int) < (many : Int) := by omega
  have hcall := call_run (n := 2) (ms := aCons (eN 0) (aCons (eN 1) aNil)) (en := ⟨[.sc ns, .sh (.int k), .sh (.int many), .no], wd⟩) (sl := [.sc ns, .sh (.int k), .sh (.int many), .no]) (by simp only [bind_ok, bind_ex, bind_st, get_mk, set_mk, sSeq, sEx, sRet, sIf, sSet, sPass, sEx_, sBk, sAsg, sPar2, sPar3, thenS, dv, toD, eC, eN, eMv, eP, eBin, tst, eChain, tAndM, tOrM, tNotM, eAnd, eOr, eNot, eIf, toA, aNil, aCons, asDs, dvs, eTup, eLst, eCall, eIx, eIxN, itemE, eSl, pNo, pSo, cutD, gLen, eLenN, lenD, gList, gTuple, gN, gT, setAll, eMt, tyD, eIsi, gAdd, gSub, gDiv, gMod, gMul, gPow, gLt, gLe, gGt, gGe, gStr, gMin, gIn, gNotIn, gIs, gIsNot, isD, eLenSc, eIxSc, eScNil, eAppTn, sTown, tYesM, noEx_ok, itemG, stepS, iAll, itemsOf, iR1, iR2, wipeE, restE, keepE, sAug, gIadd, gImul, eApp, eExt, eNeg, List.getD_cons_zero, List.getD_cons_succ, List.set_cons_zero, List.set_cons_succ, List.getElem?_cons_zero, List.getElem?_cons_succ, Option.map_some, Option.map_none, Bool.not_true, Bool.not_false, beq_self_eq_true, if_true, if_false, ite_true, ite_false, Bool.false_eq_true, reduceIte, reduceCtorEq, lenL_0, lenL_1, lenL_2, lenL_3, lenL_4, lenL_5, lenL_6, lenL_7, lenL_8, lenL_9, lenL_10, lenL_11, lenL_12]) rfl hc
  let x := (c * 1103515245 + 7919 * (k : Int) + 12345) % 2147483647
  have hx : 0 ≤ x ∧ x < 2147483647 := ⟨Int.emod_nonneg _ (by decide), Int.emod_lt_of_pos _ (by decide)⟩
  have hx2 : x.natAbs < 2 ^ 64 := by
    have : x.natAbs < 2147483647 := by omega
    omega
  let v := x ^ 5 % 2147483647 % 999983 % (many : Int)
  have hv : 0 ≤ v ∧ v < many := ⟨Int.emod_nonneg _ (by omega), Int.emod_lt_of_pos _ hm'⟩
  refine ⟨v.toNat, by omega, Run.ret (sl := [.sc ns, .sh (.int k), .sh (.int many), .sh (.int x)]) ?_⟩
  show f__law_mixed ⟨[.sc ns, .sh (.int k), .sh (.int many), .no], wd⟩ = _
  have e : ((v.toNat : Nat) : Int) = v := Int.toNat_of_nonneg hv.1
  rw [e]
  unfold f__law_mixed
  have g1 : (-(2 ^ 64 : Int) < 1103515245 ∧ (1103515245 : Int) < 2 ^ 64) := by decide
  have g2 : (-(2 ^ 64 : Int) < 7919 ∧ (7919 : Int) < 2 ^ 64) := by decide
  have g3 : (0 : Int) < 2147483647 := by decide
  have g4 : (0 : Int) < 999983 := by decide
  have g5 : (0 : Int) ≤ 5 ∧ (5 : Int) ≤ 1000000 := by decide
  simp only [sSeq, sSet, eBin, dv, hcall]
  simp only [bind_ok, bind_ex, bind_st, get_mk, set_mk, sSeq, sEx, sRet, sIf, sSet, sPass, sEx_, sBk, sAsg, sPar2, sPar3, thenS, dv, toD, eC, eN, eMv, eP, eBin, tst, eChain, tAndM, tOrM, tNotM, eAnd, eOr, eNot, eIf, toA, aNil, aCons, asDs, dvs, eTup, eLst, eCall, eIx, eIxN, itemE, eSl, pNo, pSo, cutD, gLen, eLenN, lenD, gList, gTuple, gN, gT, setAll, eMt, tyD, eIsi, gAdd, gSub, gDiv, gMod, gMul, gPow, gLt, gLe, gGt, gGe, gStr, gMin, gIn, gNotIn, gIs, gIsNot, isD, eLenSc, eIxSc, eScNil, eAppTn, sTown, tYesM, noEx_ok, itemG, stepS, iAll, itemsOf, iR1, iR2, wipeE, restE, keepE, sAug, gIadd, gImul, eApp, eExt, eNeg, List.getD_cons_zero, List.getD_cons_succ, List.set_cons_zero, List.set_cons_succ, List.getElem?_cons_zero, List.getElem?_cons_succ, Option.map_some, Option.map_none, Bool.not_true, Bool.not_false, beq_self_eq_true, if_true, if_false, ite_true, ite_false, Bool.false_eq_true, reduceIte, reduceCtorEq, lenL_0, lenL_1, lenL_2, lenL_3, lenL_4, lenL_5, lenL_6, lenL_7, lenL_8, lenL_9, lenL_10, lenL_11, lenL_12, g1, g2, g3, g4, or_true, true_or, and_self]
  have g6 : (0 : Int) ≤ 5 ∧ (5 : Int) ≤ 1000000 ∧ ((c * 1103515245 + 7919 * (k : Int) + 12345) % 2147483647).natAbs < 2 ^ 64 := ⟨by decide, by decide, hx2⟩
  simp only [g3, g4, g6, hm', and_self, bind_ok, bind_ex, bind_st, get_mk, set_mk, sSeq, sEx, sRet, sIf, sSet, sPass, sEx_, sBk, sAsg, sPar2, sPar3, thenS, dv, toD, eC, eN, eMv, eP, eBin, tst, eChain, tAndM, tOrM, tNotM, eAnd, eOr, eNot, eIf, toA, aNil, aCons, asDs, dvs, eTup, eLst, eCall, eIx, eIxN, itemE, eSl, pNo, pSo, cutD, gLen, eLenN, lenD, gList, gTuple, gN, gT, setAll, eMt, tyD, eIsi, gAdd, gSub, gDiv, gMod, gMul, gPow, gLt, gLe, gGt, gGe, gStr, gMin, gIn, gNotIn, gIs, gIsNot, isD, eLenSc, eIxSc, eScNil, eAppTn, sTown, tYesM, noEx_ok, itemG, stepS, iAll, itemsOf, iR1, iR2, wipeE, restE, keepE, sAug, gIadd, gImul, eApp, eExt, eNeg, List.getD_cons_zero, List.getD_cons_succ, List.set_cons_zero, List.set_cons_succ, List.getElem?_cons_zero, List.getElem?_cons_succ, Option.map_some, Option.map_none, Bool.not_true, Bool.not_false, beq_self_eq_true, if_true, if_false, ite_true, ite_false, Bool.false_eq_true, reduceIte, reduceCtorEq, lenL_0, lenL_1, lenL_2, lenL_3, lenL_4, lenL_5, lenL_6, lenL_7, lenL_8, lenL_9, lenL_10, lenL_11, lenL_12]
  rfl
def Tn (k : Nat) (wd : List Ob) : Prop := ∃ j, j ≤ k ∧ wd = [.tn j]
theorem draw {ns : List Int} {k : Nat} {many : Nat} {wd : List Ob} (hl : ns.length ≤ 63) (hm : 0 < many) (hw : Tn k wd) (hk : k < lim) : ∃ v : Nat, v < many ∧ ∃ wd', Tn (k + 1) wd' ∧ Run m__law_draw [.sc ns, .wr 0, .sh (.int many)] wd (.sh (.int v)) wd' := by
  obtain ⟨j, hj, rfl⟩ := hw
  obtain ⟨v, hv, h⟩ := mixed (j + 1) [.tn (j + 1)] hl hm
  refine ⟨v, hv, [.tn (j + 1)], ⟨j + 1, by omega, rfl⟩, Run.ret (sl := [.sc ns, .wr 0, .sh (.int many)]) ?_⟩
  show f__law_draw ⟨[.sc ns, .wr 0, .sh (.int many)], [.tn j]⟩ = _
  have hj' : j < lim := by omega
  have hcall := call_run (n := 3) (ms := aCons (eN 0) (aCons (eLenN 1) (aCons (eN 2) aNil))) (en := ⟨[.sc ns, .wr 0, .sh (.int many)], [.tn (j + 1)]⟩) (sl := [.sc ns, .wr 0, .sh (.int many)]) (by simp only [bind_ok, bind_ex, bind_st, get_mk, set_mk, sSeq, sEx, sRet, sIf, sSet, sPass, sEx_, sBk, sAsg, sPar2, sPar3, thenS, dv, toD, eC, eN, eMv, eP, eBin, tst, eChain, tAndM, tOrM, tNotM, eAnd, eOr, eNot, eIf, toA, aNil, aCons, asDs, dvs, eTup, eLst, eCall, eIx, eIxN, itemE, eSl, pNo, pSo, cutD, gLen, eLenN, lenD, gList, gTuple, gN, gT, setAll, eMt, tyD, eIsi, gAdd, gSub, gDiv, gMod, gMul, gPow, gLt, gLe, gGt, gGe, gStr, gMin, gIn, gNotIn, gIs, gIsNot, isD, eLenSc, eIxSc, eScNil, eAppTn, sTown, tYesM, noEx_ok, itemG, stepS, iAll, itemsOf, iR1, iR2, wipeE, restE, keepE, sAug, gIadd, gImul, eApp, eExt, eNeg, List.getD_cons_zero, List.getD_cons_succ, List.set_cons_zero, List.set_cons_succ, List.getElem?_cons_zero, List.getElem?_cons_succ, Option.map_some, Option.map_none, Bool.not_true, Bool.not_false, beq_self_eq_true, if_true, if_false, ite_true, ite_false, Bool.false_eq_true, reduceIte, reduceCtorEq, lenL_0, lenL_1, lenL_2, lenL_3, lenL_4, lenL_5, lenL_6, lenL_7, lenL_8, lenL_9, lenL_10, lenL_11, lenL_12]) rfl h
  unfold f__law_draw
  simp only [bind_ok, bind_ex, bind_st, get_mk, set_mk, sSeq, sEx, sRet, sIf, sSet, sPass, sEx_, sBk, sAsg, sPar2, sPar3, thenS, dv, toD, eC, eN, eMv, eP, eBin, tst, eChain, tAndM, tOrM, tNotM, eAnd, eOr, eNot, eIf, toA, aNil, aCons, asDs, dvs, eTup, eLst, eCall, eIx, eIxN, itemE, eSl, pNo, pSo, cutD, gLen, eLenN, lenD, gList, gTuple, gN, gT, setAll, eMt, tyD, eIsi, gAdd, gSub, gDiv, gMod, gMul, gPow, gLt, gLe, gGt, gGe, gStr, gMin, gIn, gNotIn, gIs, gIsNot, isD, eLenSc, eIxSc, eScNil, eAppTn, sTown, tYesM, noEx_ok, itemG, stepS, iAll, itemsOf, iR1, iR2, wipeE, restE, keepE, sAug, gIadd, gImul, eApp, eExt, eNeg, List.getD_cons_zero, List.getD_cons_succ, List.set_cons_zero, List.set_cons_succ, List.getElem?_cons_zero, List.getElem?_cons_succ, Option.map_some, Option.map_none, Bool.not_true, Bool.not_false, beq_self_eq_true, if_true, if_false, ite_true, ite_false, Bool.false_eq_true, reduceIte, reduceCtorEq, lenL_0, lenL_1, lenL_2, lenL_3, lenL_4, lenL_5, lenL_6, lenL_7, lenL_8, lenL_9, lenL_10, lenL_11, lenL_12, hj', hcall]
end CO

/-! Mb: texts, shapes, picks. -/
namespace CO
open PySem PySem.Spec PyProof.Rows L2

/-! ### texts by their signs -/
def tx (cs : List Nat) : Str := ⟨cs.toArray⟩
theorem tx_len (cs : List Nat) : (tx cs).length = cs.length := List.size_toArray
theorem tx_cps (cs : List Nat) : (tx cs).cps.toList = cs := rfl
theorem tx_app (a b : List Nat) : tx a ++ tx b = tx (a ++ b) := by
  show (⟨(a.toArray ++ b.toArray)⟩ : Str) = ⟨(a ++ b).toArray⟩
  rw [List.append_toArray]
theorem tx_eta (s : Str) : tx s.cps.toList = s := rfl
theorem tx_inj {a b : List Nat} (h : tx a = tx b) : a = b := by
  have := congrArg (fun s : Str => s.cps.toList) h
  exact this
theorem inS_one (c : Nat) (y : Str) : inS ⟨#[c]⟩ y = decide (c ∈ y.cps.toList) := PySem.StrLaws.found_one y c
theorem atI_neg1 {α : Type} {xs : List α} (h : xs ≠ []) : atI xs (-1) = some (xs.getLast h) := by
  have hl : 0 < xs.length := List.length_pos_iff.mpr h
  unfold atI ixN
  rw [if_neg (by decide), if_pos (by omega)]
  have e : (-1 + (xs.length : Int)).toNat = xs.length - 1 := by omega
  show xs[(-1 + (xs.length : Int)).toNat]? = _
  rw [e, List.getLast_eq_getElem, List.getElem?_eq_getElem (by omega)]
theorem atI_0 {α : Type} {x : α} {xs : List α} : atI (x :: xs) 0 = some x := by
  have := atI_in (xs := x :: xs) (i := 0) (by simp)
  exact this
theorem comp_map {g : Ent → En → R Unit} {t : En → R Bool} {m : En → R Ent} {vs : List Nat} (E : En → Prop) (F : D → D) (ds : List D) (e : En) (h : E e) (hl : ds.length ≤ lim) (k : ∀ d ∈ ds, ∀ e, E e → ∃ e', itemG g t m vs d e = .ok (some (F d)) e' ∧ E e') :
    ∃ e', compGo g t m vs ds e [] = .ok (ds.map F) e' ∧ E e' := by
  obtain ⟨e', h1, h2⟩ := comp_pure E (fun d => some (F d)) ds e [] h (by simpa using hl) k
  refine ⟨e', ?_, h2⟩
  rw [h1]
  congr 1
  rw [List.nil_append]
  induction ds with
  | nil => rfl
  | cons d ds ih => simp [List.filterMap_cons]

/-! ### is_shape -/
def shpL (cs : List Nat) : Bool := decide (1 ≤ cs.length) && decide (cs.length ≤ 8) && cs.all (fun c => decide (c ∈ [120, 46])) && cs.head? == some 120 && cs.getLast? == some 120
def shpD : D → Bool
  | .str s => shpL s.cps.toList
  | _ => false
def txtOk : D → Bool
  | .str s => decide (s.length ≤ lim)
  | _ => true
theorem xdot : (PySem.Str.ofString "x.") = tx [120, 46] := by decide +kernel
theorem ofx : (PySem.Str.ofString "x") = tx [120] := by decide +kernel
theorem ofdot : (PySem.Str.ofString ".") = tx [46] := by decide +kernel
theorem ofnil : (PySem.Str.ofString "") = tx [] := by decide +kernel
theorem all_map_bool {α : Type} (l : List α) (f : α → Bool) : (l.map f).all id = l.all f := by
  induction l with
  | nil => rfl
  | cons a l ih => simp [ih]
/-- all(.. for x in l) over bools -/
theorem gAll_map {ds : List D} {f : D → Bool} (e : En) : gAll [.list (ds.map fun d => .bool (f d))] e = .ok (.sh (.bool (ds.all f))) e := by
  have : ds.map (fun d => PyData.bool (f d)) = (ds.map f).map .bool := by rw [List.map_map]; rfl
  rw [this]
  show (match asBools ((ds.map f).map .bool) with | some ns => R.ok (Ent.sh (.bool (ns.all id))) e | none => R.st) = _
  rw [asBools_map]
  show R.ok (Ent.sh (PyData.bool ((ds.map f).all id))) e = _
  rw [all_map_bool]
theorem isD_beq_str (s t : Str) : PyData.eqv (.str s) (.str t) = (s == t) := by unfold PyData.eqv; rfl
theorem shaped_str {s : Str} (h : PyData.strOk s = true) : SeqAt.shaped (.str s) = true := by unfold SeqAt.shaped; simp [PyData.canLay0, PyData.depth, h]
theorem gEq_str {s t : Str} (hs : PyData.strOk s = true) (ht : PyData.strOk t = true) (e : En) : gEq (.str s) (.str t) e = .ok (.sh (.bool (s == t))) e := by
  unfold gEq
  rw [if_pos ⟨shaped_str hs, shaped_str ht⟩, isD_beq_str]
theorem strOk_tx {cs : List Nat} (h : ∀ c ∈ cs, c < 1114112) : PyData.strOk (tx cs) = true := by
  unfold PyData.strOk tx
  simpa using h
theorem is_shape_no {d : D} {wd : List Ob} (h : isT "str" d = false) : Run m_is_shape [.sh d] wd (.sh (.bool false)) wd := by
  refine Run.ret (sl := [.sh d, .no]) ?_
  show f_is_shape ⟨[.sh d, .no], wd⟩ = _
  unfold f_is_shape
  simp only [bind_ok, bind_ex, bind_st, get_mk, set_mk, sSeq, sEx, sRet, sIf, sSet, sPass, sEx_, sBk, sAsg, sPar2, sPar3, thenS, dv, toD, eC, eN, eMv, eP, eBin, tst, eChain, tAndM, tOrM, tNotM, eAnd, eOr, eNot, eIf, toA, aNil, aCons, asDs, dvs, eTup, eLst, eCall, eIx, eIxN, itemE, eSl, pNo, pSo, cutD, gLen, eLenN, lenD, gList, gTuple, gN, gT, setAll, eMt, tyD, eIsi, gAdd, gSub, gDiv, gMod, gMul, gPow, gLt, gLe, gGt, gGe, gStr, gMin, gIn, gNotIn, gIs, gIsNot, isD, eLenSc, eIxSc, eScNil, eAppTn, sTown, tYesM, noEx_ok, itemG, stepS, iAll, itemsOf, iR1, iR2, wipeE, restE, keepE, sAug, gIadd, gImul, eApp, eExt, eNeg, List.getD_cons_zero, List.getD_cons_succ, List.set_cons_zero, List.set_cons_succ, List.getElem?_cons_zero, List.getElem?_cons_succ, Option.map_some, Option.map_none, Bool.not_true, Bool.not_false, beq_self_eq_true, if_true, if_false, ite_true, ite_false, Bool.false_eq_true, reduceIte, reduceCtorEq, lenL_0, lenL_1, lenL_2, lenL_3, lenL_4, lenL_5, lenL_6, lenL_7, lenL_8, lenL_9, lenL_10, lenL_11, lenL_12, h]
theorem is_shape_run {d : D} {wd : List Ob} (h : txtOk d = true) : Run m_is_shape [.sh d] wd (.sh (.bool (shpD d))) wd := by
  cases d with
  | str s =>
    have hs : s.length ≤ lim := of_decide_eq_true h
    have hall : ∀ x, ∃ x', eLc (iAll (eN 0)) (gN 1) tYesM (eBin gIn (eN 1) (eC (.str (PySem.Str.ofString "x.")))) [1] ⟨[.sh (.str s), x], wd⟩ = .ok (.ow ((s.cps.toList.map fun c => PyData.str ⟨#[c]⟩).map fun d => PyData.bool (match d with | .str y => inS y (PySem.Str.ofString "x.") | _ => false))) ⟨[.sh (.str s), x'], wd⟩ := by
      intro x
      obtain ⟨e', h1, x', h2⟩ := comp_map (g := gN 1) (t := tYesM) (m := eBin gIn (eN 1) (eC (.str (PySem.Str.ofString "x.")))) (vs := [1]) (fun e => ∃ x, e = ⟨[.sh (.str s), x], wd⟩) (fun d => PyData.bool (match d with | .str y => inS y (PySem.Str.ofString "x.") | _ => false)) (s.cps.toList.map fun c => PyData.str ⟨#[c]⟩) ⟨[.sh (.str s), x], wd⟩ ⟨x, rfl⟩ (by rw [List.length_map]; exact hs) (by
        rintro d hd e ⟨x, rfl⟩
        obtain ⟨c, _, rfl⟩ := List.mem_map.mp hd
        refine ⟨⟨[.sh (.str s), .sh (.str ⟨#[c]⟩)], wd⟩, ?_, _, rfl⟩
        simp only [bind_ok, bind_ex, bind_st, get_mk, set_mk, sSeq, sEx, sRet, sIf, sSet, sPass, sEx_, sBk, sAsg, sPar2, sPar3, thenS, dv, toD, eC, eN, eMv, eP, eBin, tst, eChain, tAndM, tOrM, tNotM, eAnd, eOr, eNot, eIf, toA, aNil, aCons, asDs, dvs, eTup, eLst, eCall, eIx, eIxN, itemE, eSl, pNo, pSo, cutD, gLen, eLenN, lenD, gList, gTuple, gN, gT, setAll, eMt, tyD, eIsi, gAdd, gSub, gDiv, gMod, gMul, gPow, gLt, gLe, gGt, gGe, gStr, gMin, gIn, gNotIn, gIs, gIsNot, isD, eLenSc, eIxSc, eScNil, eAppTn, sTown, tYesM, noEx_ok, itemG, stepS, iAll, itemsOf, iR1, iR2, wipeE, restE, keepE, sAug, gIadd, gImul, eApp, eExt, eNeg, List.getD_cons_zero, List.getD_cons_succ, List.set_cons_zero, List.set_cons_succ, List.getElem?_cons_zero, List.getElem?_cons_succ, Option.map_some, Option.map_none, Bool.not_true, Bool.not_false, beq_self_eq_true, if_true, if_false, ite_true, ite_false, Bool.false_eq_true, reduceIte, reduceCtorEq, lenL_0, lenL_1, lenL_2, lenL_3, lenL_4, lenL_5, lenL_6, lenL_7, lenL_8, lenL_9, lenL_10, lenL_11, lenL_12, gInB])
      subst h2
      exact ⟨_, lc_run (by simp only [bind_ok, bind_ex, bind_st, get_mk, set_mk, sSeq, sEx, sRet, sIf, sSet, sPass, sEx_, sBk, sAsg, sPar2, sPar3, thenS, dv, toD, eC, eN, eMv, eP, eBin, tst, eChain, tAndM, tOrM, tNotM, eAnd, eOr, eNot, eIf, toA, aNil, aCons, asDs, dvs, eTup, eLst, eCall, eIx, eIxN, itemE, eSl, pNo, pSo, cutD, gLen, eLenN, lenD, gList, gTuple, gN, gT, setAll, eMt, tyD, eIsi, gAdd, gSub, gDiv, gMod, gMul, gPow, gLt, gLe, gGt, gGe, gStr, gMin, gIn, gNotIn, gIs, gIsNot, isD, eLenSc, eIxSc, eScNil, eAppTn, sTown, tYesM, noEx_ok, itemG, stepS, iAll, itemsOf, iR1, iR2, wipeE, restE, keepE, sAug, gIadd, gImul, eApp, eExt, eNeg, List.getD_cons_zero, List.getD_cons_succ, List.set_cons_zero, List.set_cons_succ, List.getElem?_cons_zero, List.getElem?_cons_succ, Option.map_some, Option.map_none, Bool.not_true, Bool.not_false, beq_self_eq_true, if_true, if_false, ite_true, ite_false, Bool.false_eq_true, reduceIte, reduceCtorEq, lenL_0, lenL_1, lenL_2, lenL_3, lenL_4, lenL_5, lenL_6, lenL_7, lenL_8, lenL_9, lenL_10, lenL_11, lenL_12]) h1⟩
    obtain ⟨x', hlc⟩ := hall .no
    have hl : s.length = s.cps.toList.length := rfl
    have hc : ∀ c, (match PyData.str ⟨#[c]⟩ with | .str y => inS y (PySem.Str.ofString "x.") | _ => false) = decide (c ∈ [120, 46]) := fun c => by
      show inS ⟨#[c]⟩ (PySem.Str.ofString "x.") = _
      rw [inS_one, xdot, tx_cps]
    have ha : ∀ e, gAll [.list ((s.cps.toList.map fun c => PyData.str ⟨#[c]⟩).map fun d => PyData.bool (match d with | .str y => inS y (PySem.Str.ofString "x.") | _ => false))] e = .ok (.sh (.bool (s.cps.toList.all fun c => decide (c ∈ [120, 46])))) e := fun e => by
      rw [gAll_map, List.all_map]
      congr 3
      exact List.all_congr rfl fun c => hc c
    have hi0 : ∀ (k : Int) (c : Nat) (e : En), atI s.cps.toList k = some c → itemE (.sh (.str s)) k e = .ok (.sh (.str ⟨#[c]⟩)) e := fun k c e h => by
      show (if s.length ≤ lim then match atI s.cps.toList k with | some c => R.ok (Ent.sh (.str ⟨#[c]⟩)) e | none => R.st else .st) = _
      rw [if_pos hs, h]
    have hsh : shpD (.str s) = shpL s.cps.toList := rfl
    rw [hsh]
    have hs' : s.cps.toList.length ≤ lim := hs
    generalize hcs : s.cps.toList = cs at *
    by_cases h1 : 1 ≤ cs.length
    · have h1' : (1 : Int) ≤ (cs.length : Int) := by omega
      by_cases h2 : cs.length ≤ 8
      · have h2' : (cs.length : Int) ≤ 8 := by omega
        cases h3 : cs.all fun c => decide (c ∈ [120, 46])
        · refine Run.ret (sl := [.sh (.str s), x']) ?_
          show f_is_shape ⟨[.sh (.str s), .no], wd⟩ = _
          have e : shpL cs = false := by unfold shpL; rw [h3]; simp
          rw [e]
          unfold f_is_shape
          simp only [bind_ok, bind_ex, bind_st, get_mk, set_mk, sSeq, sEx, sRet, sIf, sSet, sPass, sEx_, sBk, sAsg, sPar2, sPar3, thenS, dv, toD, eC, eN, eMv, eP, eBin, tst, eChain, tAndM, tOrM, tNotM, eAnd, eOr, eNot, eIf, toA, aNil, aCons, asDs, dvs, eTup, eLst, eCall, eIx, eIxN, itemE, eSl, pNo, pSo, cutD, gLen, eLenN, lenD, gList, gTuple, gN, gT, setAll, eMt, tyD, eIsi, gAdd, gSub, gDiv, gMod, gMul, gPow, gLt, gLe, gGt, gGe, gStr, gMin, gIn, gNotIn, gIs, gIsNot, isD, eLenSc, eIxSc, eScNil, eAppTn, sTown, tYesM, noEx_ok, itemG, stepS, iAll, itemsOf, iR1, iR2, wipeE, restE, keepE, sAug, gIadd, gImul, eApp, eExt, eNeg, List.getD_cons_zero, List.getD_cons_succ, List.set_cons_zero, List.set_cons_succ, List.getElem?_cons_zero, List.getElem?_cons_succ, Option.map_some, Option.map_none, Bool.not_true, Bool.not_false, beq_self_eq_true, if_true, if_false, ite_true, ite_false, Bool.false_eq_true, reduceIte, reduceCtorEq, lenL_0, lenL_1, lenL_2, lenL_3, lenL_4, lenL_5, lenL_6, lenL_7, lenL_8, lenL_9, lenL_10, lenL_11, lenL_12, isT, hs', hl, h1', h2', decide_true, hlc, ha, h3, beq_self_eq_true]
        · refine Run.ret (sl := [.sh (.str s), x']) ?_
          show f_is_shape ⟨[.sh (.str s), .no], wd⟩ = _
          have hne : cs ≠ [] := by intro e; rw [e] at h1; simp at h1
          have hok : ∀ c ∈ cs, PyData.strOk ⟨#[c]⟩ = true := fun c hc => by
            have := List.all_eq_true.mp h3 c hc
            have h := of_decide_eq_true this
            simp at h
            exact strOk_tx (cs := [c]) (by intro z hz; rw [List.mem_singleton.mp hz]; omega)
          have hx : PyData.strOk (PySem.Str.ofString "x") = true := by rw [ofx]; exact strOk_tx (by intro z hz; rw [List.mem_singleton.mp hz]; omega)
          obtain ⟨c, cs', hc'⟩ := List.exists_cons_of_ne_nil hne
          have a0 : atI cs 0 = some c := by rw [hc']; exact atI_0
          have a1 := atI_neg1 hne
          have n1 : (-(1 : Int)) = -1 := rfl
          have b0 : ∀ c, ((⟨#[c]⟩ : Str) == PySem.Str.ofString "x") = (c == 120) := fun c => by
            rw [ofx]
            show decide ((⟨#[c]⟩ : Str) = tx [120]) = _
            by_cases hh : c = 120
            · subst hh; rfl
            · rw [decide_eq_false (fun e => hh (by have := tx_inj (a := [c]) e; simpa using this))]
              simp [hh]
          have e : shpL cs = ((c == 120) && (cs.getLast hne == 120)) := by
            unfold shpL
            rw [decide_eq_true h1, decide_eq_true h2, h3, List.getLast?_eq_some_getLast hne, show cs.head? = some c by rw [hc']; rfl]
            simp
          rw [e]
          unfold f_is_shape
          simp only [bind_ok, bind_ex, bind_st, get_mk, set_mk, sSeq, sEx, sRet, sIf, sSet, sPass, sEx_, sBk, sAsg, sPar2, sPar3, thenS, dv, toD, eC, eN, eMv, eP, eBin, tst, eChain, tAndM, tOrM, tNotM, eAnd, eOr, eNot, eIf, toA, aNil, aCons, asDs, dvs, eTup, eLst, eCall, eIx, eIxN, itemE, eSl, pNo, pSo, cutD, gLen, eLenN, lenD, gList, gTuple, gN, gT, setAll, eMt, tyD, eIsi, gAdd, gSub, gDiv, gMod, gMul, gPow, gLt, gLe, gGt, gGe, gStr, gMin, gIn, gNotIn, gIs, gIsNot, isD, eLenSc, eIxSc, eScNil, eAppTn, sTown, tYesM, noEx_ok, itemG, stepS, iAll, itemsOf, iR1, iR2, wipeE, restE, keepE, sAug, gIadd, gImul, eApp, eExt, eNeg, List.getD_cons_zero, List.getD_cons_succ, List.set_cons_zero, List.set_cons_succ, List.getElem?_cons_zero, List.getElem?_cons_succ, Option.map_some, Option.map_none, Bool.not_true, Bool.not_false, beq_self_eq_true, if_true, if_false, ite_true, ite_false, Bool.false_eq_true, reduceIte, reduceCtorEq, lenL_0, lenL_1, lenL_2, lenL_3, lenL_4, lenL_5, lenL_6, lenL_7, lenL_8, lenL_9, lenL_10, lenL_11, lenL_12, isT, hs', hl, h1', h2', decide_true, hlc, ha, h3, beq_self_eq_true, hs, hcs, a0, n1, a1, gEq_str (hok _ (List.getLast_mem hne)) hx, gEq_str (hok c (by rw [hc']; simp)) hx, b0]
          cases c == 120 <;> simp only [bind_ok, bind_ex, bind_st, get_mk, set_mk, sSeq, sEx, sRet, sIf, sSet, sPass, sEx_, sBk, sAsg, sPar2, sPar3, thenS, dv, toD, eC, eN, eMv, eP, eBin, tst, eChain, tAndM, tOrM, tNotM, eAnd, eOr, eNot, eIf, toA, aNil, aCons, asDs, dvs, eTup, eLst, eCall, eIx, eIxN, itemE, eSl, pNo, pSo, cutD, gLen, eLenN, lenD, gList, gTuple, gN, gT, setAll, eMt, tyD, eIsi, gAdd, gSub, gDiv, gMod, gMul, gPow, gLt, gLe, gGt, gGe, gStr, gMin, gIn, gNotIn, gIs, gIsNot, isD, eLenSc, eIxSc, eScNil, eAppTn, sTown, tYesM, noEx_ok, itemG, stepS, iAll, itemsOf, iR1, iR2, wipeE, restE, keepE, sAug, gIadd, gImul, eApp, eExt, eNeg, List.getD_cons_zero, List.getD_cons_succ, List.set_cons_zero, List.set_cons_succ, List.getElem?_cons_zero, List.getElem?_cons_succ, Option.map_some, Option.map_none, Bool.not_true, Bool.not_false, beq_self_eq_true, if_true, if_false, ite_true, ite_false, Bool.false_eq_true, reduceIte, reduceCtorEq, lenL_0, lenL_1, lenL_2, lenL_3, lenL_4, lenL_5, lenL_6, lenL_7, lenL_8, lenL_9, lenL_10, lenL_11, lenL_12, Bool.true_and, Bool.false_and, hs, hcs, a0, n1, a1, gEq_str (hok _ (List.getLast_mem hne)) hx, b0]
      · refine Run.ret (sl := [.sh (.str s), .no]) ?_
        show f_is_shape ⟨[.sh (.str s), .no], wd⟩ = _
        have h2' : ¬ (cs.length : Int) ≤ 8 := by omega
        have e : shpL cs = false := by unfold shpL; rw [decide_eq_false h2]; simp
        rw [e]
        unfold f_is_shape
        simp only [bind_ok, bind_ex, bind_st, get_mk, set_mk, sSeq, sEx, sRet, sIf, sSet, sPass, sEx_, sBk, sAsg, sPar2, sPar3, thenS, dv, toD, eC, eN, eMv, eP, eBin, tst, eChain, tAndM, tOrM, tNotM, eAnd, eOr, eNot, eIf, toA, aNil, aCons, asDs, dvs, eTup, eLst, eCall, eIx, eIxN, itemE, eSl, pNo, pSo, cutD, gLen, eLenN, lenD, gList, gTuple, gN, gT, setAll, eMt, tyD, eIsi, gAdd, gSub, gDiv, gMod, gMul, gPow, gLt, gLe, gGt, gGe, gStr, gMin, gIn, gNotIn, gIs, gIsNot, isD, eLenSc, eIxSc, eScNil, eAppTn, sTown, tYesM, noEx_ok, itemG, stepS, iAll, itemsOf, iR1, iR2, wipeE, restE, keepE, sAug, gIadd, gImul, eApp, eExt, eNeg, List.getD_cons_zero, List.getD_cons_succ, List.set_cons_zero, List.set_cons_succ, List.getElem?_cons_zero, List.getElem?_cons_succ, Option.map_some, Option.map_none, Bool.not_true, Bool.not_false, beq_self_eq_true, if_true, if_false, ite_true, ite_false, Bool.false_eq_true, reduceIte, reduceCtorEq, lenL_0, lenL_1, lenL_2, lenL_3, lenL_4, lenL_5, lenL_6, lenL_7, lenL_8, lenL_9, lenL_10, lenL_11, lenL_12, isT, hs', hl, h1', h2', decide_true, decide_false, beq_self_eq_true]
    · refine Run.ret (sl := [.sh (.str s), .no]) ?_
      show f_is_shape ⟨[.sh (.str s), .no], wd⟩ = _
      have h1' : ¬ (1 : Int) ≤ (cs.length : Int) := by omega
      have e : shpL cs = false := by unfold shpL; rw [decide_eq_false h1]; simp
      rw [e]
      unfold f_is_shape
      simp only [bind_ok, bind_ex, bind_st, get_mk, set_mk, sSeq, sEx, sRet, sIf, sSet, sPass, sEx_, sBk, sAsg, sPar2, sPar3, thenS, dv, toD, eC, eN, eMv, eP, eBin, tst, eChain, tAndM, tOrM, tNotM, eAnd, eOr, eNot, eIf, toA, aNil, aCons, asDs, dvs, eTup, eLst, eCall, eIx, eIxN, itemE, eSl, pNo, pSo, cutD, gLen, eLenN, lenD, gList, gTuple, gN, gT, setAll, eMt, tyD, eIsi, gAdd, gSub, gDiv, gMod, gMul, gPow, gLt, gLe, gGt, gGe, gStr, gMin, gIn, gNotIn, gIs, gIsNot, isD, eLenSc, eIxSc, eScNil, eAppTn, sTown, tYesM, noEx_ok, itemG, stepS, iAll, itemsOf, iR1, iR2, wipeE, restE, keepE, sAug, gIadd, gImul, eApp, eExt, eNeg, List.getD_cons_zero, List.getD_cons_succ, List.set_cons_zero, List.set_cons_succ, List.getElem?_cons_zero, List.getElem?_cons_succ, Option.map_some, Option.map_none, Bool.not_true, Bool.not_false, beq_self_eq_true, if_true, if_false, ite_true, ite_false, Bool.false_eq_true, reduceIte, reduceCtorEq, lenL_0, lenL_1, lenL_2, lenL_3, lenL_4, lenL_5, lenL_6, lenL_7, lenL_8, lenL_9, lenL_10, lenL_11, lenL_12, isT, hs', hl, h1', decide_true, decide_false, beq_self_eq_true]
  | none => exact is_shape_no rfl
  | bool b => exact is_shape_no rfl
  | int b => exact is_shape_no rfl
  | list b => exact is_shape_no rfl
  | tuple b => exact is_shape_no rfl
  | dict b => exact is_shape_no rfl
end CO

/-! Mc: picks, some shape. -/
namespace CO
open PySem PySem.Spec PyProof.Rows L2

theorem gEq_int (i j : Int) (e : En) : gEq (.int i) (.int j) e = .ok (.sh (.bool (i == j))) e := by
  unfold gEq
  rw [if_pos ⟨rfl, rfl⟩]
  unfold PyData.eqv; rfl
theorem gNe_int (i j : Int) (e : En) : gNe (.int i) (.int j) e = .ok (.sh (.bool (!(i == j)))) e := by
  unfold gNe
  rw [if_pos ⟨rfl, rfl⟩]
  unfold PyData.eqv; rfl
theorem pick {ns : List Int} {k : Nat} {ds : List D} {wd : List Ob} (hl : ns.length ≤ 63) (hne : ds ≠ []) (hw : Tn k wd) (hk : k < lim) : ∃ d, d ∈ ds ∧ ∃ wd', Tn (k + 1) wd' ∧ Run m__law_pick [.sc ns, .wr 0, .sh (.list ds)] wd (.sh d) wd' := by
  obtain ⟨v, hv, wd', hw', h⟩ := draw (many := ds.length) hl (List.length_pos_iff.mpr hne) hw hk
  refine ⟨ds[v], List.getElem_mem hv, wd', hw', Run.ret (sl := [.sc ns, .wr 0, .sh (.list ds)]) ?_⟩
  show f__law_pick ⟨[.sc ns, .wr 0, .sh (.list ds)], wd⟩ = _
  have hcall := call_run (n := 3) (ms := aCons (eN 0) (aCons (eN 1) (aCons (eLenN 2) aNil))) (en := ⟨[.sc ns, .wr 0, .sh (.list ds)], wd⟩) (sl := [.sc ns, .wr 0, .sh (.list ds)]) (by simp only [bind_ok, bind_ex, bind_st, get_mk, set_mk, sSeq, sEx, sRet, sIf, sSet, sPass, sEx_, sBk, sAsg, sPar2, sPar3, thenS, dv, toD, eC, eN, eMv, eP, eBin, tst, eChain, tAndM, tOrM, tNotM, eAnd, eOr, eNot, eIf, toA, aNil, aCons, asDs, dvs, eTup, eLst, eCall, eIx, eIxN, itemE, eSl, pNo, pSo, cutD, gLen, eLenN, lenD, gList, gTuple, gN, gT, setAll, eMt, tyD, eIsi, gAdd, gSub, gDiv, gMod, gMul, gPow, gLt, gLe, gGt, gGe, gStr, gMin, gIn, gNotIn, gIs, gIsNot, isD, eLenSc, eIxSc, eScNil, eAppTn, sTown, tYesM, noEx_ok, itemG, stepS, iAll, itemsOf, iR1, iR2, wipeE, restE, keepE, sAug, gIadd, gImul, eApp, eExt, eNeg, List.getD_cons_zero, List.getD_cons_succ, List.set_cons_zero, List.set_cons_succ, List.getElem?_cons_zero, List.getElem?_cons_succ, Option.map_some, Option.map_none, Bool.not_true, Bool.not_false, beq_self_eq_true, if_true, if_false, ite_true, ite_false, Bool.false_eq_true, reduceIte, reduceCtorEq, lenL_0, lenL_1, lenL_2, lenL_3, lenL_4, lenL_5, lenL_6, lenL_7, lenL_8, lenL_9, lenL_10, lenL_11, lenL_12]) rfl h
  unfold f__law_pick
  simp only [bind_ok, bind_ex, bind_st, get_mk, set_mk, sSeq, sEx, sRet, sIf, sSet, sPass, sEx_, sBk, sAsg, sPar2, sPar3, thenS, dv, toD, eC, eN, eMv, eP, eBin, tst, eChain, tAndM, tOrM, tNotM, eAnd, eOr, eNot, eIf, toA, aNil, aCons, asDs, dvs, eTup, eLst, eCall, eIx, eIxN, itemE, eSl, pNo, pSo, cutD, gLen, eLenN, lenD, gList, gTuple, gN, gT, setAll, eMt, tyD, eIsi, gAdd, gSub, gDiv, gMod, gMul, gPow, gLt, gLe, gGt, gGe, gStr, gMin, gIn, gNotIn, gIs, gIsNot, isD, eLenSc, eIxSc, eScNil, eAppTn, sTown, tYesM, noEx_ok, itemG, stepS, iAll, itemsOf, iR1, iR2, wipeE, restE, keepE, sAug, gIadd, gImul, eApp, eExt, eNeg, List.getD_cons_zero, List.getD_cons_succ, List.set_cons_zero, List.set_cons_succ, List.getElem?_cons_zero, List.getElem?_cons_succ, Option.map_some, Option.map_none, Bool.not_true, Bool.not_false, beq_self_eq_true, if_true, if_false, ite_true, ite_false, Bool.false_eq_true, reduceIte, reduceCtorEq, lenL_0, lenL_1, lenL_2, lenL_3, lenL_4, lenL_5, lenL_6, lenL_7, lenL_8, lenL_9, lenL_10, lenL_11, lenL_12, hcall, atI_in hv]
theorem join_none (cs : List Nat) : Txt.join (tx []) (cs.map fun c => tx [c]) = tx cs := by
  rw [show Txt.join (tx []) (cs.map fun c => tx [c]) = Str.join (tx []) (cs.map fun c => tx [c]) from PySem.StrLaws.glued_eq_join _ _]
  induction cs with
  | nil => rfl
  | cons c cs ih =>
    cases cs with
    | nil => rfl
    | cons c2 cs2 =>
      show tx [c] ++ tx [] ++ Str.join (tx []) ((c2 :: cs2).map fun c => tx [c]) = _
      rw [ih, tx_app, tx_app]
      rfl
theorem signs_of {a b : Nat} : ∀ (xs : List D), (∀ d ∈ xs, d = .str (tx [a]) ∨ d = .str (tx [b])) → ∃ cs : List Nat, xs = cs.map (fun c => .str (tx [c])) ∧ ∀ c ∈ cs, c = a ∨ c = b
  | [], _ => ⟨[], rfl, fun c h => nomatch h⟩
  | d :: xs, h => by
    obtain ⟨cs, h1, h2⟩ := signs_of xs fun d m => h d (List.mem_cons_of_mem _ m)
    rcases h d List.mem_cons_self with rfl | rfl
    · exact ⟨a :: cs, by rw [h1]; rfl, fun c m => (List.mem_cons.mp m).elim .inl (h2 c)⟩
    · exact ⟨b :: cs, by rw [h1]; rfl, fun c m => (List.mem_cons.mp m).elim .inr (h2 c)⟩
theorem gJoin_ones {cs : List Nat} (h : cs.length ≤ lim) (e : En) : gJoin (.str (tx [])) [.list (cs.map fun c => PyData.str (tx [c]))] e = .ok (.sh (.str (tx cs))) e := by
  have e2 : ((cs.map fun c => tx [c]).map (fun s : Str => s.length)).sum = cs.length := by
    rw [List.map_map]
    show (cs.map fun c => (tx [c]).length).sum = _
    induction cs with
    | nil => rfl
    | cons c cs ih =>
      rw [List.map_cons, List.sum_cons, ih (Nat.le_of_succ_le h), tx_len, List.length_cons, List.length_cons, List.length_nil]
      omega
  have e1 : (cs.map fun c => PyData.str (tx [c])) = (cs.map fun c => tx [c]).map .str := by rw [List.map_map]; rfl
  rw [e1]
  show (match asStrs ((cs.map fun c => tx [c]).map .str) with | some ys => if (ys.map (fun s : Str => s.length)).sum + ys.length * (tx []).length ≤ lim then R.ok (Ent.sh (.str (Txt.join (tx []) ys))) e else .st | none => .st) = _
  rw [asStrs_map]
  show (if ((cs.map fun c => tx [c]).map (fun s : Str => s.length)).sum + (cs.map fun c => tx [c]).length * (tx []).length ≤ lim then R.ok (Ent.sh (.str (Txt.join (tx []) (cs.map fun c => tx [c])))) e else .st) = _
  rw [if_pos (by rw [e2, tx_len]; simpa using h), join_none]
theorem gAdd_tx {a b : List Nat} (h : a.length + b.length ≤ lim) (e : En) : gAdd (.str (tx a)) (.str (tx b)) e = .ok (.sh (.str (tx (a ++ b)))) e := by
  show (if (tx a).length + (tx b).length ≤ lim then R.ok (Ent.sh (.str (tx a ++ tx b))) e else .st) = _
  rw [tx_len, tx_len, if_pos h, tx_app]
theorem some_shape {ns : List Int} {k most : Nat} {wd : List Ob} (hl : ns.length ≤ 63) (hm : 1 ≤ most ∧ most ≤ 8) (hw : Tn k wd) (hk : k + 8 < lim) : ∃ cs, shpL cs = true ∧ cs.length ≤ most ∧ ∃ wd', Tn (k + 8) wd' ∧ Run m__law_some_shape [.sc ns, .wr 0, .sh (.int most)] wd (.sh (.str (tx cs))) wd' := by
  obtain ⟨v, hv, wd1, hw1, h1⟩ := draw (many := most) hl (by omega) hw (by omega)
  have hcall := call_run (n := 3) (ms := aCons (eN 0) (aCons (eN 1) (aCons (eN 2) aNil))) (en := ⟨[.sc ns, .wr 0, .sh (.int most), .no, .no], wd⟩) (sl := [.sc ns, .wr 0, .sh (.int most), .no, .no]) (by simp only [bind_ok, bind_ex, bind_st, get_mk, set_mk, sSeq, sEx, sRet, sIf, sSet, sPass, sEx_, sBk, sAsg, sPar2, sPar3, thenS, dv, toD, eC, eN, eMv, eP, eBin, tst, eChain, tAndM, tOrM, tNotM, eAnd, eOr, eNot, eIf, toA, aNil, aCons, asDs, dvs, eTup, eLst, eCall, eIx, eIxN, itemE, eSl, pNo, pSo, cutD, gLen, eLenN, lenD, gList, gTuple, gN, gT, setAll, eMt, tyD, eIsi, gAdd, gSub, gDiv, gMod, gMul, gPow, gLt, gLe, gGt, gGe, gStr, gMin, gIn, gNotIn, gIs, gIsNot, isD, eLenSc, eIxSc, eScNil, eAppTn, sTown, tYesM, noEx_ok, itemG, stepS, iAll, itemsOf, iR1, iR2, wipeE, restE, keepE, sAug, gIadd, gImul, eApp, eExt, eNeg, List.getD_cons_zero, List.getD_cons_succ, List.set_cons_zero, List.set_cons_succ, List.getElem?_cons_zero, List.getElem?_cons_succ, Option.map_some, Option.map_none, Bool.not_true, Bool.not_false, beq_self_eq_true, if_true, if_false, ite_true, ite_false, Bool.false_eq_true, reduceIte, reduceCtorEq, lenL_0, lenL_1, lenL_2, lenL_3, lenL_4, lenL_5, lenL_6, lenL_7, lenL_8, lenL_9, lenL_10, lenL_11, lenL_12]) rfl h1
  by_cases hz : v = 0
  · subst hz
    refine ⟨[120], by decide, by simp; omega, wd1, ?_, Run.ret (sl := [.sc ns, .wr 0, .sh (.int most), .sh (.int (1 + (0 : Nat))), .no]) ?_⟩
    · obtain ⟨j, h, e⟩ := hw1
      exact ⟨j, by omega, e⟩
    · show f__law_some_shape ⟨[.sc ns, .wr 0, .sh (.int most), .no, .no], wd⟩ = _
      unfold f__law_some_shape
      have h0 : (1 + ((0 : Nat) : Int) == 1) = true := by decide
      simp only [bind_ok, bind_ex, bind_st, get_mk, set_mk, sSeq, sEx, sRet, sIf, sSet, sPass, sEx_, sBk, sAsg, sPar2, sPar3, thenS, dv, toD, eC, eN, eMv, eP, eBin, tst, eChain, tAndM, tOrM, tNotM, eAnd, eOr, eNot, eIf, toA, aNil, aCons, asDs, dvs, eTup, eLst, eCall, eIx, eIxN, itemE, eSl, pNo, pSo, cutD, gLen, eLenN, lenD, gList, gTuple, gN, gT, setAll, eMt, tyD, eIsi, gAdd, gSub, gDiv, gMod, gMul, gPow, gLt, gLe, gGt, gGe, gStr, gMin, gIn, gNotIn, gIs, gIsNot, isD, eLenSc, eIxSc, eScNil, eAppTn, sTown, tYesM, noEx_ok, itemG, stepS, iAll, itemsOf, iR1, iR2, wipeE, restE, keepE, sAug, gIadd, gImul, eApp, eExt, eNeg, List.getD_cons_zero, List.getD_cons_succ, List.set_cons_zero, List.set_cons_succ, List.getElem?_cons_zero, List.getElem?_cons_succ, Option.map_some, Option.map_none, Bool.not_true, Bool.not_false, beq_self_eq_true, if_true, if_false, ite_true, ite_false, Bool.false_eq_true, reduceIte, reduceCtorEq, lenL_0, lenL_1, lenL_2, lenL_3, lenL_4, lenL_5, lenL_6, lenL_7, lenL_8, lenL_9, lenL_10, lenL_11, lenL_12, hcall, gEq_int, h0, ofx]
  · have hn : ((1 + (v : Int)) - 2) = ((v - 1 : Nat) : Int) := by omega
    have h0 : (1 + (v : Int) == 1) = false := by simp; omega
    have hr : ((v - 1 : Nat) : Int) ≤ 100000 ∧ -100000 ≤ ((v - 1 : Nat) : Int) := by omega
    have hlim : lim = 100000 := rfl
    obtain ⟨xs, e', h3, h4, h5, x, wd2, h6, h7⟩ := comp_some (S := Unit) (g := gN 4) (t := tYesM) (m := eCallF 3 m__law_pick (aCons (eN 0) (aCons (eN 1) (aCons (eLst (aCons (eC (.str (PySem.Str.ofString "."))) (aCons (eC (.str (PySem.Str.ofString "x"))) (aNil)))) (aNil))))) (vs := [4])
      (fun j e => ∃ (x : Ent) (wd2 : List Ob), Tn j wd2 ∧ e = ⟨[.sc ns, .wr 0, .sh (.int most), .sh (.int (1 + (v : Int))), x], wd2⟩) (fun d => d = .str (tx [46]) ∨ d = .str (tx [120])) (rangeL 0 (v - 1)) (k + 1) ⟨[.sc ns, .wr 0, .sh (.int most), .sh (.int (1 + (v : Int))), .no], wd1⟩ [] ⟨.no, wd1, hw1, rfl⟩ (by simp [rangeL]; omega) (fun d h => nomatch h) (by
        rintro d hd j e hj1 hj2 ⟨x, wd2, hw2, rfl⟩
        have hj3 : j < k + 1 + (v - 1) := by simpa [rangeL] using hj2
        obtain ⟨y, hy, wd3, hw3, hp⟩ := pick (ds := [.str (tx [46]), .str (tx [120])]) hl (by simp) hw2 (by omega)
        have hc2 := call_run (n := 3) (ms := aCons (eN 0) (aCons (eN 1) (aCons (eLst (aCons (eC (.str (PySem.Str.ofString "."))) (aCons (eC (.str (PySem.Str.ofString "x"))) (aNil)))) (aNil)))) (en := ⟨[.sc ns, .wr 0, .sh (.int most), .sh (.int (1 + (v : Int))), .sh d], wd2⟩) (sl := [.sc ns, .wr 0, .sh (.int most), .sh (.int (1 + (v : Int))), .sh d]) (by simp only [bind_ok, bind_ex, bind_st, get_mk, set_mk, sSeq, sEx, sRet, sIf, sSet, sPass, sEx_, sBk, sAsg, sPar2, sPar3, thenS, dv, toD, eC, eN, eMv, eP, eBin, tst, eChain, tAndM, tOrM, tNotM, eAnd, eOr, eNot, eIf, toA, aNil, aCons, asDs, dvs, eTup, eLst, eCall, eIx, eIxN, itemE, eSl, pNo, pSo, cutD, gLen, eLenN, lenD, gList, gTuple, gN, gT, setAll, eMt, tyD, eIsi, gAdd, gSub, gDiv, gMod, gMul, gPow, gLt, gLe, gGt, gGe, gStr, gMin, gIn, gNotIn, gIs, gIsNot, isD, eLenSc, eIxSc, eScNil, eAppTn, sTown, tYesM, noEx_ok, itemG, stepS, iAll, itemsOf, iR1, iR2, wipeE, restE, keepE, sAug, gIadd, gImul, eApp, eExt, eNeg, List.getD_cons_zero, List.getD_cons_succ, List.set_cons_zero, List.set_cons_succ, List.getElem?_cons_zero, List.getElem?_cons_succ, Option.map_some, Option.map_none, Bool.not_true, Bool.not_false, beq_self_eq_true, if_true, if_false, ite_true, ite_false, Bool.false_eq_true, reduceIte, reduceCtorEq, lenL_0, lenL_1, lenL_2, lenL_3, lenL_4, lenL_5, lenL_6, lenL_7, lenL_8, lenL_9, lenL_10, lenL_11, lenL_12, ofx, ofdot]) rfl hp
        refine ⟨y, ⟨[.sc ns, .wr 0, .sh (.int most), .sh (.int (1 + (v : Int))), .sh d], wd3⟩, ?_, by simpa using hy, .sh d, wd3, hw3, rfl⟩
        simp only [bind_ok, bind_ex, bind_st, get_mk, set_mk, sSeq, sEx, sRet, sIf, sSet, sPass, sEx_, sBk, sAsg, sPar2, sPar3, thenS, dv, toD, eC, eN, eMv, eP, eBin, tst, eChain, tAndM, tOrM, tNotM, eAnd, eOr, eNot, eIf, toA, aNil, aCons, asDs, dvs, eTup, eLst, eCall, eIx, eIxN, itemE, eSl, pNo, pSo, cutD, gLen, eLenN, lenD, gList, gTuple, gN, gT, setAll, eMt, tyD, eIsi, gAdd, gSub, gDiv, gMod, gMul, gPow, gLt, gLe, gGt, gGe, gStr, gMin, gIn, gNotIn, gIs, gIsNot, isD, eLenSc, eIxSc, eScNil, eAppTn, sTown, tYesM, noEx_ok, itemG, stepS, iAll, itemsOf, iR1, iR2, wipeE, restE, keepE, sAug, gIadd, gImul, eApp, eExt, eNeg, List.getD_cons_zero, List.getD_cons_succ, List.set_cons_zero, List.set_cons_succ, List.getElem?_cons_zero, List.getElem?_cons_succ, Option.map_some, Option.map_none, Bool.not_true, Bool.not_false, beq_self_eq_true, if_true, if_false, ite_true, ite_false, Bool.false_eq_true, reduceIte, reduceCtorEq, lenL_0, lenL_1, lenL_2, lenL_3, lenL_4, lenL_5, lenL_6, lenL_7, lenL_8, lenL_9, lenL_10, lenL_11, lenL_12, hc2])
    subst h7
    obtain ⟨cs, rfl, hcs⟩ := signs_of xs h5
    have hlen : cs.length = v - 1 := by simpa [rangeL] using h4
    refine ⟨120 :: cs ++ [120], ?_, by simp; omega, wd2, ?_, Run.ret (sl := [.sc ns, .wr 0, .sh (.int most), .sh (.int (1 + (v : Int))), .no]) ?_⟩
    · unfold shpL
      have q : (120 :: cs ++ [120]).getLast? = some 120 := by rw [List.getLast?_append]; rfl
      rw [q]
      simp
      refine ⟨by omega, fun c hc => ?_⟩
      rcases hcs c hc with h | h
      · exact .inr h
      · exact .inl h
    · obtain ⟨j, h, e⟩ := h6
      exact ⟨j, by have : (rangeL 0 (v - 1)).length = v - 1 := by simp [rangeL]
                   omega, e⟩
    · show f__law_some_shape ⟨[.sc ns, .wr 0, .sh (.int most), .no, .no], wd⟩ = _
      unfold f__law_some_shape
      have hlc := lc_run (mi := iR1 (eBin gSub (eN 3) (eC (.int 2)))) (en := ⟨[.sc ns, .wr 0, .sh (.int most), .sh (.int (1 + (v : Int))), .no], wd1⟩) (e := ⟨[.sc ns, .wr 0, .sh (.int most), .sh (.int (1 + (v : Int))), .no], wd1⟩) (by simp only [bind_ok, bind_ex, bind_st, get_mk, set_mk, sSeq, sEx, sRet, sIf, sSet, sPass, sEx_, sBk, sAsg, sPar2, sPar3, thenS, dv, toD, eC, eN, eMv, eP, eBin, tst, eChain, tAndM, tOrM, tNotM, eAnd, eOr, eNot, eIf, toA, aNil, aCons, asDs, dvs, eTup, eLst, eCall, eIx, eIxN, itemE, eSl, pNo, pSo, cutD, gLen, eLenN, lenD, gList, gTuple, gN, gT, setAll, eMt, tyD, eIsi, gAdd, gSub, gDiv, gMod, gMul, gPow, gLt, gLe, gGt, gGe, gStr, gMin, gIn, gNotIn, gIs, gIsNot, isD, eLenSc, eIxSc, eScNil, eAppTn, sTown, tYesM, noEx_ok, itemG, stepS, iAll, itemsOf, iR1, iR2, wipeE, restE, keepE, sAug, gIadd, gImul, eApp, eExt, eNeg, List.getD_cons_zero, List.getD_cons_succ, List.set_cons_zero, List.set_cons_succ, List.getElem?_cons_zero, List.getElem?_cons_succ, Option.map_some, Option.map_none, Bool.not_true, Bool.not_false, beq_self_eq_true, if_true, if_false, ite_true, ite_false, Bool.false_eq_true, reduceIte, reduceCtorEq, lenL_0, lenL_1, lenL_2, lenL_3, lenL_4, lenL_5, lenL_6, lenL_7, lenL_8, lenL_9, lenL_10, lenL_11, lenL_12, hn, hr, and_self, Int.toNat_natCast]) h3
      simp only [ofx] at hlc
      have g1 : (tx [120]).length + (tx cs).length ≤ lim := by rw [tx_len, tx_len]; simp; omega
      have g2 : (tx ([120] ++ cs)).length + (tx [120]).length ≤ lim := by rw [tx_len, tx_len]; simp; omega
      simp only [bind_ok, bind_ex, bind_st, get_mk, set_mk, sSeq, sEx, sRet, sIf, sSet, sPass, sEx_, sBk, sAsg, sPar2, sPar3, thenS, dv, toD, eC, eN, eMv, eP, eBin, tst, eChain, tAndM, tOrM, tNotM, eAnd, eOr, eNot, eIf, toA, aNil, aCons, asDs, dvs, eTup, eLst, eCall, eIx, eIxN, itemE, eSl, pNo, pSo, cutD, gLen, eLenN, lenD, gList, gTuple, gN, gT, setAll, eMt, tyD, eIsi, gAdd, gSub, gDiv, gMod, gMul, gPow, gLt, gLe, gGt, gGe, gStr, gMin, gIn, gNotIn, gIs, gIsNot, isD, eLenSc, eIxSc, eScNil, eAppTn, sTown, tYesM, noEx_ok, itemG, stepS, iAll, itemsOf, iR1, iR2, wipeE, restE, keepE, sAug, gIadd, gImul, eApp, eExt, eNeg, List.getD_cons_zero, List.getD_cons_succ, List.set_cons_zero, List.set_cons_succ, List.getElem?_cons_zero, List.getElem?_cons_succ, Option.map_some, Option.map_none, Bool.not_true, Bool.not_false, beq_self_eq_true, if_true, if_false, ite_true, ite_false, Bool.false_eq_true, reduceIte, reduceCtorEq, lenL_0, lenL_1, lenL_2, lenL_3, lenL_4, lenL_5, lenL_6, lenL_7, lenL_8, lenL_9, lenL_10, lenL_11, lenL_12, hcall, gEq_int, h0, ofx, ofnil, hlc, gJoin_ones (show cs.length ≤ lim by omega), gAdd_tx (a := [120]) (b := cs) (show 1 + cs.length ≤ lim by omega), beq_self_eq_true]
      simp only [bind_ok, bind_ex, bind_st, get_mk, set_mk, sSeq, sEx, sRet, sIf, sSet, sPass, sEx_, sBk, sAsg, sPar2, sPar3, thenS, dv, toD, eC, eN, eMv, eP, eBin, tst, eChain, tAndM, tOrM, tNotM, eAnd, eOr, eNot, eIf, toA, aNil, aCons, asDs, dvs, eTup, eLst, eCall, eIx, eIxN, itemE, eSl, pNo, pSo, cutD, gLen, eLenN, lenD, gList, gTuple, gN, gT, setAll, eMt, tyD, eIsi, gAdd, gSub, gDiv, gMod, gMul, gPow, gLt, gLe, gGt, gGe, gStr, gMin, gIn, gNotIn, gIs, gIsNot, isD, eLenSc, eIxSc, eScNil, eAppTn, sTown, tYesM, noEx_ok, itemG, stepS, iAll, itemsOf, iR1, iR2, wipeE, restE, keepE, sAug, gIadd, gImul, eApp, eExt, eNeg, List.getD_cons_zero, List.getD_cons_succ, List.set_cons_zero, List.set_cons_succ, List.getElem?_cons_zero, List.getElem?_cons_succ, Option.map_some, Option.map_none, Bool.not_true, Bool.not_false, beq_self_eq_true, if_true, if_false, ite_true, ite_false, Bool.false_eq_true, reduceIte, reduceCtorEq, lenL_0, lenL_1, lenL_2, lenL_3, lenL_4, lenL_5, lenL_6, lenL_7, lenL_8, lenL_9, lenL_10, lenL_11, lenL_12, g1, g2, tx_app]
      rfl
end CO

/-! Md: is_integer, is_game. -/
namespace CO
open PySem PySem.Spec PyProof.Rows L2

def intIn (d : D) (lo hi : Int) : Bool := match d with | .int i => decide (lo ≤ i) && decide (i ≤ hi) | _ => false
theorem is_integer_run {d : D} {lo hi : Int} {wd : List Ob} : Run m_is_integer [.sh d, .sh (.int lo), .sh (.int hi)] wd (.sh (.bool (intIn d lo hi))) wd := by
  refine Run.ret (sl := [.sh d, .sh (.int lo), .sh (.int hi)]) ?_
  show f_is_integer ⟨[.sh d, .sh (.int lo), .sh (.int hi)], wd⟩ = _
  unfold f_is_integer
  cases d with
  | int i =>
    by_cases h : lo ≤ i
    · simp only [bind_ok, bind_ex, bind_st, get_mk, set_mk, sSeq, sEx, sRet, sIf, sSet, sPass, sEx_, sBk, sAsg, sPar2, sPar3, thenS, dv, toD, eC, eN, eMv, eP, eBin, tst, eChain, tAndM, tOrM, tNotM, eAnd, eOr, eNot, eIf, toA, aNil, aCons, asDs, dvs, eTup, eLst, eCall, eIx, eIxN, itemE, eSl, pNo, pSo, cutD, gLen, eLenN, lenD, gList, gTuple, gN, gT, setAll, eMt, tyD, eIsi, gAdd, gSub, gDiv, gMod, gMul, gPow, gLt, gLe, gGt, gGe, gStr, gMin, gIn, gNotIn, gIs, gIsNot, isD, eLenSc, eIxSc, eScNil, eAppTn, sTown, tYesM, noEx_ok, itemG, stepS, iAll, itemsOf, iR1, iR2, wipeE, restE, keepE, sAug, gIadd, gImul, eApp, eExt, eNeg, List.getD_cons_zero, List.getD_cons_succ, List.set_cons_zero, List.set_cons_succ, List.getElem?_cons_zero, List.getElem?_cons_succ, Option.map_some, Option.map_none, Bool.not_true, Bool.not_false, beq_self_eq_true, if_true, if_false, ite_true, ite_false, Bool.false_eq_true, reduceIte, reduceCtorEq, lenL_0, lenL_1, lenL_2, lenL_3, lenL_4, lenL_5, lenL_6, lenL_7, lenL_8, lenL_9, lenL_10, lenL_11, lenL_12, isT_int_none, isT_int_bool, isT_int_int, isT_int_str, isT_int_list, isT_int_tuple, isT_bool_none, isT_bool_bool, isT_bool_int, isT_bool_str, isT_bool_list, isT_bool_tuple, isT_str_none, isT_str_bool, isT_str_int, isT_str_str, isT_str_list, isT_str_tuple, isT_tuple_none, isT_tuple_bool, isT_tuple_int, isT_tuple_str, isT_tuple_list, isT_tuple_tuple, isT_list_none, isT_list_bool, isT_list_int, isT_list_str, isT_list_list, isT_list_tuple, h, decide_true, intIn, Bool.true_and]
    · simp only [bind_ok, bind_ex, bind_st, get_mk, set_mk, sSeq, sEx, sRet, sIf, sSet, sPass, sEx_, sBk, sAsg, sPar2, sPar3, thenS, dv, toD, eC, eN, eMv, eP, eBin, tst, eChain, tAndM, tOrM, tNotM, eAnd, eOr, eNot, eIf, toA, aNil, aCons, asDs, dvs, eTup, eLst, eCall, eIx, eIxN, itemE, eSl, pNo, pSo, cutD, gLen, eLenN, lenD, gList, gTuple, gN, gT, setAll, eMt, tyD, eIsi, gAdd, gSub, gDiv, gMod, gMul, gPow, gLt, gLe, gGt, gGe, gStr, gMin, gIn, gNotIn, gIs, gIsNot, isD, eLenSc, eIxSc, eScNil, eAppTn, sTown, tYesM, noEx_ok, itemG, stepS, iAll, itemsOf, iR1, iR2, wipeE, restE, keepE, sAug, gIadd, gImul, eApp, eExt, eNeg, List.getD_cons_zero, List.getD_cons_succ, List.set_cons_zero, List.set_cons_succ, List.getElem?_cons_zero, List.getElem?_cons_succ, Option.map_some, Option.map_none, Bool.not_true, Bool.not_false, beq_self_eq_true, if_true, if_false, ite_true, ite_false, Bool.false_eq_true, reduceIte, reduceCtorEq, lenL_0, lenL_1, lenL_2, lenL_3, lenL_4, lenL_5, lenL_6, lenL_7, lenL_8, lenL_9, lenL_10, lenL_11, lenL_12, isT_int_none, isT_int_bool, isT_int_int, isT_int_str, isT_int_list, isT_int_tuple, isT_bool_none, isT_bool_bool, isT_bool_int, isT_bool_str, isT_bool_list, isT_bool_tuple, isT_str_none, isT_str_bool, isT_str_int, isT_str_str, isT_str_list, isT_str_tuple, isT_tuple_none, isT_tuple_bool, isT_tuple_int, isT_tuple_str, isT_tuple_list, isT_tuple_tuple, isT_list_none, isT_list_bool, isT_list_int, isT_list_str, isT_list_list, isT_list_tuple, h, decide_false, intIn, Bool.false_and]
  | dict s => simp only [bind_ok, bind_ex, bind_st, get_mk, set_mk, sSeq, sEx, sRet, sIf, sSet, sPass, sEx_, sBk, sAsg, sPar2, sPar3, thenS, dv, toD, eC, eN, eMv, eP, eBin, tst, eChain, tAndM, tOrM, tNotM, eAnd, eOr, eNot, eIf, toA, aNil, aCons, asDs, dvs, eTup, eLst, eCall, eIx, eIxN, itemE, eSl, pNo, pSo, cutD, gLen, eLenN, lenD, gList, gTuple, gN, gT, setAll, eMt, tyD, eIsi, gAdd, gSub, gDiv, gMod, gMul, gPow, gLt, gLe, gGt, gGe, gStr, gMin, gIn, gNotIn, gIs, gIsNot, isD, eLenSc, eIxSc, eScNil, eAppTn, sTown, tYesM, noEx_ok, itemG, stepS, iAll, itemsOf, iR1, iR2, wipeE, restE, keepE, sAug, gIadd, gImul, eApp, eExt, eNeg, List.getD_cons_zero, List.getD_cons_succ, List.set_cons_zero, List.set_cons_succ, List.getElem?_cons_zero, List.getElem?_cons_succ, Option.map_some, Option.map_none, Bool.not_true, Bool.not_false, beq_self_eq_true, if_true, if_false, ite_true, ite_false, Bool.false_eq_true, reduceIte, reduceCtorEq, lenL_0, lenL_1, lenL_2, lenL_3, lenL_4, lenL_5, lenL_6, lenL_7, lenL_8, lenL_9, lenL_10, lenL_11, lenL_12, isT, intIn]
  | _ => simp only [bind_ok, bind_ex, bind_st, get_mk, set_mk, sSeq, sEx, sRet, sIf, sSet, sPass, sEx_, sBk, sAsg, sPar2, sPar3, thenS, dv, toD, eC, eN, eMv, eP, eBin, tst, eChain, tAndM, tOrM, tNotM, eAnd, eOr, eNot, eIf, toA, aNil, aCons, asDs, dvs, eTup, eLst, eCall, eIx, eIxN, itemE, eSl, pNo, pSo, cutD, gLen, eLenN, lenD, gList, gTuple, gN, gT, setAll, eMt, tyD, eIsi, gAdd, gSub, gDiv, gMod, gMul, gPow, gLt, gLe, gGt, gGe, gStr, gMin, gIn, gNotIn, gIs, gIsNot, isD, eLenSc, eIxSc, eScNil, eAppTn, sTown, tYesM, noEx_ok, itemG, stepS, iAll, itemsOf, iR1, iR2, wipeE, restE, keepE, sAug, gIadd, gImul, eApp, eExt, eNeg, List.getD_cons_zero, List.getD_cons_succ, List.set_cons_zero, List.set_cons_succ, List.getElem?_cons_zero, List.getElem?_cons_succ, Option.map_some, Option.map_none, Bool.not_true, Bool.not_false, beq_self_eq_true, if_true, if_false, ite_true, ite_false, Bool.false_eq_true, reduceIte, reduceCtorEq, lenL_0, lenL_1, lenL_2, lenL_3, lenL_4, lenL_5, lenL_6, lenL_7, lenL_8, lenL_9, lenL_10, lenL_11, lenL_12, isT_int_none, isT_int_bool, isT_int_int, isT_int_str, isT_int_list, isT_int_tuple, isT_bool_none, isT_bool_bool, isT_bool_int, isT_bool_str, isT_bool_list, isT_bool_tuple, isT_str_none, isT_str_bool, isT_str_int, isT_str_str, isT_str_list, isT_str_tuple, isT_tuple_none, isT_tuple_bool, isT_tuple_int, isT_tuple_str, isT_tuple_list, isT_tuple_tuple, isT_list_none, isT_list_bool, isT_list_int, isT_list_str, isT_list_list, isT_list_tuple, intIn]
def asc : List (List Nat) → Bool
  | a :: b :: r => decide (a < b) && asc (b :: r)
  | _ => true
def strD (cs : List Nat) : D := .str (tx cs)
def lenOf : D → Int
  | .str s => s.length
  | _ => 0
def cpsOf : D → List Nat
  | .str s => s.cps.toList
  | _ => []
def intOf : D → Int
  | .int i => i
  | _ => 0
def shapesD : D → Int → Bool
  | .tuple ss, n => decide (1 ≤ ss.length) && decide (ss.length ≤ 3) && ss.all shpD && decide (maxI (ss.map lenOf) ≤ n) && asc (ss.map cpsOf)
  | _, _ => false
def gameD : D → Bool
  | .tuple [a, b, c] => intIn a 1 8 && isT "bool" c && shapesD b (intOf a)
  | _ => false
/-- all texts within a tuple are of a fair length -/
def gOk : D → Bool
  | .tuple [_, .tuple ss, _] => decide (ss.length ≤ lim) && ss.all txtOk
  | _ => true
theorem shp_strs : ∀ (ss : List D), ss.all shpD = true → ∃ css : List (List Nat), ss = css.map strD ∧ ∀ cs ∈ css, shpL cs = true
  | [], _ => ⟨[], rfl, fun c h => nomatch h⟩
  | d :: ss, h => by
    rw [List.all_cons, Bool.and_eq_true] at h
    obtain ⟨css, h1, h2⟩ := shp_strs ss h.2
    cases d with
    | str s => exact ⟨s.cps.toList :: css, by rw [h1]; rfl, fun c m => (List.mem_cons.mp m).elim (fun e => e ▸ h.1) (h2 c)⟩
    | _ => exact absurd h.1 Bool.false_ne_true
theorem cut1 {α : Type} (xs : List α) (h : 1 ≤ xs.length) : cutL xs (some 1) none = xs.drop 1 := by
  unfold cutL
  rw [show HT.sIx xs.length 0 (some 1) = 1 from by have := HT.sIx_nat xs.length 0 1; rw [show ((1 : Nat) : Int) = 1 from rfl] at this; rw [this]; omega, HT.sIx_none]
  exact List.take_of_length_le (by simp)
theorem zip_asc : ∀ (css : List (List Nat)), (zipL (css.map strD) ((css.map strD).drop 1)).all (fun d => match d with | .tuple [.str a, .str b] => decide (a.cps.toList < b.cps.toList) | _ => false) = asc css
  | [] => rfl
  | [a] => rfl
  | a :: b :: r => by
    have ih := zip_asc (b :: r)
    exact congrArg (fun z => decide (a < b) && z) ih
theorem asInts_lens : ∀ (css : List (List Nat)), asInts (css.map fun cs => PyData.int cs.length) = some (css.map fun cs => (cs.length : Int))
  | [] => rfl
  | c :: r => by
    show (asInts (r.map fun cs => PyData.int cs.length)).map (((c.length : Int)) :: ·) = _
    rw [asInts_lens r]; rfl
theorem max_le {ns : List Int} {n : Int} (h : ns ≠ []) : (maxI ns ≤ n) ↔ ∀ y ∈ ns, y ≤ n :=
  ⟨fun q y hy => Int.le_trans (maxI_ge ns y hy) q, fun q => q _ (maxI_mem ns h)⟩
theorem zip_mem : ∀ {xs ys : List D} {d : D}, d ∈ zipL xs ys → ∃ a b, a ∈ xs ∧ b ∈ ys ∧ d = .tuple [a, b]
  | [], _, _, h => by unfold zipL at h; cases h
  | _ :: _, [], _, h => by unfold zipL at h; cases h
  | x :: xs, y :: ys, d, h => by
    unfold zipL at h
    rcases List.mem_cons.mp h with e | h
    · exact ⟨x, y, List.mem_cons_self, List.mem_cons_self, e⟩
    · obtain ⟨a, b, h1, h2, h3⟩ := zip_mem h
      exact ⟨a, b, List.mem_cons_of_mem _ h1, List.mem_cons_of_mem _ h2, h3⟩
def ltD (d : D) : Bool := match d with | .tuple [.str a, .str b] => decide (a.cps.toList < b.cps.toList) | _ => false
theorem zipL_le : ∀ (xs ys : List D), (zipL xs ys).length ≤ xs.length
  | [], _ => by unfold zipL; exact Nat.le_refl _
  | _ :: _, [] => by unfold zipL; exact Nat.zero_le _
  | x :: xs, y :: ys => by unfold zipL; simp; exact zipL_le xs ys
theorem gMax_map {ds : List D} {f : D → Int} (h : ds ≠ []) (e : En) : gMax [.list (ds.map fun d => .int (f d))] e = .ok (.sh (.int (maxI (ds.map f)))) e := by
  have e1 : ds.map (fun d => PyData.int (f d)) = (ds.map f).map .int := by rw [List.map_map]; rfl
  rw [e1]
  show (match asInts ((ds.map f).map .int) with | some ns => if ns = [] then R.st else R.ok (Ent.sh (.int (maxI ns))) e | none => .st) = _
  rw [asInts_map]
  show (if ds.map f = [] then R.st else R.ok (Ent.sh (.int (maxI (ds.map f)))) e) = _
  rw [if_neg (by simpa using h)]
theorem is_game_run {d : D} {wd : List Ob} (hok : gOk d = true) : Run m_is_game [.sh d] wd (.sh (.bool (gameD d))) wd := by
  have no : ∀ (d : D), isT "tuple" d = false → Run m_is_game [.sh d] wd (.sh (.bool false)) wd := fun d h => by
    refine Run.ret (sl := [.sh d, .no, .no, .no, .no, .no]) ?_
    show f_is_game ⟨[.sh d, .no, .no, .no, .no, .no], wd⟩ = _
    unfold f_is_game
    simp only [bind_ok, bind_ex, bind_st, get_mk, set_mk, sSeq, sEx, sRet, sIf, sSet, sPass, sEx_, sBk, sAsg, sPar2, sPar3, thenS, dv, toD, eC, eN, eMv, eP, eBin, tst, eChain, tAndM, tOrM, tNotM, eAnd, eOr, eNot, eIf, toA, aNil, aCons, asDs, dvs, eTup, eLst, eCall, eIx, eIxN, itemE, eSl, pNo, pSo, cutD, gLen, eLenN, lenD, gList, gTuple, gN, gT, setAll, eMt, tyD, eIsi, gAdd, gSub, gDiv, gMod, gMul, gPow, gLt, gLe, gGt, gGe, gStr, gMin, gIn, gNotIn, gIs, gIsNot, isD, eLenSc, eIxSc, eScNil, eAppTn, sTown, tYesM, noEx_ok, itemG, stepS, iAll, itemsOf, iR1, iR2, wipeE, restE, keepE, sAug, gIadd, gImul, eApp, eExt, eNeg, List.getD_cons_zero, List.getD_cons_succ, List.set_cons_zero, List.set_cons_succ, List.getElem?_cons_zero, List.getElem?_cons_succ, Option.map_some, Option.map_none, Bool.not_true, Bool.not_false, beq_self_eq_true, if_true, if_false, ite_true, ite_false, Bool.false_eq_true, reduceIte, reduceCtorEq, lenL_0, lenL_1, lenL_2, lenL_3, lenL_4, lenL_5, lenL_6, lenL_7, lenL_8, lenL_9, lenL_10, lenL_11, lenL_12, h]
  have no3 : ∀ (ds : List D), ds.length ≠ 3 → Run m_is_game [.sh (.tuple ds)] wd (.sh (.bool false)) wd := fun ds h => by
    refine Run.ret (sl := [.sh (.tuple ds), .no, .no, .no, .no, .no]) ?_
    show f_is_game ⟨[.sh (.tuple ds), .no, .no, .no, .no, .no], wd⟩ = _
    have h3 : ((ds.length : Int) == 3) = false := by simp; omega
    unfold f_is_game
    simp only [bind_ok, bind_ex, bind_st, get_mk, set_mk, sSeq, sEx, sRet, sIf, sSet, sPass, sEx_, sBk, sAsg, sPar2, sPar3, thenS, dv, toD, eC, eN, eMv, eP, eBin, tst, eChain, tAndM, tOrM, tNotM, eAnd, eOr, eNot, eIf, toA, aNil, aCons, asDs, dvs, eTup, eLst, eCall, eIx, eIxN, itemE, eSl, pNo, pSo, cutD, gLen, eLenN, lenD, gList, gTuple, gN, gT, setAll, eMt, tyD, eIsi, gAdd, gSub, gDiv, gMod, gMul, gPow, gLt, gLe, gGt, gGe, gStr, gMin, gIn, gNotIn, gIs, gIsNot, isD, eLenSc, eIxSc, eScNil, eAppTn, sTown, tYesM, noEx_ok, itemG, stepS, iAll, itemsOf, iR1, iR2, wipeE, restE, keepE, sAug, gIadd, gImul, eApp, eExt, eNeg, List.getD_cons_zero, List.getD_cons_succ, List.set_cons_zero, List.set_cons_succ, List.getElem?_cons_zero, List.getElem?_cons_succ, Option.map_some, Option.map_none, Bool.not_true, Bool.not_false, beq_self_eq_true, if_true, if_false, ite_true, ite_false, Bool.false_eq_true, reduceIte, reduceCtorEq, lenL_0, lenL_1, lenL_2, lenL_3, lenL_4, lenL_5, lenL_6, lenL_7, lenL_8, lenL_9, lenL_10, lenL_11, lenL_12, isT, beq_self_eq_true, gNe_int, h3]
  cases d with
  | none => exact no _ rfl
  | bool b => exact no _ rfl
  | int b => exact no _ rfl
  | str b => exact no _ rfl
  | list b => exact no _ rfl
  | dict b => exact no _ rfl
  | tuple ds =>
    match ds, hok with
    | [], _ => exact no3 [] (by simp)
    | [x], _ => exact no3 [x] (by simp)
    | [x, y], _ => exact no3 [x, y] (by simp)
    | x :: y :: z :: u :: r, _ => exact no3 (x :: y :: z :: u :: r) (by simp)
    | [a, b, c], hok =>
      have h3 : (((0 + 1 + 1 + 1 : Nat) : Int) == 3) = true := by decide
      have st : ∀ (x4 x5 : Ent) , eCallF 3 m_is_integer (aCons (eN 1) (aCons (eC (.int 1)) (aCons (eC (.int 8)) aNil))) ⟨[.sh (.tuple [a, b, c]), .sh a, .sh b, .sh c, x4, x5], wd⟩ = .ok (.sh (.bool (intIn a 1 8))) ⟨[.sh (.tuple [a, b, c]), .sh a, .sh b, .sh c, x4, x5], wd⟩ := fun x4 x5 =>
        call_run (sl := [.sh (.tuple [a, b, c]), .sh a, .sh b, .sh c, x4, x5]) (by simp only [bind_ok, bind_ex, bind_st, get_mk, set_mk, sSeq, sEx, sRet, sIf, sSet, sPass, sEx_, sBk, sAsg, sPar2, sPar3, thenS, dv, toD, eC, eN, eMv, eP, eBin, tst, eChain, tAndM, tOrM, tNotM, eAnd, eOr, eNot, eIf, toA, aNil, aCons, asDs, dvs, eTup, eLst, eCall, eIx, eIxN, itemE, eSl, pNo, pSo, cutD, gLen, eLenN, lenD, gList, gTuple, gN, gT, setAll, eMt, tyD, eIsi, gAdd, gSub, gDiv, gMod, gMul, gPow, gLt, gLe, gGt, gGe, gStr, gMin, gIn, gNotIn, gIs, gIsNot, isD, eLenSc, eIxSc, eScNil, eAppTn, sTown, tYesM, noEx_ok, itemG, stepS, iAll, itemsOf, iR1, iR2, wipeE, restE, keepE, sAug, gIadd, gImul, eApp, eExt, eNeg, List.getD_cons_zero, List.getD_cons_succ, List.set_cons_zero, List.set_cons_succ, List.getElem?_cons_zero, List.getElem?_cons_succ, Option.map_some, Option.map_none, Bool.not_true, Bool.not_false, beq_self_eq_true, if_true, if_false, ite_true, ite_false, Bool.false_eq_true, reduceIte, reduceCtorEq, lenL_0, lenL_1, lenL_2, lenL_3, lenL_4, lenL_5, lenL_6, lenL_7, lenL_8, lenL_9, lenL_10, lenL_11, lenL_12]) rfl is_integer_run
      have run0 : ∀ v, f_is_game ⟨[.sh (.tuple [a, b, c]), .no, .no, .no, .no, .no], wd⟩ = .ok (.rt (.sh (.bool v))) ⟨[.sh (.tuple [a, b, c]), .sh a, .sh b, .sh c, .no, .no], wd⟩ → Run m_is_game [.sh (.tuple [a, b, c])] wd (.sh (.bool v)) wd := fun v h => Run.ret (sl := [.sh (.tuple [a, b, c]), .sh a, .sh b, .sh c, .no, .no]) h
      show Run m_is_game [.sh (.tuple [a, b, c])] wd (.sh (.bool (intIn a 1 8 && isT "bool" c && shapesD b (intOf a)))) wd
      cases h1 : intIn a 1 8
      · refine run0 _ ?_
        unfold f_is_game
        simp only [bind_ok, bind_ex, bind_st, get_mk, set_mk, sSeq, sEx, sRet, sIf, sSet, sPass, sEx_, sBk, sAsg, sPar2, sPar3, thenS, dv, toD, eC, eN, eMv, eP, eBin, tst, eChain, tAndM, tOrM, tNotM, eAnd, eOr, eNot, eIf, toA, aNil, aCons, asDs, dvs, eTup, eLst, eCall, eIx, eIxN, itemE, eSl, pNo, pSo, cutD, gLen, eLenN, lenD, gList, gTuple, gN, gT, setAll, eMt, tyD, eIsi, gAdd, gSub, gDiv, gMod, gMul, gPow, gLt, gLe, gGt, gGe, gStr, gMin, gIn, gNotIn, gIs, gIsNot, isD, eLenSc, eIxSc, eScNil, eAppTn, sTown, tYesM, noEx_ok, itemG, stepS, iAll, itemsOf, iR1, iR2, wipeE, restE, keepE, sAug, gIadd, gImul, eApp, eExt, eNeg, List.getD_cons_zero, List.getD_cons_succ, List.set_cons_zero, List.set_cons_succ, List.getElem?_cons_zero, List.getElem?_cons_succ, Option.map_some, Option.map_none, Bool.not_true, Bool.not_false, beq_self_eq_true, if_true, if_false, ite_true, ite_false, Bool.false_eq_true, reduceIte, reduceCtorEq, lenL_0, lenL_1, lenL_2, lenL_3, lenL_4, lenL_5, lenL_6, lenL_7, lenL_8, lenL_9, lenL_10, lenL_11, lenL_12, isT_int_none, isT_int_bool, isT_int_int, isT_int_str, isT_int_list, isT_int_tuple, isT_bool_none, isT_bool_bool, isT_bool_int, isT_bool_str, isT_bool_list, isT_bool_tuple, isT_str_none, isT_str_bool, isT_str_int, isT_str_str, isT_str_list, isT_str_tuple, isT_tuple_none, isT_tuple_bool, isT_tuple_int, isT_tuple_str, isT_tuple_list, isT_tuple_tuple, isT_list_none, isT_list_bool, isT_list_int, isT_list_str, isT_list_list, isT_list_tuple, gNe_int, h3, st, h1, List.length_cons, List.length_nil, Bool.false_and]
      · cases h2 : isT "bool" c
        · refine run0 _ ?_
          unfold f_is_game
          simp only [bind_ok, bind_ex, bind_st, get_mk, set_mk, sSeq, sEx, sRet, sIf, sSet, sPass, sEx_, sBk, sAsg, sPar2, sPar3, thenS, dv, toD, eC, eN, eMv, eP, eBin, tst, eChain, tAndM, tOrM, tNotM, eAnd, eOr, eNot, eIf, toA, aNil, aCons, asDs, dvs, eTup, eLst, eCall, eIx, eIxN, itemE, eSl, pNo, pSo, cutD, gLen, eLenN, lenD, gList, gTuple, gN, gT, setAll, eMt, tyD, eIsi, gAdd, gSub, gDiv, gMod, gMul, gPow, gLt, gLe, gGt, gGe, gStr, gMin, gIn, gNotIn, gIs, gIsNot, isD, eLenSc, eIxSc, eScNil, eAppTn, sTown, tYesM, noEx_ok, itemG, stepS, iAll, itemsOf, iR1, iR2, wipeE, restE, keepE, sAug, gIadd, gImul, eApp, eExt, eNeg, List.getD_cons_zero, List.getD_cons_succ, List.set_cons_zero, List.set_cons_succ, List.getElem?_cons_zero, List.getElem?_cons_succ, Option.map_some, Option.map_none, Bool.not_true, Bool.not_false, beq_self_eq_true, if_true, if_false, ite_true, ite_false, Bool.false_eq_true, reduceIte, reduceCtorEq, lenL_0, lenL_1, lenL_2, lenL_3, lenL_4, lenL_5, lenL_6, lenL_7, lenL_8, lenL_9, lenL_10, lenL_11, lenL_12, isT_int_none, isT_int_bool, isT_int_int, isT_int_str, isT_int_list, isT_int_tuple, isT_bool_none, isT_bool_bool, isT_bool_int, isT_bool_str, isT_bool_list, isT_bool_tuple, isT_str_none, isT_str_bool, isT_str_int, isT_str_str, isT_str_list, isT_str_tuple, isT_tuple_none, isT_tuple_bool, isT_tuple_int, isT_tuple_str, isT_tuple_list, isT_tuple_tuple, isT_list_none, isT_list_bool, isT_list_int, isT_list_str, isT_list_list, isT_list_tuple, gNe_int, h3, st, h1, h2, List.length_cons, List.length_nil, Bool.false_and, Bool.and_false]
        · cases hb : isT "tuple" b
          · refine run0 _ ?_
            have e : shapesD b (intOf a) = false := by
              cases b with
              | tuple ss => cases hb
              | _ => rfl
            rw [e]
            unfold f_is_game
            simp only [bind_ok, bind_ex, bind_st, get_mk, set_mk, sSeq, sEx, sRet, sIf, sSet, sPass, sEx_, sBk, sAsg, sPar2, sPar3, thenS, dv, toD, eC, eN, eMv, eP, eBin, tst, eChain, tAndM, tOrM, tNotM, eAnd, eOr, eNot, eIf, toA, aNil, aCons, asDs, dvs, eTup, eLst, eCall, eIx, eIxN, itemE, eSl, pNo, pSo, cutD, gLen, eLenN, lenD, gList, gTuple, gN, gT, setAll, eMt, tyD, eIsi, gAdd, gSub, gDiv, gMod, gMul, gPow, gLt, gLe, gGt, gGe, gStr, gMin, gIn, gNotIn, gIs, gIsNot, isD, eLenSc, eIxSc, eScNil, eAppTn, sTown, tYesM, noEx_ok, itemG, stepS, iAll, itemsOf, iR1, iR2, wipeE, restE, keepE, sAug, gIadd, gImul, eApp, eExt, eNeg, List.getD_cons_zero, List.getD_cons_succ, List.set_cons_zero, List.set_cons_succ, List.getElem?_cons_zero, List.getElem?_cons_succ, Option.map_some, Option.map_none, Bool.not_true, Bool.not_false, beq_self_eq_true, if_true, if_false, ite_true, ite_false, Bool.false_eq_true, reduceIte, reduceCtorEq, lenL_0, lenL_1, lenL_2, lenL_3, lenL_4, lenL_5, lenL_6, lenL_7, lenL_8, lenL_9, lenL_10, lenL_11, lenL_12, isT_int_none, isT_int_bool, isT_int_int, isT_int_str, isT_int_list, isT_int_tuple, isT_bool_none, isT_bool_bool, isT_bool_int, isT_bool_str, isT_bool_list, isT_bool_tuple, isT_str_none, isT_str_bool, isT_str_int, isT_str_str, isT_str_list, isT_str_tuple, isT_tuple_none, isT_tuple_bool, isT_tuple_int, isT_tuple_str, isT_tuple_list, isT_tuple_tuple, isT_list_none, isT_list_bool, isT_list_int, isT_list_str, isT_list_list, isT_list_tuple, gNe_int, h3, st, h1, h2, hb, List.length_cons, List.length_nil, Bool.false_and, Bool.and_false]
          · cases b with
            | tuple ss =>
              have hok1 : ss.length ≤ lim ∧ ss.all txtOk = true := by
                have h : (decide (ss.length ≤ lim) && ss.all txtOk) = true := hok
                rw [Bool.and_eq_true] at h
                exact ⟨of_decide_eq_true h.1, h.2⟩
              have hlc : eLc (iAll (eN 2)) (gN 4) tYesM (eCallF 1 m_is_shape (aCons (eN 4) aNil)) [4] ⟨[.sh (.tuple [a, .tuple ss, c]), .sh a, .sh (.tuple ss), .sh c, .no, .no], wd⟩ = .ok (.ow (ss.map fun d => .bool (shpD d))) ⟨[.sh (.tuple [a, .tuple ss, c]), .sh a, .sh (.tuple ss), .sh c, .no, .no], wd⟩ := by
                obtain ⟨e', h1, x', h2⟩ := comp_map (g := gN 4) (t := tYesM) (m := eCallF 1 m_is_shape (aCons (eN 4) aNil)) (vs := [4]) (fun e => ∃ x, e = ⟨[.sh (.tuple [a, .tuple ss, c]), .sh a, .sh (.tuple ss), .sh c, x, .no], wd⟩) (fun d => .bool (shpD d)) ss ⟨[.sh (.tuple [a, .tuple ss, c]), .sh a, .sh (.tuple ss), .sh c, .no, .no], wd⟩ ⟨.no, rfl⟩ hok1.1 (by
                  rintro d hd e ⟨x, rfl⟩
                  have hc := call_run (n := 1) (ms := aCons (eN 4) aNil) (en := ⟨[.sh (.tuple [a, .tuple ss, c]), .sh a, .sh (.tuple ss), .sh c, .sh d, .no], wd⟩) (sl := [.sh (.tuple [a, .tuple ss, c]), .sh a, .sh (.tuple ss), .sh c, .sh d, .no]) (by simp only [bind_ok, bind_ex, bind_st, get_mk, set_mk, sSeq, sEx, sRet, sIf, sSet, sPass, sEx_, sBk, sAsg, sPar2, sPar3, thenS, dv, toD, eC, eN, eMv, eP, eBin, tst, eChain, tAndM, tOrM, tNotM, eAnd, eOr, eNot, eIf, toA, aNil, aCons, asDs, dvs, eTup, eLst, eCall, eIx, eIxN, itemE, eSl, pNo, pSo, cutD, gLen, eLenN, lenD, gList, gTuple, gN, gT, setAll, eMt, tyD, eIsi, gAdd, gSub, gDiv, gMod, gMul, gPow, gLt, gLe, gGt, gGe, gStr, gMin, gIn, gNotIn, gIs, gIsNot, isD, eLenSc, eIxSc, eScNil, eAppTn, sTown, tYesM, noEx_ok, itemG, stepS, iAll, itemsOf, iR1, iR2, wipeE, restE, keepE, sAug, gIadd, gImul, eApp, eExt, eNeg, List.getD_cons_zero, List.getD_cons_succ, List.set_cons_zero, List.set_cons_succ, List.getElem?_cons_zero, List.getElem?_cons_succ, Option.map_some, Option.map_none, Bool.not_true, Bool.not_false, beq_self_eq_true, if_true, if_false, ite_true, ite_false, Bool.false_eq_true, reduceIte, reduceCtorEq, lenL_0, lenL_1, lenL_2, lenL_3, lenL_4, lenL_5, lenL_6, lenL_7, lenL_8, lenL_9, lenL_10, lenL_11, lenL_12]) rfl (is_shape_run (wd := wd) (List.all_eq_true.mp hok1.2 d hd))
                  exact ⟨⟨[.sh (.tuple [a, .tuple ss, c]), .sh a, .sh (.tuple ss), .sh c, .sh d, .no], wd⟩, by simp only [bind_ok, bind_ex, bind_st, get_mk, set_mk, sSeq, sEx, sRet, sIf, sSet, sPass, sEx_, sBk, sAsg, sPar2, sPar3, thenS, dv, toD, eC, eN, eMv, eP, eBin, tst, eChain, tAndM, tOrM, tNotM, eAnd, eOr, eNot, eIf, toA, aNil, aCons, asDs, dvs, eTup, eLst, eCall, eIx, eIxN, itemE, eSl, pNo, pSo, cutD, gLen, eLenN, lenD, gList, gTuple, gN, gT, setAll, eMt, tyD, eIsi, gAdd, gSub, gDiv, gMod, gMul, gPow, gLt, gLe, gGt, gGe, gStr, gMin, gIn, gNotIn, gIs, gIsNot, isD, eLenSc, eIxSc, eScNil, eAppTn, sTown, tYesM, noEx_ok, itemG, stepS, iAll, itemsOf, iR1, iR2, wipeE, restE, keepE, sAug, gIadd, gImul, eApp, eExt, eNeg, List.getD_cons_zero, List.getD_cons_succ, List.set_cons_zero, List.set_cons_succ, List.getElem?_cons_zero, List.getElem?_cons_succ, Option.map_some, Option.map_none, Bool.not_true, Bool.not_false, beq_self_eq_true, if_true, if_false, ite_true, ite_false, Bool.false_eq_true, reduceIte, reduceCtorEq, lenL_0, lenL_1, lenL_2, lenL_3, lenL_4, lenL_5, lenL_6, lenL_7, lenL_8, lenL_9, lenL_10, lenL_11, lenL_12, hc], .sh d, rfl⟩)
                subst h2
                refine (lc_run (e := ⟨[.sh (.tuple [a, .tuple ss, c]), .sh a, .sh (.tuple ss), .sh c, .no, .no], wd⟩) (by simp only [bind_ok, bind_ex, bind_st, get_mk, set_mk, sSeq, sEx, sRet, sIf, sSet, sPass, sEx_, sBk, sAsg, sPar2, sPar3, thenS, dv, toD, eC, eN, eMv, eP, eBin, tst, eChain, tAndM, tOrM, tNotM, eAnd, eOr, eNot, eIf, toA, aNil, aCons, asDs, dvs, eTup, eLst, eCall, eIx, eIxN, itemE, eSl, pNo, pSo, cutD, gLen, eLenN, lenD, gList, gTuple, gN, gT, setAll, eMt, tyD, eIsi, gAdd, gSub, gDiv, gMod, gMul, gPow, gLt, gLe, gGt, gGe, gStr, gMin, gIn, gNotIn, gIs, gIsNot, isD, eLenSc, eIxSc, eScNil, eAppTn, sTown, tYesM, noEx_ok, itemG, stepS, iAll, itemsOf, iR1, iR2, wipeE, restE, keepE, sAug, gIadd, gImul, eApp, eExt, eNeg, List.getD_cons_zero, List.getD_cons_succ, List.set_cons_zero, List.set_cons_succ, List.getElem?_cons_zero, List.getElem?_cons_succ, Option.map_some, Option.map_none, Bool.not_true, Bool.not_false, beq_self_eq_true, if_true, if_false, ite_true, ite_false, Bool.false_eq_true, reduceIte, reduceCtorEq, lenL_0, lenL_1, lenL_2, lenL_3, lenL_4, lenL_5, lenL_6, lenL_7, lenL_8, lenL_9, lenL_10, lenL_11, lenL_12]) h1).trans ?_
                simp only [bind_ok, bind_ex, bind_st, get_mk, set_mk, sSeq, sEx, sRet, sIf, sSet, sPass, sEx_, sBk, sAsg, sPar2, sPar3, thenS, dv, toD, eC, eN, eMv, eP, eBin, tst, eChain, tAndM, tOrM, tNotM, eAnd, eOr, eNot, eIf, toA, aNil, aCons, asDs, dvs, eTup, eLst, eCall, eIx, eIxN, itemE, eSl, pNo, pSo, cutD, gLen, eLenN, lenD, gList, gTuple, gN, gT, setAll, eMt, tyD, eIsi, gAdd, gSub, gDiv, gMod, gMul, gPow, gLt, gLe, gGt, gGe, gStr, gMin, gIn, gNotIn, gIs, gIsNot, isD, eLenSc, eIxSc, eScNil, eAppTn, sTown, tYesM, noEx_ok, itemG, stepS, iAll, itemsOf, iR1, iR2, wipeE, restE, keepE, sAug, gIadd, gImul, eApp, eExt, eNeg, List.getD_cons_zero, List.getD_cons_succ, List.set_cons_zero, List.set_cons_succ, List.getElem?_cons_zero, List.getElem?_cons_succ, Option.map_some, Option.map_none, Bool.not_true, Bool.not_false, beq_self_eq_true, if_true, if_false, ite_true, ite_false, Bool.false_eq_true, reduceIte, reduceCtorEq, lenL_0, lenL_1, lenL_2, lenL_3, lenL_4, lenL_5, lenL_6, lenL_7, lenL_8, lenL_9, lenL_10, lenL_11, lenL_12]
              by_cases h4 : 1 ≤ ss.length
              · have h4' : (1 : Int) ≤ (ss.length : Int) := by omega
                by_cases h5 : ss.length ≤ 3
                · have h5' : (ss.length : Int) ≤ 3 := by omega
                  cases h6 : ss.all shpD
                  · refine run0 _ ?_
                    have e : shapesD (.tuple ss) (intOf a) = false := by
                      show (decide _ && decide _ && ss.all shpD && _ && _) = false
                      rw [h6]; simp
                    rw [e]
                    unfold f_is_game
                    simp only [bind_ok, bind_ex, bind_st, get_mk, set_mk, sSeq, sEx, sRet, sIf, sSet, sPass, sEx_, sBk, sAsg, sPar2, sPar3, thenS, dv, toD, eC, eN, eMv, eP, eBin, tst, eChain, tAndM, tOrM, tNotM, eAnd, eOr, eNot, eIf, toA, aNil, aCons, asDs, dvs, eTup, eLst, eCall, eIx, eIxN, itemE, eSl, pNo, pSo, cutD, gLen, eLenN, lenD, gList, gTuple, gN, gT, setAll, eMt, tyD, eIsi, gAdd, gSub, gDiv, gMod, gMul, gPow, gLt, gLe, gGt, gGe, gStr, gMin, gIn, gNotIn, gIs, gIsNot, isD, eLenSc, eIxSc, eScNil, eAppTn, sTown, tYesM, noEx_ok, itemG, stepS, iAll, itemsOf, iR1, iR2, wipeE, restE, keepE, sAug, gIadd, gImul, eApp, eExt, eNeg, List.getD_cons_zero, List.getD_cons_succ, List.set_cons_zero, List.set_cons_succ, List.getElem?_cons_zero, List.getElem?_cons_succ, Option.map_some, Option.map_none, Bool.not_true, Bool.not_false, beq_self_eq_true, if_true, if_false, ite_true, ite_false, Bool.false_eq_true, reduceIte, reduceCtorEq, lenL_0, lenL_1, lenL_2, lenL_3, lenL_4, lenL_5, lenL_6, lenL_7, lenL_8, lenL_9, lenL_10, lenL_11, lenL_12, isT_int_none, isT_int_bool, isT_int_int, isT_int_str, isT_int_list, isT_int_tuple, isT_bool_none, isT_bool_bool, isT_bool_int, isT_bool_str, isT_bool_list, isT_bool_tuple, isT_str_none, isT_str_bool, isT_str_int, isT_str_str, isT_str_list, isT_str_tuple, isT_tuple_none, isT_tuple_bool, isT_tuple_int, isT_tuple_str, isT_tuple_list, isT_tuple_tuple, isT_list_none, isT_list_bool, isT_list_int, isT_list_str, isT_list_list, isT_list_tuple, gNe_int, h3, st, h1, h2, hb, List.length_cons, List.length_nil, Bool.false_and, Bool.and_false, h4', h5', decide_true, hlc, gAll_map, h6]
                  · cases a with
                    | int n =>
                      obtain ⟨css, hss, hall⟩ := shp_strs ss h6
                      have hlen : ∀ cs ∈ css, cs.length ≤ 8 := fun cs hc => by
                        have := hall cs hc
                        unfold shpL at this
                        simp only [Bool.and_eq_true, decide_eq_true_eq] at this
                        exact this.1.1.1.2
                      have hlim : lim = 100000 := rfl
                      have hmx : eLc (iAll (eN 2)) (gN 4) tYesM (eLenN 4) [4] ⟨[.sh (.tuple [.int n, .tuple ss, c]), .sh (.int n), .sh (.tuple ss), .sh c, .no, .no], wd⟩ = .ok (.ow (ss.map fun d => .int (lenOf d))) ⟨[.sh (.tuple [.int n, .tuple ss, c]), .sh (.int n), .sh (.tuple ss), .sh c, .no, .no], wd⟩ := by
                        obtain ⟨e', h1, x', h2⟩ := comp_map (g := gN 4) (t := tYesM) (m := eLenN 4) (vs := [4]) (fun e => ∃ x, e = ⟨[.sh (.tuple [.int n, .tuple ss, c]), .sh (.int n), .sh (.tuple ss), .sh c, x, .no], wd⟩) (fun d => .int (lenOf d)) ss ⟨[.sh (.tuple [.int n, .tuple ss, c]), .sh (.int n), .sh (.tuple ss), .sh c, .no, .no], wd⟩ ⟨.no, rfl⟩ hok1.1 (by
                          rintro d hd e ⟨x, rfl⟩
                          rw [hss] at hd
                          obtain ⟨cs, hcs, rfl⟩ := List.mem_map.mp hd
                          have hl : (tx cs).length ≤ lim := by rw [tx_len]; have := hlen cs hcs; omega
                          exact ⟨⟨[.sh (.tuple [.int n, .tuple ss, c]), .sh (.int n), .sh (.tuple ss), .sh c, .sh (strD cs), .no], wd⟩, by unfold strD; simp only [bind_ok, bind_ex, bind_st, get_mk, set_mk, sSeq, sEx, sRet, sIf, sSet, sPass, sEx_, sBk, sAsg, sPar2, sPar3, thenS, dv, toD, eC, eN, eMv, eP, eBin, tst, eChain, tAndM, tOrM, tNotM, eAnd, eOr, eNot, eIf, toA, aNil, aCons, asDs, dvs, eTup, eLst, eCall, eIx, eIxN, itemE, eSl, pNo, pSo, cutD, gLen, eLenN, lenD, gList, gTuple, gN, gT, setAll, eMt, tyD, eIsi, gAdd, gSub, gDiv, gMod, gMul, gPow, gLt, gLe, gGt, gGe, gStr, gMin, gIn, gNotIn, gIs, gIsNot, isD, eLenSc, eIxSc, eScNil, eAppTn, sTown, tYesM, noEx_ok, itemG, stepS, iAll, itemsOf, iR1, iR2, wipeE, restE, keepE, sAug, gIadd, gImul, eApp, eExt, eNeg, List.getD_cons_zero, List.getD_cons_succ, List.set_cons_zero, List.set_cons_succ, List.getElem?_cons_zero, List.getElem?_cons_succ, Option.map_some, Option.map_none, Bool.not_true, Bool.not_false, beq_self_eq_true, if_true, if_false, ite_true, ite_false, Bool.false_eq_true, reduceIte, reduceCtorEq, lenL_0, lenL_1, lenL_2, lenL_3, lenL_4, lenL_5, lenL_6, lenL_7, lenL_8, lenL_9, lenL_10, lenL_11, lenL_12, hl]; rfl, .sh (strD cs), rfl⟩)
                        subst h2
                        refine (lc_run (e := ⟨[.sh (.tuple [.int n, .tuple ss, c]), .sh (.int n), .sh (.tuple ss), .sh c, .no, .no], wd⟩) (by simp only [bind_ok, bind_ex, bind_st, get_mk, set_mk, sSeq, sEx, sRet, sIf, sSet, sPass, sEx_, sBk, sAsg, sPar2, sPar3, thenS, dv, toD, eC, eN, eMv, eP, eBin, tst, eChain, tAndM, tOrM, tNotM, eAnd, eOr, eNot, eIf, toA, aNil, aCons, asDs, dvs, eTup, eLst, eCall, eIx, eIxN, itemE, eSl, pNo, pSo, cutD, gLen, eLenN, lenD, gList, gTuple, gN, gT, setAll, eMt, tyD, eIsi, gAdd, gSub, gDiv, gMod, gMul, gPow, gLt, gLe, gGt, gGe, gStr, gMin, gIn, gNotIn, gIs, gIsNot, isD, eLenSc, eIxSc, eScNil, eAppTn, sTown, tYesM, noEx_ok, itemG, stepS, iAll, itemsOf, iR1, iR2, wipeE, restE, keepE, sAug, gIadd, gImul, eApp, eExt, eNeg, List.getD_cons_zero, List.getD_cons_succ, List.set_cons_zero, List.set_cons_succ, List.getElem?_cons_zero, List.getElem?_cons_succ, Option.map_some, Option.map_none, Bool.not_true, Bool.not_false, beq_self_eq_true, if_true, if_false, ite_true, ite_false, Bool.false_eq_true, reduceIte, reduceCtorEq, lenL_0, lenL_1, lenL_2, lenL_3, lenL_4, lenL_5, lenL_6, lenL_7, lenL_8, lenL_9, lenL_10, lenL_11, lenL_12]) h1).trans ?_
                        simp only [bind_ok, bind_ex, bind_st, get_mk, set_mk, sSeq, sEx, sRet, sIf, sSet, sPass, sEx_, sBk, sAsg, sPar2, sPar3, thenS, dv, toD, eC, eN, eMv, eP, eBin, tst, eChain, tAndM, tOrM, tNotM, eAnd, eOr, eNot, eIf, toA, aNil, aCons, asDs, dvs, eTup, eLst, eCall, eIx, eIxN, itemE, eSl, pNo, pSo, cutD, gLen, eLenN, lenD, gList, gTuple, gN, gT, setAll, eMt, tyD, eIsi, gAdd, gSub, gDiv, gMod, gMul, gPow, gLt, gLe, gGt, gGe, gStr, gMin, gIn, gNotIn, gIs, gIsNot, isD, eLenSc, eIxSc, eScNil, eAppTn, sTown, tYesM, noEx_ok, itemG, stepS, iAll, itemsOf, iR1, iR2, wipeE, restE, keepE, sAug, gIadd, gImul, eApp, eExt, eNeg, List.getD_cons_zero, List.getD_cons_succ, List.set_cons_zero, List.set_cons_succ, List.getElem?_cons_zero, List.getElem?_cons_succ, Option.map_some, Option.map_none, Bool.not_true, Bool.not_false, beq_self_eq_true, if_true, if_false, ite_true, ite_false, Bool.false_eq_true, reduceIte, reduceCtorEq, lenL_0, lenL_1, lenL_2, lenL_3, lenL_4, lenL_5, lenL_6, lenL_7, lenL_8, lenL_9, lenL_10, lenL_11, lenL_12]
                      have hzp : eLc (iZp (eN 2) (eSl (eN 2) (pSo (eC (.int 1))) pNo)) (gT [4, 5]) tYesM (eBin gLt (eN 4) (eN 5)) [4, 5] ⟨[.sh (.tuple [.int n, .tuple ss, c]), .sh (.int n), .sh (.tuple ss), .sh c, .no, .no], wd⟩ = .ok (.ow ((zipL ss (ss.drop 1)).map fun d => .bool (ltD d))) ⟨[.sh (.tuple [.int n, .tuple ss, c]), .sh (.int n), .sh (.tuple ss), .sh c, .no, .no], wd⟩ := by
                        obtain ⟨e', h1, x', y', h2⟩ := comp_map (g := gT [4, 5]) (t := tYesM) (m := eBin gLt (eN 4) (eN 5)) (vs := [4, 5]) (fun e => ∃ x y, e = ⟨[.sh (.tuple [.int n, .tuple ss, c]), .sh (.int n), .sh (.tuple ss), .sh c, x, y], wd⟩) (fun d => .bool (ltD d)) (zipL ss (ss.drop 1)) ⟨[.sh (.tuple [.int n, .tuple ss, c]), .sh (.int n), .sh (.tuple ss), .sh c, .no, .no], wd⟩ ⟨.no, .no, rfl⟩ (Nat.le_trans (zipL_le _ _) hok1.1) (by
                          rintro d hd e ⟨x, y, rfl⟩
                          obtain ⟨p, q, hp, hq, rfl⟩ := zip_mem hd
                          have hq' := List.mem_of_mem_drop hq
                          rw [hss] at hp hq'
                          obtain ⟨c1, _, rfl⟩ := List.mem_map.mp hp
                          obtain ⟨c2, _, rfl⟩ := List.mem_map.mp hq'
                          exact ⟨⟨[.sh (.tuple [.int n, .tuple ss, c]), .sh (.int n), .sh (.tuple ss), .sh c, .sh (strD c1), .sh (strD c2)], wd⟩, by unfold strD; simp only [bind_ok, bind_ex, bind_st, get_mk, set_mk, sSeq, sEx, sRet, sIf, sSet, sPass, sEx_, sBk, sAsg, sPar2, sPar3, thenS, dv, toD, eC, eN, eMv, eP, eBin, tst, eChain, tAndM, tOrM, tNotM, eAnd, eOr, eNot, eIf, toA, aNil, aCons, asDs, dvs, eTup, eLst, eCall, eIx, eIxN, itemE, eSl, pNo, pSo, cutD, gLen, eLenN, lenD, gList, gTuple, gN, gT, setAll, eMt, tyD, eIsi, gAdd, gSub, gDiv, gMod, gMul, gPow, gLt, gLe, gGt, gGe, gStr, gMin, gIn, gNotIn, gIs, gIsNot, isD, eLenSc, eIxSc, eScNil, eAppTn, sTown, tYesM, noEx_ok, itemG, stepS, iAll, itemsOf, iR1, iR2, wipeE, restE, keepE, sAug, gIadd, gImul, eApp, eExt, eNeg, List.getD_cons_zero, List.getD_cons_succ, List.set_cons_zero, List.set_cons_succ, List.getElem?_cons_zero, List.getElem?_cons_succ, Option.map_some, Option.map_none, Bool.not_true, Bool.not_false, beq_self_eq_true, if_true, if_false, ite_true, ite_false, Bool.false_eq_true, reduceIte, reduceCtorEq, lenL_0, lenL_1, lenL_2, lenL_3, lenL_4, lenL_5, lenL_6, lenL_7, lenL_8, lenL_9, lenL_10, lenL_11, lenL_12, ltD], .sh (strD c1), .sh (strD c2), rfl⟩)
                        subst h2
                        refine (lc_run (e := ⟨[.sh (.tuple [.int n, .tuple ss, c]), .sh (.int n), .sh (.tuple ss), .sh c, .no, .no], wd⟩) (by simp only [bind_ok, bind_ex, bind_st, get_mk, set_mk, sSeq, sEx, sRet, sIf, sSet, sPass, sEx_, sBk, sAsg, sPar2, sPar3, thenS, dv, toD, eC, eN, eMv, eP, eBin, tst, eChain, tAndM, tOrM, tNotM, eAnd, eOr, eNot, eIf, toA, aNil, aCons, asDs, dvs, eTup, eLst, eCall, eIx, eIxN, itemE, eSl, pNo, pSo, cutD, gLen, eLenN, lenD, gList, gTuple, gN, gT, setAll, eMt, tyD, eIsi, gAdd, gSub, gDiv, gMod, gMul, gPow, gLt, gLe, gGt, gGe, gStr, gMin, gIn, gNotIn, gIs, gIsNot, isD, eLenSc, eIxSc, eScNil, eAppTn, sTown, tYesM, noEx_ok, itemG, stepS, iAll, itemsOf, iR1, iR2, wipeE, restE, keepE, sAug, gIadd, gImul, eApp, eExt, eNeg, List.getD_cons_zero, List.getD_cons_succ, List.set_cons_zero, List.set_cons_succ, List.getElem?_cons_zero, List.getElem?_cons_succ, Option.map_some, Option.map_none, Bool.not_true, Bool.not_false, beq_self_eq_true, if_true, if_false, ite_true, ite_false, Bool.false_eq_true, reduceIte, reduceCtorEq, lenL_0, lenL_1, lenL_2, lenL_3, lenL_4, lenL_5, lenL_6, lenL_7, lenL_8, lenL_9, lenL_10, lenL_11, lenL_12, iZp, cut1 ss h4]) h1).trans ?_
                        simp only [bind_ok, bind_ex, bind_st, get_mk, set_mk, sSeq, sEx, sRet, sIf, sSet, sPass, sEx_, sBk, sAsg, sPar2, sPar3, thenS, dv, toD, eC, eN, eMv, eP, eBin, tst, eChain, tAndM, tOrM, tNotM, eAnd, eOr, eNot, eIf, toA, aNil, aCons, asDs, dvs, eTup, eLst, eCall, eIx, eIxN, itemE, eSl, pNo, pSo, cutD, gLen, eLenN, lenD, gList, gTuple, gN, gT, setAll, eMt, tyD, eIsi, gAdd, gSub, gDiv, gMod, gMul, gPow, gLt, gLe, gGt, gGe, gStr, gMin, gIn, gNotIn, gIs, gIsNot, isD, eLenSc, eIxSc, eScNil, eAppTn, sTown, tYesM, noEx_ok, itemG, stepS, iAll, itemsOf, iR1, iR2, wipeE, restE, keepE, sAug, gIadd, gImul, eApp, eExt, eNeg, List.getD_cons_zero, List.getD_cons_succ, List.set_cons_zero, List.set_cons_succ, List.getElem?_cons_zero, List.getElem?_cons_succ, Option.map_some, Option.map_none, Bool.not_true, Bool.not_false, beq_self_eq_true, if_true, if_false, ite_true, ite_false, Bool.false_eq_true, reduceIte, reduceCtorEq, lenL_0, lenL_1, lenL_2, lenL_3, lenL_4, lenL_5, lenL_6, lenL_7, lenL_8, lenL_9, lenL_10, lenL_11, lenL_12]
                      have hne : ss ≠ [] := by intro e; rw [e] at h4; simp at h4
                      refine run0 _ ?_
                      have ez : (zipL ss (ss.drop 1)).all ltD = asc (ss.map cpsOf) := by
                        rw [hss, List.map_map]
                        refine (zip_asc css).trans (congrArg asc ?_)
                        exact (List.map_id css).symm.trans (List.map_congr_left fun c _ => rfl)
                      have e : shapesD (.tuple ss) (intOf (.int n)) = (decide (maxI (ss.map lenOf) ≤ n) && (zipL ss (ss.drop 1)).all ltD) := by
                        rw [ez]
                        show (decide (1 ≤ ss.length) && decide (ss.length ≤ 3) && ss.all shpD && decide (maxI (ss.map lenOf) ≤ n) && asc (ss.map cpsOf)) = _
                        rw [decide_eq_true h4, decide_eq_true h5, h6]; rfl
                      rw [e]
                      unfold f_is_game
                      by_cases h7 : maxI (ss.map lenOf) ≤ n
                      · simp only [bind_ok, bind_ex, bind_st, get_mk, set_mk, sSeq, sEx, sRet, sIf, sSet, sPass, sEx_, sBk, sAsg, sPar2, sPar3, thenS, dv, toD, eC, eN, eMv, eP, eBin, tst, eChain, tAndM, tOrM, tNotM, eAnd, eOr, eNot, eIf, toA, aNil, aCons, asDs, dvs, eTup, eLst, eCall, eIx, eIxN, itemE, eSl, pNo, pSo, cutD, gLen, eLenN, lenD, gList, gTuple, gN, gT, setAll, eMt, tyD, eIsi, gAdd, gSub, gDiv, gMod, gMul, gPow, gLt, gLe, gGt, gGe, gStr, gMin, gIn, gNotIn, gIs, gIsNot, isD, eLenSc, eIxSc, eScNil, eAppTn, sTown, tYesM, noEx_ok, itemG, stepS, iAll, itemsOf, iR1, iR2, wipeE, restE, keepE, sAug, gIadd, gImul, eApp, eExt, eNeg, List.getD_cons_zero, List.getD_cons_succ, List.set_cons_zero, List.set_cons_succ, List.getElem?_cons_zero, List.getElem?_cons_succ, Option.map_some, Option.map_none, Bool.not_true, Bool.not_false, beq_self_eq_true, if_true, if_false, ite_true, ite_false, Bool.false_eq_true, reduceIte, reduceCtorEq, lenL_0, lenL_1, lenL_2, lenL_3, lenL_4, lenL_5, lenL_6, lenL_7, lenL_8, lenL_9, lenL_10, lenL_11, lenL_12, isT_int_none, isT_int_bool, isT_int_int, isT_int_str, isT_int_list, isT_int_tuple, isT_bool_none, isT_bool_bool, isT_bool_int, isT_bool_str, isT_bool_list, isT_bool_tuple, isT_str_none, isT_str_bool, isT_str_int, isT_str_str, isT_str_list, isT_str_tuple, isT_tuple_none, isT_tuple_bool, isT_tuple_int, isT_tuple_str, isT_tuple_list, isT_tuple_tuple, isT_list_none, isT_list_bool, isT_list_int, isT_list_str, isT_list_list, isT_list_tuple, gNe_int, h3, st, h1, h2, hb, List.length_cons, List.length_nil, Bool.true_and, h4', h5', decide_true, hlc, gAll_map, h6, hmx, gMax_map hne, h7, hzp]
                      · simp only [bind_ok, bind_ex, bind_st, get_mk, set_mk, sSeq, sEx, sRet, sIf, sSet, sPass, sEx_, sBk, sAsg, sPar2, sPar3, thenS, dv, toD, eC, eN, eMv, eP, eBin, tst, eChain, tAndM, tOrM, tNotM, eAnd, eOr, eNot, eIf, toA, aNil, aCons, asDs, dvs, eTup, eLst, eCall, eIx, eIxN, itemE, eSl, pNo, pSo, cutD, gLen, eLenN, lenD, gList, gTuple, gN, gT, setAll, eMt, tyD, eIsi, gAdd, gSub, gDiv, gMod, gMul, gPow, gLt, gLe, gGt, gGe, gStr, gMin, gIn, gNotIn, gIs, gIsNot, isD, eLenSc, eIxSc, eScNil, eAppTn, sTown, tYesM, noEx_ok, itemG, stepS, iAll, itemsOf, iR1, iR2, wipeE, restE, keepE, sAug, gIadd, gImul, eApp, eExt, eNeg, List.getD_cons_zero, List.getD_cons_succ, List.set_cons_zero, List.set_cons_succ, List.getElem?_cons_zero, List.getElem?_cons_succ, Option.map_some, Option.map_none, Bool.not_true, Bool.not_false, beq_self_eq_true, if_true, if_false, ite_true, ite_false, Bool.false_eq_true, reduceIte, reduceCtorEq, lenL_0, lenL_1, lenL_2, lenL_3, lenL_4, lenL_5, lenL_6, lenL_7, lenL_8, lenL_9, lenL_10, lenL_11, lenL_12, isT_int_none, isT_int_bool, isT_int_int, isT_int_str, isT_int_list, isT_int_tuple, isT_bool_none, isT_bool_bool, isT_bool_int, isT_bool_str, isT_bool_list, isT_bool_tuple, isT_str_none, isT_str_bool, isT_str_int, isT_str_str, isT_str_list, isT_str_tuple, isT_tuple_none, isT_tuple_bool, isT_tuple_int, isT_tuple_str, isT_tuple_list, isT_tuple_tuple, isT_list_none, isT_list_bool, isT_list_int, isT_list_str, isT_list_list, isT_list_tuple, gNe_int, h3, st, h1, h2, hb, List.length_cons, List.length_nil, Bool.true_and, Bool.false_and, h4', h5', decide_true, decide_false, hlc, gAll_map, h6, hmx, gMax_map hne, h7, hzp]
                    | _ => cases h1
                · refine run0 _ ?_
                  have h5' : ¬ (ss.length : Int) ≤ 3 := by omega
                  have e : shapesD (.tuple ss) (intOf a) = false := by
                    show (decide _ && decide (ss.length ≤ 3) && ss.all shpD && _ && _) = false
                    rw [decide_eq_false h5]; simp
                  rw [e]
                  unfold f_is_game
                  simp only [bind_ok, bind_ex, bind_st, get_mk, set_mk, sSeq, sEx, sRet, sIf, sSet, sPass, sEx_, sBk, sAsg, sPar2, sPar3, thenS, dv, toD, eC, eN, eMv, eP, eBin, tst, eChain, tAndM, tOrM, tNotM, eAnd, eOr, eNot, eIf, toA, aNil, aCons, asDs, dvs, eTup, eLst, eCall, eIx, eIxN, itemE, eSl, pNo, pSo, cutD, gLen, eLenN, lenD, gList, gTuple, gN, gT, setAll, eMt, tyD, eIsi, gAdd, gSub, gDiv, gMod, gMul, gPow, gLt, gLe, gGt, gGe, gStr, gMin, gIn, gNotIn, gIs, gIsNot, isD, eLenSc, eIxSc, eScNil, eAppTn, sTown, tYesM, noEx_ok, itemG, stepS, iAll, itemsOf, iR1, iR2, wipeE, restE, keepE, sAug, gIadd, gImul, eApp, eExt, eNeg, List.getD_cons_zero, List.getD_cons_succ, List.set_cons_zero, List.set_cons_succ, List.getElem?_cons_zero, List.getElem?_cons_succ, Option.map_some, Option.map_none, Bool.not_true, Bool.not_false, beq_self_eq_true, if_true, if_false, ite_true, ite_false, Bool.false_eq_true, reduceIte, reduceCtorEq, lenL_0, lenL_1, lenL_2, lenL_3, lenL_4, lenL_5, lenL_6, lenL_7, lenL_8, lenL_9, lenL_10, lenL_11, lenL_12, isT_int_none, isT_int_bool, isT_int_int, isT_int_str, isT_int_list, isT_int_tuple, isT_bool_none, isT_bool_bool, isT_bool_int, isT_bool_str, isT_bool_list, isT_bool_tuple, isT_str_none, isT_str_bool, isT_str_int, isT_str_str, isT_str_list, isT_str_tuple, isT_tuple_none, isT_tuple_bool, isT_tuple_int, isT_tuple_str, isT_tuple_list, isT_tuple_tuple, isT_list_none, isT_list_bool, isT_list_int, isT_list_str, isT_list_list, isT_list_tuple, gNe_int, h3, st, h1, h2, hb, List.length_cons, List.length_nil, Bool.false_and, Bool.and_false, h4', h5', decide_true, decide_false]
              · refine run0 _ ?_
                have h4' : ¬ (1 : Int) ≤ (ss.length : Int) := by omega
                have e : shapesD (.tuple ss) (intOf a) = false := by
                  show (decide (1 ≤ ss.length) && decide (ss.length ≤ 3) && ss.all shpD && _ && _) = false
                  rw [decide_eq_false h4]; simp
                rw [e]
                unfold f_is_game
                simp only [bind_ok, bind_ex, bind_st, get_mk, set_mk, sSeq, sEx, sRet, sIf, sSet, sPass, sEx_, sBk, sAsg, sPar2, sPar3, thenS, dv, toD, eC, eN, eMv, eP, eBin, tst, eChain, tAndM, tOrM, tNotM, eAnd, eOr, eNot, eIf, toA, aNil, aCons, asDs, dvs, eTup, eLst, eCall, eIx, eIxN, itemE, eSl, pNo, pSo, cutD, gLen, eLenN, lenD, gList, gTuple, gN, gT, setAll, eMt, tyD, eIsi, gAdd, gSub, gDiv, gMod, gMul, gPow, gLt, gLe, gGt, gGe, gStr, gMin, gIn, gNotIn, gIs, gIsNot, isD, eLenSc, eIxSc, eScNil, eAppTn, sTown, tYesM, noEx_ok, itemG, stepS, iAll, itemsOf, iR1, iR2, wipeE, restE, keepE, sAug, gIadd, gImul, eApp, eExt, eNeg, List.getD_cons_zero, List.getD_cons_succ, List.set_cons_zero, List.set_cons_succ, List.getElem?_cons_zero, List.getElem?_cons_succ, Option.map_some, Option.map_none, Bool.not_true, Bool.not_false, beq_self_eq_true, if_true, if_false, ite_true, ite_false, Bool.false_eq_true, reduceIte, reduceCtorEq, lenL_0, lenL_1, lenL_2, lenL_3, lenL_4, lenL_5, lenL_6, lenL_7, lenL_8, lenL_9, lenL_10, lenL_11, lenL_12, isT_int_none, isT_int_bool, isT_int_int, isT_int_str, isT_int_list, isT_int_tuple, isT_bool_none, isT_bool_bool, isT_bool_int, isT_bool_str, isT_bool_list, isT_bool_tuple, isT_str_none, isT_str_bool, isT_str_int, isT_str_str, isT_str_list, isT_str_tuple, isT_tuple_none, isT_tuple_bool, isT_tuple_int, isT_tuple_str, isT_tuple_list, isT_tuple_tuple, isT_list_none, isT_list_bool, isT_list_int, isT_list_str, isT_list_list, isT_list_tuple, gNe_int, h3, st, h1, h2, hb, List.length_cons, List.length_nil, Bool.false_and, Bool.and_false, h4', decide_true, decide_false]
            | _ => cases hb
end CO

/-! Me: some game. -/
namespace CO
open PySem PySem.Spec PyProof.Rows L2

theorem nubS_le : ∀ (l : List Str), (nubS l).length ≤ l.length
  | [] => Nat.le_refl _
  | x :: r => by
    unfold nubS
    split
    · exact Nat.le_succ_of_le (nubS_le r)
    · simp; exact nubS_le r
theorem asc_of : ∀ {l : List (List Nat)}, l.Pairwise (fun a b => a ≤ b) → l.Nodup → asc l = true
  | [], _, _ => rfl
  | [a], _, _ => rfl
  | a :: b :: r, h, hn => by
    rw [List.pairwise_cons] at h
    rw [List.nodup_cons] at hn
    have h1 := h.1 b List.mem_cons_self
    have h2 : a ≠ b := fun e => hn.1 (e ▸ List.mem_cons_self)
    have h3 : a < b := Decidable.byContradiction fun z => h2 (List.le_antisymm h1 (List.not_lt.mp z))
    show (decide (a < b) && asc (b :: r)) = true
    rw [decide_eq_true h3, asc_of h.2 hn.2]; rfl
/-- sorted(set(texts)) -/
theorem sortSet_strs {xs : List Str} (hne : xs ≠ []) (hl : xs.length < 1000) : sortSetD (xs.map .str) = some ((sortS (nubS xs)).map .str) := by
  unfold sortSetD
  rw [if_pos (by simpa using hl)]
  cases xs with
  | nil => exact absurd rfl hne
  | cons x r =>
    rw [asStrs_map]
    rfl
theorem sorted_game {css : List (List Nat)} (h : ∀ cs ∈ css, shpL cs = true) : ∃ qs : List (List Nat), sortS (nubS (css.map tx)) = qs.map tx ∧ asc qs = true ∧ (∀ q, q ∈ qs ↔ q ∈ css) ∧ qs.length ≤ css.length := by
  refine ⟨(sortS (nubS (css.map tx))).map fun s => s.cps.toList, ?_, ?_, ?_, ?_⟩
  · rw [List.map_map]
    exact (List.map_id _).symm.trans (List.map_congr_left fun s _ => rfl)
  · refine asc_of ?_ ?_
    · exact List.pairwise_map.mpr (sortS_pw _)
    · refine List.pairwise_map.mpr ?_
      have hp : (sortS (nubS (css.map tx))).Nodup := (List.mergeSort_perm _ leS).nodup_iff.mpr (nodup_nubS _)
      exact hp.imp fun q e => q (by have := congrArg tx e; exact this)
  · intro q
    rw [List.mem_map]
    constructor
    · rintro ⟨s, hs, rfl⟩
      have h1 : s ∈ nubS (css.map tx) := (List.mergeSort_perm _ leS).mem_iff.mp hs
      obtain ⟨c, hc, rfl⟩ := List.mem_map.mp (mem_nubS.mp h1)
      exact hc
    · intro hq
      exact ⟨tx q, (List.mergeSort_perm _ leS).mem_iff.mpr (mem_nubS.mpr (List.mem_map_of_mem hq)), rfl⟩
  · rw [List.length_map]
    have := (List.mergeSort_perm (nubS (css.map tx)) leS).length_eq
    have e : (sortS (nubS (css.map tx))).length = (nubS (css.map tx)).length := this
    rw [e]
    exact Nat.le_trans (nubS_le _) (by simp)
/-- a game's data -/
def gmD (n : Nat) (css : List (List Nat)) (r : Bool) : D := .tuple [.int n, .tuple (css.map strD), .bool r]
structure Gm (n : Nat) (css : List (List Nat)) : Prop where
  n1 : 1 ≤ n
  n8 : n ≤ 8
  c1 : 1 ≤ css.length
  c3 : css.length ≤ 3
  sh : ∀ cs ∈ css, shpL cs = true
  le : ∀ cs ∈ css, cs.length ≤ n
  as : asc css = true
theorem Gm.is {n : Nat} {css : List (List Nat)} (h : Gm n css) (r : Bool) : gameD (gmD n css r) = true := by
  show (intIn (.int n) 1 8 && true && shapesD (.tuple (css.map strD)) n) = true
  have e1 : intIn (.int n) 1 8 = true := by
    show (decide ((1 : Int) ≤ n) && decide ((n : Int) ≤ 8)) = true
    have := h.n1; have := h.n8
    rw [decide_eq_true (by omega), decide_eq_true (by omega)]; rfl
  have e2 : (css.map strD).map cpsOf = css := by rw [List.map_map]; exact (List.map_congr_left fun c _ => rfl).trans (List.map_id css)
  have e3 : (css.map strD).all shpD = true := by
    rw [List.all_map, List.all_eq_true]
    exact fun c hc => h.sh c hc
  have e4 : maxI ((css.map strD).map lenOf) ≤ n := by
    refine (max_le ?_).mpr ?_
    · have hc := h.c1
      intro e
      have q := congrArg List.length e
      rw [List.length_map, List.length_map, List.length_nil] at q
      omega
    · intro y hy
      rw [List.map_map] at hy
      obtain ⟨c, hc, rfl⟩ := List.mem_map.mp hy
      show ((tx c).length : Int) ≤ n
      rw [tx_len]
      have := h.le c hc
      omega
  have e : shapesD (.tuple (css.map strD)) n = true := by
    show (decide (1 ≤ (css.map strD).length) && decide ((css.map strD).length ≤ 3) && (css.map strD).all shpD && decide (maxI ((css.map strD).map lenOf) ≤ n) && asc ((css.map strD).map cpsOf)) = true
    rw [List.length_map, decide_eq_true h.c1, decide_eq_true h.c3, e3, e2, h.as, decide_eq_true e4]; rfl
  rw [e1, e]; rfl
theorem Gm.ok {n : Nat} {css : List (List Nat)} (h : Gm n css) (r : Bool) : gOk (gmD n css r) = true := by
  show (decide ((css.map strD).length ≤ lim) && (css.map strD).all txtOk) = true
  have hlim : lim = 100000 := rfl
  have := h.c3
  rw [List.length_map, decide_eq_true (by omega), List.all_map, Bool.true_and, List.all_eq_true]
  intro c hc
  show decide ((tx c).length ≤ lim) = true
  have := h.le c hc
  have := h.n8
  rw [tx_len]
  exact decide_eq_true (by omega)
theorem some_game {ns : List Int} {k most : Nat} {wd : List Ob} (hl : ns.length ≤ 63) (hm : 1 ≤ most ∧ most ≤ 8) (hw : Tn k wd) (hk : k + 30 < lim) : ∃ n css r, Gm n css ∧ n ≤ most ∧ ∃ wd', Tn (k + 30) wd' ∧ Run m__law_some_game [.sc ns, .wr 0, .sh (.int most)] wd (.sh (gmD n css r)) wd' := by
  obtain ⟨v, hv, wd1, hw1, h1⟩ := draw (many := most) hl (by omega) hw (by omega)
  obtain ⟨u, hu, wd2, hw2, h2⟩ := draw (many := 3) hl (by omega) hw1 (by omega)
  have c1 := call_run (n := 3) (ms := aCons (eN 0) (aCons (eN 1) (aCons (eN 2) aNil))) (en := ⟨[.sc ns, .wr 0, .sh (.int most), .no, .no, .no], wd⟩) (sl := [.sc ns, .wr 0, .sh (.int most), .no, .no, .no]) (by simp only [bind_ok, bind_ex, bind_st, get_mk, set_mk, sSeq, sEx, sRet, sIf, sSet, sPass, sEx_, sBk, sAsg, sPar2, sPar3, thenS, dv, toD, eC, eN, eMv, eP, eBin, tst, eChain, tAndM, tOrM, tNotM, eAnd, eOr, eNot, eIf, toA, aNil, aCons, asDs, dvs, eTup, eLst, eCall, eIx, eIxN, itemE, eSl, pNo, pSo, cutD, gLen, eLenN, lenD, gList, gTuple, gN, gT, setAll, eMt, tyD, eIsi, gAdd, gSub, gDiv, gMod, gMul, gPow, gLt, gLe, gGt, gGe, gStr, gMin, gIn, gNotIn, gIs, gIsNot, isD, eLenSc, eIxSc, eScNil, eAppTn, sTown, tYesM, noEx_ok, itemG, stepS, iAll, itemsOf, iR1, iR2, wipeE, restE, keepE, sAug, gIadd, gImul, eApp, eExt, eNeg, List.getD_cons_zero, List.getD_cons_succ, List.set_cons_zero, List.set_cons_succ, List.getElem?_cons_zero, List.getElem?_cons_succ, Option.map_some, Option.map_none, Bool.not_true, Bool.not_false, beq_self_eq_true, if_true, if_false, ite_true, ite_false, Bool.false_eq_true, reduceIte, reduceCtorEq, lenL_0, lenL_1, lenL_2, lenL_3, lenL_4, lenL_5, lenL_6, lenL_7, lenL_8, lenL_9, lenL_10, lenL_11, lenL_12]) rfl h1
  have c2 := call_run (n := 3) (ms := aCons (eN 0) (aCons (eN 1) (aCons (eC (.int 3)) aNil))) (en := ⟨[.sc ns, .wr 0, .sh (.int most), .sh (.int (1 + (v : Int))), .no, .no], wd1⟩) (sl := [.sc ns, .wr 0, .sh (.int most), .sh (.int (1 + (v : Int))), .no, .no]) (by simp only [bind_ok, bind_ex, bind_st, get_mk, set_mk, sSeq, sEx, sRet, sIf, sSet, sPass, sEx_, sBk, sAsg, sPar2, sPar3, thenS, dv, toD, eC, eN, eMv, eP, eBin, tst, eChain, tAndM, tOrM, tNotM, eAnd, eOr, eNot, eIf, toA, aNil, aCons, asDs, dvs, eTup, eLst, eCall, eIx, eIxN, itemE, eSl, pNo, pSo, cutD, gLen, eLenN, lenD, gList, gTuple, gN, gT, setAll, eMt, tyD, eIsi, gAdd, gSub, gDiv, gMod, gMul, gPow, gLt, gLe, gGt, gGe, gStr, gMin, gIn, gNotIn, gIs, gIsNot, isD, eLenSc, eIxSc, eScNil, eAppTn, sTown, tYesM, noEx_ok, itemG, stepS, iAll, itemsOf, iR1, iR2, wipeE, restE, keepE, sAug, gIadd, gImul, eApp, eExt, eNeg, List.getD_cons_zero, List.getD_cons_succ, List.set_cons_zero, List.set_cons_succ, List.getElem?_cons_zero, List.getElem?_cons_succ, Option.map_some, Option.map_none, Bool.not_true, Bool.not_false, beq_self_eq_true, if_true, if_false, ite_true, ite_false, Bool.false_eq_true, reduceIte, reduceCtorEq, lenL_0, lenL_1, lenL_2, lenL_3, lenL_4, lenL_5, lenL_6, lenL_7, lenL_8, lenL_9, lenL_10, lenL_11, lenL_12]; rfl) rfl h2
  have hlim : lim = 100000 := rfl
  have hn : (1 + (u : Int)) = ((1 + u : Nat) : Int) := by omega
  have hv1 : (1 + (v : Int)) = ((1 + v : Nat) : Int) := by omega
  have hr : ((1 + u : Nat) : Int) ≤ 100000 ∧ -100000 ≤ ((1 + u : Nat) : Int) := by omega
  obtain ⟨xs, e', h3, h4, h5, x, wd3, h6, h7⟩ := comp_some (S := Unit) (g := gN 5) (t := tYesM) (m := eCallF 3 m__law_some_shape (aCons (eN 0) (aCons (eN 1) (aCons (eN 3) aNil)))) (vs := [5])
      (fun j e => ∃ (x : Ent) (wd2 : List Ob), Tn (k + 2 + 8 * j) wd2 ∧ e = ⟨[.sc ns, .wr 0, .sh (.int most), .sh (.int (1 + (v : Int))), .no, x], wd2⟩) (fun d => ∃ cs, d = strD cs ∧ shpL cs = true ∧ cs.length ≤ 1 + v) (rangeL 0 (1 + u)) 0 ⟨[.sc ns, .wr 0, .sh (.int most), .sh (.int (1 + (v : Int))), .no, .no], wd2⟩ [] ⟨.no, wd2, hw2, rfl⟩ (by simp [rangeL]; omega) (fun d h => nomatch h) (by
        rintro d hd j e hj1 hj2 ⟨x, wd2, hw2, rfl⟩
        have hj3 : j < 1 + u := by simpa [rangeL] using hj2
        obtain ⟨cs, hs1, hs2, wd3, hw3, hp⟩ := some_shape (most := 1 + v) hl (by omega) hw2 (by omega)
        rw [← hv1] at hp
        have c3 := call_run (n := 3) (ms := aCons (eN 0) (aCons (eN 1) (aCons (eN 3) aNil))) (en := ⟨[.sc ns, .wr 0, .sh (.int most), .sh (.int (1 + (v : Int))), .no, .sh d], wd2⟩) (sl := [.sc ns, .wr 0, .sh (.int most), .sh (.int (1 + (v : Int))), .no, .sh d]) (by simp only [bind_ok, bind_ex, bind_st, get_mk, set_mk, sSeq, sEx, sRet, sIf, sSet, sPass, sEx_, sBk, sAsg, sPar2, sPar3, thenS, dv, toD, eC, eN, eMv, eP, eBin, tst, eChain, tAndM, tOrM, tNotM, eAnd, eOr, eNot, eIf, toA, aNil, aCons, asDs, dvs, eTup, eLst, eCall, eIx, eIxN, itemE, eSl, pNo, pSo, cutD, gLen, eLenN, lenD, gList, gTuple, gN, gT, setAll, eMt, tyD, eIsi, gAdd, gSub, gDiv, gMod, gMul, gPow, gLt, gLe, gGt, gGe, gStr, gMin, gIn, gNotIn, gIs, gIsNot, isD, eLenSc, eIxSc, eScNil, eAppTn, sTown, tYesM, noEx_ok, itemG, stepS, iAll, itemsOf, iR1, iR2, wipeE, restE, keepE, sAug, gIadd, gImul, eApp, eExt, eNeg, List.getD_cons_zero, List.getD_cons_succ, List.set_cons_zero, List.set_cons_succ, List.getElem?_cons_zero, List.getElem?_cons_succ, Option.map_some, Option.map_none, Bool.not_true, Bool.not_false, beq_self_eq_true, if_true, if_false, ite_true, ite_false, Bool.false_eq_true, reduceIte, reduceCtorEq, lenL_0, lenL_1, lenL_2, lenL_3, lenL_4, lenL_5, lenL_6, lenL_7, lenL_8, lenL_9, lenL_10, lenL_11, lenL_12]) rfl hp
        refine ⟨strD cs, ⟨[.sc ns, .wr 0, .sh (.int most), .sh (.int (1 + (v : Int))), .no, .sh d], wd3⟩, ?_, ⟨cs, rfl, hs1, hs2⟩, .sh d, wd3, by rw [show k + 2 + 8 * (j + 1) = k + 2 + 8 * j + 8 by omega]; exact hw3, rfl⟩
        simp only [bind_ok, bind_ex, bind_st, get_mk, set_mk, sSeq, sEx, sRet, sIf, sSet, sPass, sEx_, sBk, sAsg, sPar2, sPar3, thenS, dv, toD, eC, eN, eMv, eP, eBin, tst, eChain, tAndM, tOrM, tNotM, eAnd, eOr, eNot, eIf, toA, aNil, aCons, asDs, dvs, eTup, eLst, eCall, eIx, eIxN, itemE, eSl, pNo, pSo, cutD, gLen, eLenN, lenD, gList, gTuple, gN, gT, setAll, eMt, tyD, eIsi, gAdd, gSub, gDiv, gMod, gMul, gPow, gLt, gLe, gGt, gGe, gStr, gMin, gIn, gNotIn, gIs, gIsNot, isD, eLenSc, eIxSc, eScNil, eAppTn, sTown, tYesM, noEx_ok, itemG, stepS, iAll, itemsOf, iR1, iR2, wipeE, restE, keepE, sAug, gIadd, gImul, eApp, eExt, eNeg, List.getD_cons_zero, List.getD_cons_succ, List.set_cons_zero, List.set_cons_succ, List.getElem?_cons_zero, List.getElem?_cons_succ, Option.map_some, Option.map_none, Bool.not_true, Bool.not_false, beq_self_eq_true, if_true, if_false, ite_true, ite_false, Bool.false_eq_true, reduceIte, reduceCtorEq, lenL_0, lenL_1, lenL_2, lenL_3, lenL_4, lenL_5, lenL_6, lenL_7, lenL_8, lenL_9, lenL_10, lenL_11, lenL_12, c3]
        rfl)
  subst h7
  have hxs : ∀ xs : List D, (∀ d ∈ xs, ∃ cs, d = strD cs ∧ shpL cs = true ∧ cs.length ≤ 1 + v) → ∃ css : List (List Nat), xs = (css.map tx).map .str ∧ (∀ cs ∈ css, shpL cs = true) ∧ (∀ cs ∈ css, cs.length ≤ 1 + v) := by
    intro xs
    induction xs with
    | nil => exact fun _ => ⟨[], rfl, (fun c h => nomatch h), (fun c h => nomatch h)⟩
    | cons d xs ih =>
      intro h
      obtain ⟨css, a1, a2, a3⟩ := ih fun d m => h d (List.mem_cons_of_mem _ m)
      obtain ⟨cs, rfl, b1, b2⟩ := h d List.mem_cons_self
      exact ⟨cs :: css, by rw [a1]; rfl, fun c m => (List.mem_cons.mp m).elim (fun e => e ▸ b1) (a2 c), fun c m => (List.mem_cons.mp m).elim (fun e => e ▸ b2) (a3 c)⟩
  obtain ⟨css, rfl, a2, a3⟩ := hxs xs h5
  have hlen : css.length = 1 + u := by simpa [rangeL] using h4
  obtain ⟨qs, b1, b2, b3, b4⟩ := sorted_game a2
  have hne : css ≠ [] := by intro e; rw [e] at hlen; simp at hlen; omega
  have hss : sortSetD ((css.map tx).map .str) = some ((qs.map tx).map .str) := by
    rw [sortSet_strs (by simpa using hne) (by simp; omega), b1]
  have hw3 : Tn (k + 26 + 3) wd3 := by
    obtain ⟨j, q1, q2⟩ := h6
    refine ⟨j, ?_, q2⟩
    have : (rangeL 0 (1 + u)).length = 1 + u := by simp [rangeL]
    omega
  obtain ⟨t, ht, wd4, hw4, hd4⟩ := draw (many := 2) hl (by omega) hw3 (by omega)
  have hqs : (qs.map tx).map PyData.str = qs.map strD := by rw [List.map_map]; rfl
  refine ⟨1 + v, qs, ((t : Int) == 0), ⟨by omega, by omega, ?_, by omega, fun c hc => a2 c ((b3 c).mp hc), fun c hc => a3 c ((b3 c).mp hc), b2⟩, by omega, wd4, hw4, Run.ret (sl := [.sc ns, .wr 0, .sh (.int most), .sh (.int (1 + (v : Int))), .sh (.list (qs.map strD)), .no]) ?_⟩
  · obtain ⟨c, r, e⟩ := List.exists_cons_of_ne_nil hne
    have : c ∈ qs := (b3 c).mpr (by rw [e]; exact List.mem_cons_self)
    exact List.length_pos_of_mem this
  · show f__law_some_game ⟨[.sc ns, .wr 0, .sh (.int most), .no, .no, .no], wd⟩ = _
    unfold f__law_some_game
    have hlc := lc_run (mi := iR1 (eBin gAdd (eC (.int 1)) (eCallF 3 m__law_draw (aCons (eN 0) (aCons (eN 1) (aCons (eC (.int 3)) aNil)))))) (en := ⟨[.sc ns, .wr 0, .sh (.int most), .sh (.int (1 + (v : Int))), .no, .no], wd1⟩) (e := ⟨[.sc ns, .wr 0, .sh (.int most), .sh (.int (1 + (v : Int))), .no, .no], wd2⟩) (by simp only [bind_ok, bind_ex, bind_st, get_mk, set_mk, sSeq, sEx, sRet, sIf, sSet, sPass, sEx_, sBk, sAsg, sPar2, sPar3, thenS, dv, toD, eC, eN, eMv, eP, eBin, tst, eChain, tAndM, tOrM, tNotM, eAnd, eOr, eNot, eIf, toA, aNil, aCons, asDs, dvs, eTup, eLst, eCall, eIx, eIxN, itemE, eSl, pNo, pSo, cutD, gLen, eLenN, lenD, gList, gTuple, gN, gT, setAll, eMt, tyD, eIsi, gAdd, gSub, gDiv, gMod, gMul, gPow, gLt, gLe, gGt, gGe, gStr, gMin, gIn, gNotIn, gIs, gIsNot, isD, eLenSc, eIxSc, eScNil, eAppTn, sTown, tYesM, noEx_ok, itemG, stepS, iAll, itemsOf, iR1, iR2, wipeE, restE, keepE, sAug, gIadd, gImul, eApp, eExt, eNeg, List.getD_cons_zero, List.getD_cons_succ, List.set_cons_zero, List.set_cons_succ, List.getElem?_cons_zero, List.getElem?_cons_succ, Option.map_some, Option.map_none, Bool.not_true, Bool.not_false, beq_self_eq_true, if_true, if_false, ite_true, ite_false, Bool.false_eq_true, reduceIte, reduceCtorEq, lenL_0, lenL_1, lenL_2, lenL_3, lenL_4, lenL_5, lenL_6, lenL_7, lenL_8, lenL_9, lenL_10, lenL_11, lenL_12, c2]; simp only [bind_ok, bind_ex, bind_st, get_mk, set_mk, sSeq, sEx, sRet, sIf, sSet, sPass, sEx_, sBk, sAsg, sPar2, sPar3, thenS, dv, toD, eC, eN, eMv, eP, eBin, tst, eChain, tAndM, tOrM, tNotM, eAnd, eOr, eNot, eIf, toA, aNil, aCons, asDs, dvs, eTup, eLst, eCall, eIx, eIxN, itemE, eSl, pNo, pSo, cutD, gLen, eLenN, lenD, gList, gTuple, gN, gT, setAll, eMt, tyD, eIsi, gAdd, gSub, gDiv, gMod, gMul, gPow, gLt, gLe, gGt, gGe, gStr, gMin, gIn, gNotIn, gIs, gIsNot, isD, eLenSc, eIxSc, eScNil, eAppTn, sTown, tYesM, noEx_ok, itemG, stepS, iAll, itemsOf, iR1, iR2, wipeE, restE, keepE, sAug, gIadd, gImul, eApp, eExt, eNeg, List.getD_cons_zero, List.getD_cons_succ, List.set_cons_zero, List.set_cons_succ, List.getElem?_cons_zero, List.getElem?_cons_succ, Option.map_some, Option.map_none, Bool.not_true, Bool.not_false, beq_self_eq_true, if_true, if_false, ite_true, ite_false, Bool.false_eq_true, reduceIte, reduceCtorEq, lenL_0, lenL_1, lenL_2, lenL_3, lenL_4, lenL_5, lenL_6, lenL_7, lenL_8, lenL_9, lenL_10, lenL_11, lenL_12, hn, hr, and_self, Int.toNat_natCast]) h3
    have c4 := call_run (n := 3) (ms := aCons (eN 0) (aCons (eN 1) (aCons (eC (.int 2)) aNil))) (en := ⟨[.sc ns, .wr 0, .sh (.int most), .sh (.int (1 + (v : Int))), .sh (.list (qs.map strD)), .no], wd3⟩) (sl := [.sc ns, .wr 0, .sh (.int most), .sh (.int (1 + (v : Int))), .sh (.list (qs.map strD)), .no]) (by simp only [bind_ok, bind_ex, bind_st, get_mk, set_mk, sSeq, sEx, sRet, sIf, sSet, sPass, sEx_, sBk, sAsg, sPar2, sPar3, thenS, dv, toD, eC, eN, eMv, eP, eBin, tst, eChain, tAndM, tOrM, tNotM, eAnd, eOr, eNot, eIf, toA, aNil, aCons, asDs, dvs, eTup, eLst, eCall, eIx, eIxN, itemE, eSl, pNo, pSo, cutD, gLen, eLenN, lenD, gList, gTuple, gN, gT, setAll, eMt, tyD, eIsi, gAdd, gSub, gDiv, gMod, gMul, gPow, gLt, gLe, gGt, gGe, gStr, gMin, gIn, gNotIn, gIs, gIsNot, isD, eLenSc, eIxSc, eScNil, eAppTn, sTown, tYesM, noEx_ok, itemG, stepS, iAll, itemsOf, iR1, iR2, wipeE, restE, keepE, sAug, gIadd, gImul, eApp, eExt, eNeg, List.getD_cons_zero, List.getD_cons_succ, List.set_cons_zero, List.set_cons_succ, List.getElem?_cons_zero, List.getElem?_cons_succ, Option.map_some, Option.map_none, Bool.not_true, Bool.not_false, beq_self_eq_true, if_true, if_false, ite_true, ite_false, Bool.false_eq_true, reduceIte, reduceCtorEq, lenL_0, lenL_1, lenL_2, lenL_3, lenL_4, lenL_5, lenL_6, lenL_7, lenL_8, lenL_9, lenL_10, lenL_11, lenL_12]; rfl) rfl hd4
    simp only [bind_ok, bind_ex, bind_st, get_mk, set_mk, sSeq, sEx, sRet, sIf, sSet, sPass, sEx_, sBk, sAsg, sPar2, sPar3, thenS, dv, toD, eC, eN, eMv, eP, eBin, tst, eChain, tAndM, tOrM, tNotM, eAnd, eOr, eNot, eIf, toA, aNil, aCons, asDs, dvs, eTup, eLst, eCall, eIx, eIxN, itemE, eSl, pNo, pSo, cutD, gLen, eLenN, lenD, gList, gTuple, gN, gT, setAll, eMt, tyD, eIsi, gAdd, gSub, gDiv, gMod, gMul, gPow, gLt, gLe, gGt, gGe, gStr, gMin, gIn, gNotIn, gIs, gIsNot, isD, eLenSc, eIxSc, eScNil, eAppTn, sTown, tYesM, noEx_ok, itemG, stepS, iAll, itemsOf, iR1, iR2, wipeE, restE, keepE, sAug, gIadd, gImul, eApp, eExt, eNeg, List.getD_cons_zero, List.getD_cons_succ, List.set_cons_zero, List.set_cons_succ, List.getElem?_cons_zero, List.getElem?_cons_succ, Option.map_some, Option.map_none, Bool.not_true, Bool.not_false, beq_self_eq_true, if_true, if_false, ite_true, ite_false, Bool.false_eq_true, reduceIte, reduceCtorEq, lenL_0, lenL_1, lenL_2, lenL_3, lenL_4, lenL_5, lenL_6, lenL_7, lenL_8, lenL_9, lenL_10, lenL_11, lenL_12, c1, hlc, eSortSet, hss, hqs, c4, gEq_int, asDs]
    rfl
end CO

/-! Mf: written games. -/
namespace CO
open PySem PySem.Spec PyProof.Rows L2 PySem.StrLaws TL

theorem ofS (s : String) (cs : List Nat) (h : s.toList.map Char.toNat = cs) : PySem.Str.ofString s = tx cs := by
  rw [PySem.Str.ofString_eq_toList, h]; rfl
theorem ofsp : PySem.Str.ofString " " = tx [32] := ofS _ _ rfl
theorem ofring : PySem.Str.ofString "ring" = tx [114, 105, 110, 103] := ofS _ _ rfl
theorem ofrow : PySem.Str.ofString "row" = tx [114, 111, 119] := ofS _ _ rfl
def rr (r : Bool) : List Nat := if r = true then [114, 105, 110, 103] else [114, 111, 119]
def spl32 (cs : List Nat) : List (List Nat) := spl [32] 0 [] cs
theorem split_tx (cs : List Nat) : Txt.split (tx cs) (tx [32]) = (spl32 cs).map tx := by
  have h := split_spl (tx cs) (tx [32]) (by decide) (kind_ok (by decide +kernel))
  have e : ∀ l : List Str, (l.map tl).map tx = l := fun l => by rw [List.map_map]; exact (List.map_congr_left fun s _ => rfl).trans (List.map_id l)
  rw [← e (Txt.split (tx cs) (tx [32])), h]
  rfl
def gmB (n : Nat) (css : List (List Nat)) : Bool := decide (1 ≤ css.length) && decide (css.length ≤ 3) && css.all shpL && decide (maxI (css.map fun c => (c.length : Int)) ≤ n) && asc css
theorem gameD_gm {n : Nat} (h : 1 ≤ n ∧ n ≤ 8) (css : List (List Nat)) (r : Bool) : gameD (gmD n css r) = gmB n css := by
  show (intIn (.int n) 1 8 && true && shapesD (.tuple (css.map strD)) n) = _
  have e1 : intIn (.int n) 1 8 = true := by
    show (decide ((1 : Int) ≤ n) && decide ((n : Int) ≤ 8)) = true
    rw [decide_eq_true (by omega), decide_eq_true (by omega)]; rfl
  have e2 : (css.map strD).map cpsOf = css := by rw [List.map_map]; exact (List.map_congr_left fun c _ => rfl).trans (List.map_id css)
  have e3 : (css.map strD).all shpD = css.all shpL := by rw [List.all_map]; rfl
  have e4 : (css.map strD).map lenOf = css.map fun c => (c.length : Int) := by
    rw [List.map_map]
    refine List.map_congr_left fun c _ => ?_
    show ((tx c).length : Int) = _
    rw [tx_len]
  rw [e1]
  show (true && true && (decide (1 ≤ (css.map strD).length) && decide ((css.map strD).length ≤ 3) && (css.map strD).all shpD && decide (maxI ((css.map strD).map lenOf) ≤ n) && asc ((css.map strD).map cpsOf))) = _
  rw [List.length_map, e3, e2, e4]
  rfl
/-- a game from its words -/
def parseL (ws : List (List Nat)) : Option (Nat × List (List Nat) × Bool) := match ws with
  | [c] :: w1 :: w2 :: r => if 49 ≤ c ∧ c ≤ 56 ∧ (w1 = rr true ∨ w1 = rr false) ∧ gmB (c - 48) (w2 :: r) = true then some (c - 48, w2 :: r, decide (w1 = rr true)) else none
  | _ => none
theorem parseL_1 (a : List Nat) : parseL [a] = none := by
  rcases a with _ | ⟨x, _ | ⟨y, z⟩⟩ <;> rfl
theorem parseL_2 (a b : List Nat) : parseL [a, b] = none := by
  rcases a with _ | ⟨x, _ | ⟨y, z⟩⟩ <;> rfl
theorem parseL_3 {a b c : List Nat} {r : List (List Nat)} (h : a.length ≠ 1) : parseL (a :: b :: c :: r) = none := by
  rcases a with _ | ⟨x, _ | ⟨y, z⟩⟩
  · rfl
  · exact absurd rfl h
  · rfl
theorem digits8 : PySem.Str.ofString "12345678" = tx [49, 50, 51, 52, 53, 54, 55, 56] := ofS _ _ rfl
theorem int_digit {c : Nat} (h : 49 ≤ c ∧ c ≤ 56) : PySem.intText? (tx [c]) = some ((c - 48 : Nat) : Int) := by
  have : c = 49 ∨ c = 50 ∨ c = 51 ∨ c = 52 ∨ c = 53 ∨ c = 54 ∨ c = 55 ∨ c = 56 := by omega
  rcases this with rfl | rfl | rfl | rfl | rfl | rfl | rfl | rfl <;> decide +kernel
theorem cutL2 {α : Type} (a b : α) (r : List α) : cutL (a :: b :: r) (some 2) none = r := by
  unfold cutL
  rw [show HT.sIx (a :: b :: r).length 0 (some 2) = 2 from by have := HT.sIx_nat (a :: b :: r).length 0 2; rw [show ((2 : Nat) : Int) = 2 from rfl] at this; rw [this]; simp, HT.sIx_none]
  exact List.take_of_length_le (by simp)
theorem tx_beq (a b : List Nat) : (tx a == tx b) = decide (a = b) := by
  by_cases h : a = b
  · subst h; simp
  · rw [decide_eq_false h]
    exact beq_false_of_ne fun e => h (tx_inj e)
def Sane (cs : List Nat) : Prop := cs.length ≤ 1000 ∧ ∀ c ∈ cs, c < 1114112
theorem spl_mem {S : List Nat} : ∀ (l : List Nat) (k : Nat) (acc w : List Nat), w ∈ spl S k acc l → (∀ c ∈ w, c ∈ acc ∨ c ∈ l) ∧ w.length ≤ acc.length + l.length
  | [], k, acc, w, h => by
    unfold spl at h
    rw [List.mem_singleton.mp h]
    exact ⟨fun c hc => .inl hc, Nat.le_add_right _ _⟩
  | c :: r, 0, acc, w, h => by
    unfold spl at h
    split at h
    · rcases List.mem_cons.mp h with e | h
      · rw [e]
        exact ⟨fun c hc => .inl hc, Nat.le_add_right _ _⟩
      · obtain ⟨a, b⟩ := spl_mem r _ [] w h
        refine ⟨fun d hd => (a d hd).elim (fun z => nomatch z) (fun z => .inr (List.mem_cons_of_mem _ z)), ?_⟩
        simp at b ⊢
        omega
    · obtain ⟨a, b⟩ := spl_mem r 0 (acc ++ [c]) w h
      refine ⟨fun d hd => ?_, ?_⟩
      · rcases a d hd with z | z
        · rcases List.mem_append.mp z with z | z
          · exact .inl z
          · rw [List.mem_singleton.mp z]; exact .inr List.mem_cons_self
        · exact .inr (List.mem_cons_of_mem _ z)
      · simp at b ⊢
        omega
  | c :: r, k + 1, acc, w, h => by
    unfold spl at h
    obtain ⟨a, b⟩ := spl_mem r k acc w h
    exact ⟨fun d hd => (a d hd).elim .inl fun z => .inr (List.mem_cons_of_mem _ z), by simp; omega⟩
theorem spl_len {S : List Nat} : ∀ (l : List Nat) (k : Nat) (acc : List Nat), (spl S k acc l).length ≤ l.length + 1
  | [], k, acc => by unfold spl; simp
  | c :: r, 0, acc => by
    unfold spl
    split
    · have := spl_len (S := S) r (S.length - 1) []
      simp; omega
    · have := spl_len (S := S) r 0 (acc ++ [c])
      simp; omega
  | c :: r, k + 1, acc => by
    unfold spl
    have := spl_len (S := S) r k acc
    simp; omega
theorem parse_none {d : D} {wd : List Ob} (h : isT "str" d = false) : RunX m_parse_game [.sh d] wd 9 wd := by
  refine RunX.of (sl := [.sh d, .no, .no]) ?_
  show f_parse_game ⟨[.sh d, .no, .no], wd⟩ = _
  unfold f_parse_game
  simp only [bind_ok, bind_ex, bind_st, get_mk, set_mk, sSeq, sEx, sRet, sIf, sSet, sPass, sEx_, sBk, sAsg, sPar2, sPar3, thenS, dv, toD, eC, eN, eMv, eP, eBin, tst, eChain, tAndM, tOrM, tNotM, eAnd, eOr, eNot, eIf, toA, aNil, aCons, asDs, dvs, eTup, eLst, eCall, eIx, eIxN, itemE, eSl, pNo, pSo, cutD, gLen, eLenN, lenD, gList, gTuple, gN, gT, setAll, eMt, tyD, eIsi, gAdd, gSub, gDiv, gMod, gMul, gPow, gLt, gLe, gGt, gGe, gStr, gMin, gIn, gNotIn, gIs, gIsNot, isD, eLenSc, eIxSc, eScNil, eAppTn, sTown, tYesM, noEx_ok, itemG, stepS, iAll, itemsOf, iR1, iR2, wipeE, restE, keepE, sAug, gIadd, gImul, eApp, eExt, eNeg, List.getD_cons_zero, List.getD_cons_succ, List.set_cons_zero, List.set_cons_succ, List.getElem?_cons_zero, List.getElem?_cons_succ, Option.map_some, Option.map_none, Bool.not_true, Bool.not_false, beq_self_eq_true, if_true, if_false, ite_true, ite_false, Bool.false_eq_true, reduceIte, reduceCtorEq, lenL_0, lenL_1, lenL_2, lenL_3, lenL_4, lenL_5, lenL_6, lenL_7, lenL_8, lenL_9, lenL_10, lenL_11, lenL_12, h]
theorem parse_run {cs : List Nat} {wd : List Ob} (h : Sane cs) : match parseL (spl32 cs) with | some (n, css, r) => Run m_parse_game [.sh (.str (tx cs))] wd (.sh (gmD n css r)) wd | none => RunX m_parse_game [.sh (.str (tx cs))] wd 9 wd := by
  have hlim : lim = 100000 := rfl
  have hw : ∀ w ∈ spl32 cs, (∀ c ∈ w, c < 1114112) ∧ w.length ≤ 1000 := fun w hw => by
    obtain ⟨a, b⟩ := spl_mem cs 0 [] w hw
    exact ⟨fun c hc => (a c hc).elim (fun z => nomatch z) (h.2 c), by have := h.1; simp at b; omega⟩
  have hn : (spl32 cs).length ≤ 1001 := by have := spl_len (S := [32]) cs 0 []; have := h.1; show (spl [32] 0 [] cs).length ≤ _; omega
  have hsp : (tx cs).length ≤ lim - 2 ∧ ((tx [32]).length == 0) = false := ⟨by rw [tx_len]; have := h.1; omega, by decide⟩
  have hmap : (Txt.split (tx cs) (tx [32])).map PyData.str = (spl32 cs).map strD := by rw [split_tx, List.map_map]; rfl
  generalize spl32 cs = W at *
  have stop : ∀ (e : f_parse_game ⟨[.sh (.str (tx cs)), .no, .no], wd⟩ = .ex 9 ⟨[.sh (.str (tx cs)), .ow (W.map strD), .no], wd⟩), RunX m_parse_game [.sh (.str (tx cs))] wd 9 wd := fun e => RunX.of (sl := [.sh (.str (tx cs)), .ow (W.map strD), .no]) e
  match W, hw, hn, hmap, stop with
  | [], _, _, hmap, stop =>
    refine stop ?_
    unfold f_parse_game
    simp only [bind_ok, bind_ex, bind_st, get_mk, set_mk, sSeq, sEx, sRet, sIf, sSet, sPass, sEx_, sBk, sAsg, sPar2, sPar3, thenS, dv, toD, eC, eN, eMv, eP, eBin, tst, eChain, tAndM, tOrM, tNotM, eAnd, eOr, eNot, eIf, toA, aNil, aCons, asDs, dvs, eTup, eLst, eCall, eIx, eIxN, itemE, eSl, pNo, pSo, cutD, gLen, eLenN, lenD, gList, gTuple, gN, gT, setAll, eMt, tyD, eIsi, gAdd, gSub, gDiv, gMod, gMul, gPow, gLt, gLe, gGt, gGe, gStr, gMin, gIn, gNotIn, gIs, gIsNot, isD, eLenSc, eIxSc, eScNil, eAppTn, sTown, tYesM, noEx_ok, itemG, stepS, iAll, itemsOf, iR1, iR2, wipeE, restE, keepE, sAug, gIadd, gImul, eApp, eExt, eNeg, List.getD_cons_zero, List.getD_cons_succ, List.set_cons_zero, List.set_cons_succ, List.getElem?_cons_zero, List.getElem?_cons_succ, Option.map_some, Option.map_none, Bool.not_true, Bool.not_false, beq_self_eq_true, if_true, if_false, ite_true, ite_false, Bool.false_eq_true, reduceIte, reduceCtorEq, lenL_0, lenL_1, lenL_2, lenL_3, lenL_4, lenL_5, lenL_6, lenL_7, lenL_8, lenL_9, lenL_10, lenL_11, lenL_12, isT_int_none, isT_int_bool, isT_int_int, isT_int_str, isT_int_list, isT_int_tuple, isT_bool_none, isT_bool_bool, isT_bool_int, isT_bool_str, isT_bool_list, isT_bool_tuple, isT_str_none, isT_str_bool, isT_str_int, isT_str_str, isT_str_list, isT_str_tuple, isT_tuple_none, isT_tuple_bool, isT_tuple_int, isT_tuple_str, isT_tuple_list, isT_tuple_tuple, isT_list_none, isT_list_bool, isT_list_int, isT_list_str, isT_list_list, isT_list_tuple, ofsp, gSplit, if_pos hsp, hmap, List.map_nil, List.length_nil, show decide (((0 : Nat) : Int) < 3) = true from rfl]
  | [a], _, _, hmap, stop =>
    rw [parseL_1]
    refine stop ?_
    unfold f_parse_game
    simp only [bind_ok, bind_ex, bind_st, get_mk, set_mk, sSeq, sEx, sRet, sIf, sSet, sPass, sEx_, sBk, sAsg, sPar2, sPar3, thenS, dv, toD, eC, eN, eMv, eP, eBin, tst, eChain, tAndM, tOrM, tNotM, eAnd, eOr, eNot, eIf, toA, aNil, aCons, asDs, dvs, eTup, eLst, eCall, eIx, eIxN, itemE, eSl, pNo, pSo, cutD, gLen, eLenN, lenD, gList, gTuple, gN, gT, setAll, eMt, tyD, eIsi, gAdd, gSub, gDiv, gMod, gMul, gPow, gLt, gLe, gGt, gGe, gStr, gMin, gIn, gNotIn, gIs, gIsNot, isD, eLenSc, eIxSc, eScNil, eAppTn, sTown, tYesM, noEx_ok, itemG, stepS, iAll, itemsOf, iR1, iR2, wipeE, restE, keepE, sAug, gIadd, gImul, eApp, eExt, eNeg, List.getD_cons_zero, List.getD_cons_succ, List.set_cons_zero, List.set_cons_succ, List.getElem?_cons_zero, List.getElem?_cons_succ, Option.map_some, Option.map_none, Bool.not_true, Bool.not_false, beq_self_eq_true, if_true, if_false, ite_true, ite_false, Bool.false_eq_true, reduceIte, reduceCtorEq, lenL_0, lenL_1, lenL_2, lenL_3, lenL_4, lenL_5, lenL_6, lenL_7, lenL_8, lenL_9, lenL_10, lenL_11, lenL_12, isT_int_none, isT_int_bool, isT_int_int, isT_int_str, isT_int_list, isT_int_tuple, isT_bool_none, isT_bool_bool, isT_bool_int, isT_bool_str, isT_bool_list, isT_bool_tuple, isT_str_none, isT_str_bool, isT_str_int, isT_str_str, isT_str_list, isT_str_tuple, isT_tuple_none, isT_tuple_bool, isT_tuple_int, isT_tuple_str, isT_tuple_list, isT_tuple_tuple, isT_list_none, isT_list_bool, isT_list_int, isT_list_str, isT_list_list, isT_list_tuple, ofsp, gSplit, if_pos hsp, hmap, List.map_nil, List.map_cons, List.length_nil, List.length_cons, show decide (((0 + 1 : Nat) : Int) < 3) = true from rfl]
  | [a, b], _, _, hmap, stop =>
    rw [parseL_2]
    refine stop ?_
    unfold f_parse_game
    simp only [bind_ok, bind_ex, bind_st, get_mk, set_mk, sSeq, sEx, sRet, sIf, sSet, sPass, sEx_, sBk, sAsg, sPar2, sPar3, thenS, dv, toD, eC, eN, eMv, eP, eBin, tst, eChain, tAndM, tOrM, tNotM, eAnd, eOr, eNot, eIf, toA, aNil, aCons, asDs, dvs, eTup, eLst, eCall, eIx, eIxN, itemE, eSl, pNo, pSo, cutD, gLen, eLenN, lenD, gList, gTuple, gN, gT, setAll, eMt, tyD, eIsi, gAdd, gSub, gDiv, gMod, gMul, gPow, gLt, gLe, gGt, gGe, gStr, gMin, gIn, gNotIn, gIs, gIsNot, isD, eLenSc, eIxSc, eScNil, eAppTn, sTown, tYesM, noEx_ok, itemG, stepS, iAll, itemsOf, iR1, iR2, wipeE, restE, keepE, sAug, gIadd, gImul, eApp, eExt, eNeg, List.getD_cons_zero, List.getD_cons_succ, List.set_cons_zero, List.set_cons_succ, List.getElem?_cons_zero, List.getElem?_cons_succ, Option.map_some, Option.map_none, Bool.not_true, Bool.not_false, beq_self_eq_true, if_true, if_false, ite_true, ite_false, Bool.false_eq_true, reduceIte, reduceCtorEq, lenL_0, lenL_1, lenL_2, lenL_3, lenL_4, lenL_5, lenL_6, lenL_7, lenL_8, lenL_9, lenL_10, lenL_11, lenL_12, isT_int_none, isT_int_bool, isT_int_int, isT_int_str, isT_int_list, isT_int_tuple, isT_bool_none, isT_bool_bool, isT_bool_int, isT_bool_str, isT_bool_list, isT_bool_tuple, isT_str_none, isT_str_bool, isT_str_int, isT_str_str, isT_str_list, isT_str_tuple, isT_tuple_none, isT_tuple_bool, isT_tuple_int, isT_tuple_str, isT_tuple_list, isT_tuple_tuple, isT_list_none, isT_list_bool, isT_list_int, isT_list_str, isT_list_list, isT_list_tuple, ofsp, gSplit, if_pos hsp, hmap, List.map_nil, List.map_cons, List.length_nil, List.length_cons, show decide (((0 + 1 + 1 : Nat) : Int) < 3) = true from rfl]
  | a :: b :: c :: r, hw, hn, hmap, stop =>
    have h3 : decide (((((a :: b :: c :: r).map strD).length : Nat) : Int) < 3) = false := by
      rw [List.length_map]; exact decide_eq_false (by simp; omega)
    have ha := hw a List.mem_cons_self
    have hb := hw b (List.mem_cons_of_mem _ List.mem_cons_self)
    have a0 : atI ((a :: b :: c :: r).map strD) 0 = some (.str (tx a)) := atI_0
    have a1 : atI ((a :: b :: c :: r).map strD) 1 = some (.str (tx b)) := by
      have := atI_in (xs := (a :: b :: c :: r).map strD) (i := 1) (by simp)
      exact this
    have la : (tx a).length ≤ lim := by rw [tx_len]; have := ha.2; omega
    by_cases h1 : a.length = 1
    · obtain ⟨x, rfl⟩ := List.length_eq_one_iff.mp h1
      have hd : inS (tx [x]) (tx [49, 50, 51, 52, 53, 54, 55, 56]) = decide (49 ≤ x ∧ x ≤ 56) := by
        show inS ⟨#[x]⟩ _ = _
        rw [inS_one, tx_cps]
        refine decide_eq_decide.mpr ?_
        simp only [List.mem_cons, List.not_mem_nil, or_false]
        omega
      have hd' : gInB (.str (tx [x])) (.str (tx [49, 50, 51, 52, 53, 54, 55, 56])) = some (decide (49 ≤ x ∧ x ≤ 56)) := congrArg some hd
      have hl1 : ((((tx [x]).length : Nat) : Int) == 1) = true := by rw [tx_len]; rfl
      by_cases hx : 49 ≤ x ∧ x ≤ 56
      · have hin : gInB (.str (tx b)) (.tuple [.str (tx [114, 105, 110, 103]), .str (tx [114, 111, 119])]) = some (decide (b = rr true ∨ b = rr false)) := by
          show (if flatD (.str (tx b)) = true ∧ [PyData.str (tx [114, 105, 110, 103]), .str (tx [114, 111, 119])].all flatD = true then some ([PyData.str (tx [114, 105, 110, 103]), .str (tx [114, 111, 119])].any fun z => PyData.eqv z (.str (tx b))) else none) = _
          rw [if_pos ⟨rfl, rfl⟩]
          simp only [List.any_cons, List.any_nil, isD_beq_str, tx_beq, Bool.or_false]
          congr 1
          rw [← Bool.decide_or]
          refine decide_eq_decide.mpr ?_
          show ([114, 105, 110, 103] = b ∨ [114, 111, 119] = b) ↔ (b = [114, 105, 110, 103] ∨ b = [114, 111, 119])
          exact ⟨fun z => z.imp Eq.symm Eq.symm, fun z => z.imp Eq.symm Eq.symm⟩
        have l2 : (0 + 1 + 1 : Nat) ≤ lim := by decide
        by_cases hbb : b = rr true ∨ b = rr false
        · have hgi : ∀ e, gInt [.str (tx [x])] e = .ok (.sh (.int ((x - 48 : Nat) : Int))) e := fun e => by
            show (if (tx [x]).length ≤ 640 then match PySem.intText? (tx [x]) with | some n => R.ok (Ent.sh (.int n)) e | none => .st else .st) = _
            rw [if_pos (by rw [tx_len]; simp), int_digit hx]
          have hcut : cutL (([x] :: b :: c :: r).map strD) (some 2) none = (c :: r).map strD := cutL2 _ _ _
          have hr2 : PyData.strOk (tx [114, 105, 110, 103]) = true := strOk_tx (by decide)
          have hbo : PyData.strOk (tx b) = true := strOk_tx hb.1
          have hb0 : gIn (.str (tx b)) (.tuple [.str (tx [114, 105, 110, 103]), .str (tx [114, 111, 119])]) = fun e => .ok (.sh (.bool true)) e := by
            funext e
            unfold gIn
            rw [hin, decide_eq_true hbb]
          have l3 : (0 + 1 + 1 + 1 : Nat) ≤ lim := by decide
          have hrr : (tx b == tx [114, 105, 110, 103]) = decide (b = rr true) := tx_beq _ _
          have hok : gOk (gmD (x - 48) (c :: r) (decide (b = rr true))) = true := by
            show (decide (((c :: r).map strD).length ≤ lim) && ((c :: r).map strD).all txtOk) = true
            have : (c :: r).length ≤ 1001 := by have := hn; simp at this ⊢; omega
            rw [List.length_map, decide_eq_true (by omega), Bool.true_and, List.all_map, List.all_eq_true]
            intro w hw1
            have := (hw w (List.mem_cons_of_mem _ (List.mem_cons_of_mem _ hw1))).2
            show decide ((tx w).length ≤ lim) = true
            rw [tx_len]
            exact decide_eq_true (by omega)
          have hg := call_run (n := 1) (ms := aCons (eN 2) aNil) (en := ⟨[.sh (.str (tx cs)), .sh (.list (([x] :: b :: c :: r).map strD)), .sh (gmD (x - 48) (c :: r) (decide (b = rr true)))], wd⟩) (sl := [.sh (.str (tx cs)), .sh (.list (([x] :: b :: c :: r).map strD)), .sh (gmD (x - 48) (c :: r) (decide (b = rr true)))]) (by simp only [bind_ok, bind_ex, bind_st, get_mk, set_mk, sSeq, sEx, sRet, sIf, sSet, sPass, sEx_, sBk, sAsg, sPar2, sPar3, thenS, dv, toD, eC, eN, eMv, eP, eBin, tst, eChain, tAndM, tOrM, tNotM, eAnd, eOr, eNot, eIf, toA, aNil, aCons, asDs, dvs, eTup, eLst, eCall, eIx, eIxN, itemE, eSl, pNo, pSo, cutD, gLen, eLenN, lenD, gList, gTuple, gN, gT, setAll, eMt, tyD, eIsi, gAdd, gSub, gDiv, gMod, gMul, gPow, gLt, gLe, gGt, gGe, gStr, gMin, gIn, gNotIn, gIs, gIsNot, isD, eLenSc, eIxSc, eScNil, eAppTn, sTown, tYesM, noEx_ok, itemG, stepS, iAll, itemsOf, iR1, iR2, wipeE, restE, keepE, sAug, gIadd, gImul, eApp, eExt, eNeg, List.getD_cons_zero, List.getD_cons_succ, List.set_cons_zero, List.set_cons_succ, List.getElem?_cons_zero, List.getElem?_cons_succ, Option.map_some, Option.map_none, Bool.not_true, Bool.not_false, beq_self_eq_true, if_true, if_false, ite_true, ite_false, Bool.false_eq_true, reduceIte, reduceCtorEq, lenL_0, lenL_1, lenL_2, lenL_3, lenL_4, lenL_5, lenL_6, lenL_7, lenL_8, lenL_9, lenL_10, lenL_11, lenL_12]) rfl (is_game_run (wd := wd) hok)
          rw [gameD_gm (by omega)] at hg
          unfold gmD at hg
          cases hgm : gmB (x - 48) (c :: r)
          · have hp : parseL ([x] :: b :: c :: r) = none := by
              show (if _ then some _ else none) = none
              rw [if_neg fun z => by rw [hgm] at z; exact Bool.false_ne_true z.2.2.2]
            rw [hp]
            refine RunX.of (sl := [.sh (.str (tx cs)), .sh (.list (([x] :: b :: c :: r).map strD)), .sh (gmD (x - 48) (c :: r) (decide (b = rr true)))]) ?_
            show f_parse_game ⟨[.sh (.str (tx cs)), .no, .no], wd⟩ = _
            rw [hgm] at hg
            unfold f_parse_game
            unfold gmD
            simp only [bind_ok, bind_ex, bind_st, get_mk, set_mk, sSeq, sEx, sRet, sIf, sSet, sPass, sEx_, sBk, sAsg, sPar2, sPar3, thenS, dv, toD, eC, eN, eMv, eP, eBin, tst, eChain, tAndM, tOrM, tNotM, eAnd, eOr, eNot, eIf, toA, aNil, aCons, asDs, dvs, eTup, eLst, eCall, eIx, eIxN, itemE, eSl, pNo, pSo, cutD, gLen, eLenN, lenD, gList, gTuple, gN, gT, setAll, eMt, tyD, eIsi, gAdd, gSub, gDiv, gMod, gMul, gPow, gLt, gLe, gGt, gGe, gStr, gMin, gIn, gNotIn, gIs, gIsNot, isD, eLenSc, eIxSc, eScNil, eAppTn, sTown, tYesM, noEx_ok, itemG, stepS, iAll, itemsOf, iR1, iR2, wipeE, restE, keepE, sAug, gIadd, gImul, eApp, eExt, eNeg, List.getD_cons_zero, List.getD_cons_succ, List.set_cons_zero, List.set_cons_succ, List.getElem?_cons_zero, List.getElem?_cons_succ, Option.map_some, Option.map_none, Bool.not_true, Bool.not_false, beq_self_eq_true, if_true, if_false, ite_true, ite_false, Bool.false_eq_true, reduceIte, reduceCtorEq, lenL_0, lenL_1, lenL_2, lenL_3, lenL_4, lenL_5, lenL_6, lenL_7, lenL_8, lenL_9, lenL_10, lenL_11, lenL_12, isT_int_none, isT_int_bool, isT_int_int, isT_int_str, isT_int_list, isT_int_tuple, isT_bool_none, isT_bool_bool, isT_bool_int, isT_bool_str, isT_bool_list, isT_bool_tuple, isT_str_none, isT_str_bool, isT_str_int, isT_str_str, isT_str_list, isT_str_tuple, isT_tuple_none, isT_tuple_bool, isT_tuple_int, isT_tuple_str, isT_tuple_list, isT_tuple_tuple, isT_list_none, isT_list_bool, isT_list_int, isT_list_str, isT_list_list, isT_list_tuple, ofsp, gSplit, if_pos hsp, hmap, h3, a0, a1, la, gNe_int, hl1, digits8, hd', decide_eq_true hx, ofring, ofrow, hin, decide_eq_true hbb, hcut, hgi, gEq_str hbo hr2, hrr, l2, l3, hg]
          · have hp : parseL ([x] :: b :: c :: r) = some (x - 48, c :: r, decide (b = rr true)) := by
              show (if _ then some _ else none) = _
              rw [if_pos ⟨hx.1, hx.2, hbb, hgm⟩]
            rw [hp]
            refine Run.ret (sl := [.sh (.str (tx cs)), .sh (.list (([x] :: b :: c :: r).map strD)), .sh (gmD (x - 48) (c :: r) (decide (b = rr true)))]) ?_
            show f_parse_game ⟨[.sh (.str (tx cs)), .no, .no], wd⟩ = _
            rw [hgm] at hg
            unfold f_parse_game
            unfold gmD
            simp only [bind_ok, bind_ex, bind_st, get_mk, set_mk, sSeq, sEx, sRet, sIf, sSet, sPass, sEx_, sBk, sAsg, sPar2, sPar3, thenS, dv, toD, eC, eN, eMv, eP, eBin, tst, eChain, tAndM, tOrM, tNotM, eAnd, eOr, eNot, eIf, toA, aNil, aCons, asDs, dvs, eTup, eLst, eCall, eIx, eIxN, itemE, eSl, pNo, pSo, cutD, gLen, eLenN, lenD, gList, gTuple, gN, gT, setAll, eMt, tyD, eIsi, gAdd, gSub, gDiv, gMod, gMul, gPow, gLt, gLe, gGt, gGe, gStr, gMin, gIn, gNotIn, gIs, gIsNot, isD, eLenSc, eIxSc, eScNil, eAppTn, sTown, tYesM, noEx_ok, itemG, stepS, iAll, itemsOf, iR1, iR2, wipeE, restE, keepE, sAug, gIadd, gImul, eApp, eExt, eNeg, List.getD_cons_zero, List.getD_cons_succ, List.set_cons_zero, List.set_cons_succ, List.getElem?_cons_zero, List.getElem?_cons_succ, Option.map_some, Option.map_none, Bool.not_true, Bool.not_false, beq_self_eq_true, if_true, if_false, ite_true, ite_false, Bool.false_eq_true, reduceIte, reduceCtorEq, lenL_0, lenL_1, lenL_2, lenL_3, lenL_4, lenL_5, lenL_6, lenL_7, lenL_8, lenL_9, lenL_10, lenL_11, lenL_12, isT_int_none, isT_int_bool, isT_int_int, isT_int_str, isT_int_list, isT_int_tuple, isT_bool_none, isT_bool_bool, isT_bool_int, isT_bool_str, isT_bool_list, isT_bool_tuple, isT_str_none, isT_str_bool, isT_str_int, isT_str_str, isT_str_list, isT_str_tuple, isT_tuple_none, isT_tuple_bool, isT_tuple_int, isT_tuple_str, isT_tuple_list, isT_tuple_tuple, isT_list_none, isT_list_bool, isT_list_int, isT_list_str, isT_list_list, isT_list_tuple, ofsp, gSplit, if_pos hsp, hmap, h3, a0, a1, la, gNe_int, hl1, digits8, hd', decide_eq_true hx, ofring, ofrow, hin, decide_eq_true hbb, hcut, hgi, gEq_str hbo hr2, hrr, l2, l3, hg]
        · have hp : parseL ([x] :: b :: c :: r) = none := by
            show (if _ then some _ else none) = none
            rw [if_neg fun z => hbb z.2.2.1]
          rw [hp]
          refine stop ?_
          unfold f_parse_game
          simp only [bind_ok, bind_ex, bind_st, get_mk, set_mk, sSeq, sEx, sRet, sIf, sSet, sPass, sEx_, sBk, sAsg, sPar2, sPar3, thenS, dv, toD, eC, eN, eMv, eP, eBin, tst, eChain, tAndM, tOrM, tNotM, eAnd, eOr, eNot, eIf, toA, aNil, aCons, asDs, dvs, eTup, eLst, eCall, eIx, eIxN, itemE, eSl, pNo, pSo, cutD, gLen, eLenN, lenD, gList, gTuple, gN, gT, setAll, eMt, tyD, eIsi, gAdd, gSub, gDiv, gMod, gMul, gPow, gLt, gLe, gGt, gGe, gStr, gMin, gIn, gNotIn, gIs, gIsNot, isD, eLenSc, eIxSc, eScNil, eAppTn, sTown, tYesM, noEx_ok, itemG, stepS, iAll, itemsOf, iR1, iR2, wipeE, restE, keepE, sAug, gIadd, gImul, eApp, eExt, eNeg, List.getD_cons_zero, List.getD_cons_succ, List.set_cons_zero, List.set_cons_succ, List.getElem?_cons_zero, List.getElem?_cons_succ, Option.map_some, Option.map_none, Bool.not_true, Bool.not_false, beq_self_eq_true, if_true, if_false, ite_true, ite_false, Bool.false_eq_true, reduceIte, reduceCtorEq, lenL_0, lenL_1, lenL_2, lenL_3, lenL_4, lenL_5, lenL_6, lenL_7, lenL_8, lenL_9, lenL_10, lenL_11, lenL_12, isT_int_none, isT_int_bool, isT_int_int, isT_int_str, isT_int_list, isT_int_tuple, isT_bool_none, isT_bool_bool, isT_bool_int, isT_bool_str, isT_bool_list, isT_bool_tuple, isT_str_none, isT_str_bool, isT_str_int, isT_str_str, isT_str_list, isT_str_tuple, isT_tuple_none, isT_tuple_bool, isT_tuple_int, isT_tuple_str, isT_tuple_list, isT_tuple_tuple, isT_list_none, isT_list_bool, isT_list_int, isT_list_str, isT_list_list, isT_list_tuple, ofsp, gSplit, if_pos hsp, hmap, h3, a0, a1, la, gNe_int, hl1, digits8, hd', decide_eq_true hx, ofring, ofrow, hin, decide_eq_false hbb, l2]
      · have hp : parseL ([x] :: b :: c :: r) = none := by
          show (if _ then some _ else none) = none
          rw [if_neg fun z => hx ⟨z.1, z.2.1⟩]
        rw [hp]
        refine stop ?_
        unfold f_parse_game
        simp only [bind_ok, bind_ex, bind_st, get_mk, set_mk, sSeq, sEx, sRet, sIf, sSet, sPass, sEx_, sBk, sAsg, sPar2, sPar3, thenS, dv, toD, eC, eN, eMv, eP, eBin, tst, eChain, tAndM, tOrM, tNotM, eAnd, eOr, eNot, eIf, toA, aNil, aCons, asDs, dvs, eTup, eLst, eCall, eIx, eIxN, itemE, eSl, pNo, pSo, cutD, gLen, eLenN, lenD, gList, gTuple, gN, gT, setAll, eMt, tyD, eIsi, gAdd, gSub, gDiv, gMod, gMul, gPow, gLt, gLe, gGt, gGe, gStr, gMin, gIn, gNotIn, gIs, gIsNot, isD, eLenSc, eIxSc, eScNil, eAppTn, sTown, tYesM, noEx_ok, itemG, stepS, iAll, itemsOf, iR1, iR2, wipeE, restE, keepE, sAug, gIadd, gImul, eApp, eExt, eNeg, List.getD_cons_zero, List.getD_cons_succ, List.set_cons_zero, List.set_cons_succ, List.getElem?_cons_zero, List.getElem?_cons_succ, Option.map_some, Option.map_none, Bool.not_true, Bool.not_false, beq_self_eq_true, if_true, if_false, ite_true, ite_false, Bool.false_eq_true, reduceIte, reduceCtorEq, lenL_0, lenL_1, lenL_2, lenL_3, lenL_4, lenL_5, lenL_6, lenL_7, lenL_8, lenL_9, lenL_10, lenL_11, lenL_12, isT_int_none, isT_int_bool, isT_int_int, isT_int_str, isT_int_list, isT_int_tuple, isT_bool_none, isT_bool_bool, isT_bool_int, isT_bool_str, isT_bool_list, isT_bool_tuple, isT_str_none, isT_str_bool, isT_str_int, isT_str_str, isT_str_list, isT_str_tuple, isT_tuple_none, isT_tuple_bool, isT_tuple_int, isT_tuple_str, isT_tuple_list, isT_tuple_tuple, isT_list_none, isT_list_bool, isT_list_int, isT_list_str, isT_list_list, isT_list_tuple, ofsp, gSplit, if_pos hsp, hmap, h3, a0, la, gNe_int, hl1, digits8, hd', decide_eq_false hx]
    · rw [parseL_3 h1]
      have hl1 : (((tx a).length : Int) == 1) = false := by rw [tx_len]; simp; omega
      refine stop ?_
      unfold f_parse_game
      simp only [bind_ok, bind_ex, bind_st, get_mk, set_mk, sSeq, sEx, sRet, sIf, sSet, sPass, sEx_, sBk, sAsg, sPar2, sPar3, thenS, dv, toD, eC, eN, eMv, eP, eBin, tst, eChain, tAndM, tOrM, tNotM, eAnd, eOr, eNot, eIf, toA, aNil, aCons, asDs, dvs, eTup, eLst, eCall, eIx, eIxN, itemE, eSl, pNo, pSo, cutD, gLen, eLenN, lenD, gList, gTuple, gN, gT, setAll, eMt, tyD, eIsi, gAdd, gSub, gDiv, gMod, gMul, gPow, gLt, gLe, gGt, gGe, gStr, gMin, gIn, gNotIn, gIs, gIsNot, isD, eLenSc, eIxSc, eScNil, eAppTn, sTown, tYesM, noEx_ok, itemG, stepS, iAll, itemsOf, iR1, iR2, wipeE, restE, keepE, sAug, gIadd, gImul, eApp, eExt, eNeg, List.getD_cons_zero, List.getD_cons_succ, List.set_cons_zero, List.set_cons_succ, List.getElem?_cons_zero, List.getElem?_cons_succ, Option.map_some, Option.map_none, Bool.not_true, Bool.not_false, beq_self_eq_true, if_true, if_false, ite_true, ite_false, Bool.false_eq_true, reduceIte, reduceCtorEq, lenL_0, lenL_1, lenL_2, lenL_3, lenL_4, lenL_5, lenL_6, lenL_7, lenL_8, lenL_9, lenL_10, lenL_11, lenL_12, isT_int_none, isT_int_bool, isT_int_int, isT_int_str, isT_int_list, isT_int_tuple, isT_bool_none, isT_bool_bool, isT_bool_int, isT_bool_str, isT_bool_list, isT_bool_tuple, isT_str_none, isT_str_bool, isT_str_int, isT_str_str, isT_str_list, isT_str_tuple, isT_tuple_none, isT_tuple_bool, isT_tuple_int, isT_tuple_str, isT_tuple_list, isT_tuple_tuple, isT_list_none, isT_list_bool, isT_list_int, isT_list_str, isT_list_list, isT_list_tuple, ofsp, gSplit, if_pos hsp, hmap, h3, a0, la, gNe_int, hl1]
end CO

/-! Mg: format, read. -/
namespace CO
open PySem PySem.Spec PyProof.Rows L2 PySem.StrLaws TL

/-- the words of a game -/
def wordsL (n : Nat) (css : List (List Nat)) (r : Bool) : List (List Nat) := [48 + n] :: rr r :: css
/-- the signs of a written game -/
def gtL (n : Nat) (css : List (List Nat)) (r : Bool) : List Nat := joinL [32] (wordsL n css r)
theorem num_tx {n : Nat} (h : n < 10) : PySem.Str.ofString (toString ((n : Nat) : Int)) = tx [48 + n] := by
  have := tl_num n
  rw [numL_lt h] at this
  exact ext_tl this
theorem join_txs (ws : List (List Nat)) : Txt.join (tx [32]) (ws.map tx) = tx (joinL [32] ws) := by
  refine ext_tl ?_
  rw [join_eq, tl_join]
  have e : (ws.map tx).map tl = ws := by rw [List.map_map]; exact (List.map_congr_left fun s _ => rfl).trans (List.map_id ws)
  rw [e]
  rfl
theorem joinL_len : ∀ (ws : List (List Nat)), (joinL [32] ws).length ≤ (ws.map List.length).sum + ws.length
  | [] => Nat.zero_le _
  | [p] => by show p.length ≤ _; simp
  | p :: q :: r => by
    have := joinL_len (q :: r)
    show (p ++ ([32] ++ joinL [32] (q :: r))).length ≤ _
    simp at this ⊢
    omega
theorem joinL_mem : ∀ (ws : List (List Nat)) (c : Nat), c ∈ joinL [32] ws → c = 32 ∨ ∃ w ∈ ws, c ∈ w
  | [], c, h => nomatch h
  | [p], c, h => .inr ⟨p, List.mem_singleton.mpr rfl, h⟩
  | p :: q :: r, c, h => by
    have h' : c ∈ p ++ ([32] ++ joinL [32] (q :: r)) := h
    rcases List.mem_append.mp h' with h | h
    · exact .inr ⟨p, List.mem_cons_self, h⟩
    · rcases List.mem_append.mp h with h | h
      · exact .inl (List.mem_singleton.mp h)
      · rcases joinL_mem (q :: r) c h with h | ⟨w, hw, hc⟩
        · exact .inl h
        · exact .inr ⟨w, List.mem_cons_of_mem _ hw, hc⟩
theorem shp_of {cs : List Nat} (h : shpL cs = true) : 1 ≤ cs.length ∧ cs.length ≤ 8 ∧ (∀ c ∈ cs, c = 120 ∨ c = 46) ∧ cs.head? = some 120 ∧ cs.getLast? = some 120 := by
  unfold shpL at h
  simp only [Bool.and_eq_true, decide_eq_true_eq, List.all_eq_true, beq_iff_eq] at h
  refine ⟨h.1.1.1.1, h.1.1.1.2, fun c hc => ?_, h.1.2, h.2⟩
  have := h.1.1.2 c hc
  simpa using this
theorem sum_le {css : List (List Nat)} {m : Nat} (h : ∀ c ∈ css, c.length ≤ m) : (css.map List.length).sum ≤ m * css.length := by
  induction css with
  | nil => simp
  | cons c r ih =>
    have a := h c List.mem_cons_self
    have b := ih fun d hd => h d (List.mem_cons_of_mem _ hd)
    rw [List.map_cons, List.sum_cons, List.length_cons, Nat.mul_succ]
    omega
theorem rr_len (r : Bool) : (rr r).length ≤ 4 ∧ ∀ c ∈ rr r, 100 ≤ c ∧ c < 120 := by
  cases r <;> decide
theorem gt_sane {n : Nat} {css : List (List Nat)} (h : Gm n css) (r : Bool) : (gtL n css r).length ≤ 50 ∧ ∀ c ∈ gtL n css r, c ≤ 120 := by
  have a := joinL_len (wordsL n css r)
  have b := sum_le (css := css) (m := 8) fun c hc => (shp_of (h.sh c hc)).2.1
  have c := (rr_len r).1
  have d := h.c3
  refine ⟨?_, fun x hx => ?_⟩
  · unfold gtL
    unfold wordsL at a ⊢
    simp at a
    omega
  · rcases joinL_mem _ x hx with e | ⟨w, hw, hc⟩
    · omega
    · rcases List.mem_cons.mp hw with e | hw
      · rw [e] at hc
        have := List.mem_singleton.mp hc
        have := h.n8
        omega
      · rcases List.mem_cons.mp hw with e | hw
        · rw [e] at hc
          have := (rr_len r).2 x hc
          omega
        · rcases (shp_of (h.sh w hw)).2.2.1 x hc with e | e <;> omega
theorem spl_words {ws : List (List Nat)} (hne : ws ≠ []) (h : ∀ w ∈ ws, 32 ∉ w) : spl32 (joinL [32] ws) = ws := spl_join hne h
theorem Gm.free {n : Nat} {css : List (List Nat)} (h : Gm n css) (r : Bool) : ∀ w ∈ wordsL n css r, 32 ∉ w := by
  intro w hw hc
  rcases List.mem_cons.mp hw with e | hw
  · rw [e] at hc
    have := List.mem_singleton.mp hc
    omega
  · rcases List.mem_cons.mp hw with e | hw
    · rw [e] at hc
      have := (rr_len r).2 _ hc
      omega
    · rcases (shp_of (h.sh w hw)).2.2.1 _ hc with e | e <;> omega
theorem Gm.b {n : Nat} {css : List (List Nat)} (h : Gm n css) : gmB n css = true := by
  rw [← gameD_gm ⟨h.n1, h.n8⟩ css true]
  exact h.is true
theorem Gm.parse {n : Nat} {css : List (List Nat)} (h : Gm n css) (r : Bool) : parseL (spl32 (gtL n css r)) = some (n, css, r) := by
  unfold gtL
  rw [spl_words (by unfold wordsL; simp) (h.free r)]
  unfold wordsL
  cases css with
  | nil => exact absurd h.c1 (by decide)
  | cons c cs =>
    have h1 := h.n1
    have h8 := h.n8
    show (if 49 ≤ 48 + n ∧ 48 + n ≤ 56 ∧ (rr r = rr true ∨ rr r = rr false) ∧ gmB (48 + n - 48) (c :: cs) = true then some (48 + n - 48, c :: cs, decide (rr r = rr true)) else none) = _
    have e : 48 + n - 48 = n := by omega
    rw [e, if_pos ⟨by omega, by omega, by cases r; exact .inr rfl; exact .inl rfl, h.b⟩]
    cases r <;> rfl
theorem gJoin_words {ws : List (List Nat)} (h : (ws.map List.length).sum + ws.length ≤ lim) (e : En) : gJoin (.str (tx [32])) [.list (ws.map strD)] e = .ok (.sh (.str (tx (joinL [32] ws)))) e := by
  have e2 : ((ws.map tx).map (fun s : Str => s.length)) = ws.map List.length := by
    rw [List.map_map]
    exact List.map_congr_left fun c _ => tx_len c
  have e1 : ws.map strD = (ws.map tx).map .str := by rw [List.map_map]; rfl
  rw [e1]
  show (match asStrs ((ws.map tx).map .str) with | some ys => if (ys.map (fun s : Str => s.length)).sum + ys.length * (tx [32]).length ≤ lim then R.ok (Ent.sh (.str (Txt.join (tx [32]) ys))) e else .st | none => .st) = _
  rw [asStrs_map]
  show (if ((ws.map tx).map (fun s : Str => s.length)).sum + (ws.map tx).length * (tx [32]).length ≤ lim then R.ok (Ent.sh (.str (Txt.join (tx [32]) (ws.map tx)))) e else .st) = _
  rw [e2, List.length_map, tx_len, if_pos (by simpa using h), join_txs]
theorem text_of_run {n : Nat} {css : List (List Nat)} {wd : List Ob} (h : Gm n css) (r : Bool) : Run m_text_of [.sh (gmD n css r)] wd (.sh (.str (tx (gtL n css r)))) wd := by
  refine Run.ret (sl := [.sh (gmD n css r)]) ?_
  show f_text_of ⟨[.sh (gmD n css r)], wd⟩ = _
  have hlim : lim = 100000 := rfl
  have h8 := h.n8
  have i0 : atI [PyData.int n, .tuple (css.map strD), .bool r] 0 = some (.int n) := rfl
  have i1 : atI [PyData.int n, .tuple (css.map strD), .bool r] 1 = some (.tuple (css.map strD)) := rfl
  have i2 : atI [PyData.int n, .tuple (css.map strD), .bool r] 2 = some (.bool r) := rfl
  have hlog : (n : Int).natAbs.log2 < 1920 := by
    rw [Int.natAbs_natCast]
    have : n = 0 ∨ n ≠ 0 := by omega
    rcases this with e | e
    · rw [e]; decide
    · exact (Nat.log2_lt e).mpr (Nat.lt_of_le_of_lt h8 (by decide +kernel))
  have hs := sum_le (css := css) (m := 8) fun c hc => (shp_of (h.sh c hc)).2.1
  have hc3 := h.c3
  have hj : ∀ e, gJoin (.str (tx [32])) [.list ([strD [48 + n], strD (rr r)] ++ css.map strD)] e = .ok (.sh (.str (tx (gtL n css r)))) e := fun e => by
    have q := (rr_len r).1
    exact gJoin_words (ws := wordsL n css r) (by unfold wordsL; simp; omega) e
  have hl : [strD [48 + n], strD (rr r)].length + (css.map strD).length ≤ lim := by simp; omega
  unfold f_text_of gmD
  cases r
  · have hl' : [PyData.str (tx [48 + n]), .str (tx [114, 111, 119])].length + (css.map strD).length ≤ lim := hl
    have hj' : ∀ e, gJoin (.str (tx [32])) [.list ([PyData.str (tx [48 + n]), .str (tx [114, 111, 119])] ++ css.map strD)] e = .ok (.sh (.str (tx (gtL n css false)))) e := hj
    simp only [bind_ok, bind_ex, bind_st, get_mk, set_mk, sSeq, sEx, sRet, sIf, sSet, sPass, sEx_, sBk, sAsg, sPar2, sPar3, thenS, dv, toD, eC, eN, eMv, eP, eBin, tst, eChain, tAndM, tOrM, tNotM, eAnd, eOr, eNot, eIf, toA, aNil, aCons, asDs, dvs, eTup, eLst, eCall, eIx, eIxN, itemE, eSl, pNo, pSo, cutD, gLen, eLenN, lenD, gList, gTuple, gN, gT, setAll, eMt, tyD, eIsi, gAdd, gSub, gDiv, gMod, gMul, gPow, gLt, gLe, gGt, gGe, gStr, gMin, gIn, gNotIn, gIs, gIsNot, isD, eLenSc, eIxSc, eScNil, eAppTn, sTown, tYesM, noEx_ok, itemG, stepS, iAll, itemsOf, iR1, iR2, wipeE, restE, keepE, sAug, gIadd, gImul, eApp, eExt, eNeg, List.getD_cons_zero, List.getD_cons_succ, List.set_cons_zero, List.set_cons_succ, List.getElem?_cons_zero, List.getElem?_cons_succ, Option.map_some, Option.map_none, Bool.not_true, Bool.not_false, beq_self_eq_true, if_true, if_false, ite_true, ite_false, Bool.false_eq_true, reduceIte, reduceCtorEq, lenL_0, lenL_1, lenL_2, lenL_3, lenL_4, lenL_5, lenL_6, lenL_7, lenL_8, lenL_9, lenL_10, lenL_11, lenL_12, i0, i1, i2, if_pos hlog, num_tx (show n < 10 by omega), ofring, ofrow, ofsp, if_pos hl', hj']
  · have hl' : [PyData.str (tx [48 + n]), .str (tx [114, 105, 110, 103])].length + (css.map strD).length ≤ lim := hl
    have hj' : ∀ e, gJoin (.str (tx [32])) [.list ([PyData.str (tx [48 + n]), .str (tx [114, 105, 110, 103])] ++ css.map strD)] e = .ok (.sh (.str (tx (gtL n css true)))) e := hj
    simp only [bind_ok, bind_ex, bind_st, get_mk, set_mk, sSeq, sEx, sRet, sIf, sSet, sPass, sEx_, sBk, sAsg, sPar2, sPar3, thenS, dv, toD, eC, eN, eMv, eP, eBin, tst, eChain, tAndM, tOrM, tNotM, eAnd, eOr, eNot, eIf, toA, aNil, aCons, asDs, dvs, eTup, eLst, eCall, eIx, eIxN, itemE, eSl, pNo, pSo, cutD, gLen, eLenN, lenD, gList, gTuple, gN, gT, setAll, eMt, tyD, eIsi, gAdd, gSub, gDiv, gMod, gMul, gPow, gLt, gLe, gGt, gGe, gStr, gMin, gIn, gNotIn, gIs, gIsNot, isD, eLenSc, eIxSc, eScNil, eAppTn, sTown, tYesM, noEx_ok, itemG, stepS, iAll, itemsOf, iR1, iR2, wipeE, restE, keepE, sAug, gIadd, gImul, eApp, eExt, eNeg, List.getD_cons_zero, List.getD_cons_succ, List.set_cons_zero, List.set_cons_succ, List.getElem?_cons_zero, List.getElem?_cons_succ, Option.map_some, Option.map_none, Bool.not_true, Bool.not_false, beq_self_eq_true, if_true, if_false, ite_true, ite_false, Bool.false_eq_true, reduceIte, reduceCtorEq, lenL_0, lenL_1, lenL_2, lenL_3, lenL_4, lenL_5, lenL_6, lenL_7, lenL_8, lenL_9, lenL_10, lenL_11, lenL_12, i0, i1, i2, if_pos hlog, num_tx (show n < 10 by omega), ofring, ofrow, ofsp, if_pos hl', hj']
theorem check_game_run {n : Nat} {css : List (List Nat)} {wd : List Ob} (h : Gm n css) (r : Bool) : Run m_check_game [.sh (gmD n css r)] wd (.sh .none) wd := by
  refine Run.none (sl := [.sh (gmD n css r)]) ?_
  show f_check_game ⟨[.sh (gmD n css r)], wd⟩ = _
  have hg := call_run (n := 1) (ms := aCons (eN 0) aNil) (en := ⟨[.sh (gmD n css r)], wd⟩) (sl := [.sh (gmD n css r)]) (by simp only [bind_ok, bind_ex, bind_st, get_mk, set_mk, sSeq, sEx, sRet, sIf, sSet, sPass, sEx_, sBk, sAsg, sPar2, sPar3, thenS, dv, toD, eC, eN, eMv, eP, eBin, tst, eChain, tAndM, tOrM, tNotM, eAnd, eOr, eNot, eIf, toA, aNil, aCons, asDs, dvs, eTup, eLst, eCall, eIx, eIxN, itemE, eSl, pNo, pSo, cutD, gLen, eLenN, lenD, gList, gTuple, gN, gT, setAll, eMt, tyD, eIsi, gAdd, gSub, gDiv, gMod, gMul, gPow, gLt, gLe, gGt, gGe, gStr, gMin, gIn, gNotIn, gIs, gIsNot, isD, eLenSc, eIxSc, eScNil, eAppTn, sTown, tYesM, noEx_ok, itemG, stepS, iAll, itemsOf, iR1, iR2, wipeE, restE, keepE, sAug, gIadd, gImul, eApp, eExt, eNeg, List.getD_cons_zero, List.getD_cons_succ, List.set_cons_zero, List.set_cons_succ, List.getElem?_cons_zero, List.getElem?_cons_succ, Option.map_some, Option.map_none, Bool.not_true, Bool.not_false, beq_self_eq_true, if_true, if_false, ite_true, ite_false, Bool.false_eq_true, reduceIte, reduceCtorEq, lenL_0, lenL_1, lenL_2, lenL_3, lenL_4, lenL_5, lenL_6, lenL_7, lenL_8, lenL_9, lenL_10, lenL_11, lenL_12]) rfl (is_game_run (wd := wd) (h.ok r))
  rw [h.is r] at hg
  unfold f_check_game
  simp only [bind_ok, bind_ex, bind_st, get_mk, set_mk, sSeq, sEx, sRet, sIf, sSet, sPass, sEx_, sBk, sAsg, sPar2, sPar3, thenS, dv, toD, eC, eN, eMv, eP, eBin, tst, eChain, tAndM, tOrM, tNotM, eAnd, eOr, eNot, eIf, toA, aNil, aCons, asDs, dvs, eTup, eLst, eCall, eIx, eIxN, itemE, eSl, pNo, pSo, cutD, gLen, eLenN, lenD, gList, gTuple, gN, gT, setAll, eMt, tyD, eIsi, gAdd, gSub, gDiv, gMod, gMul, gPow, gLt, gLe, gGt, gGe, gStr, gMin, gIn, gNotIn, gIs, gIsNot, isD, eLenSc, eIxSc, eScNil, eAppTn, sTown, tYesM, noEx_ok, itemG, stepS, iAll, itemsOf, iR1, iR2, wipeE, restE, keepE, sAug, gIadd, gImul, eApp, eExt, eNeg, List.getD_cons_zero, List.getD_cons_succ, List.set_cons_zero, List.set_cons_succ, List.getElem?_cons_zero, List.getElem?_cons_succ, Option.map_some, Option.map_none, Bool.not_true, Bool.not_false, beq_self_eq_true, if_true, if_false, ite_true, ite_false, Bool.false_eq_true, reduceIte, reduceCtorEq, lenL_0, lenL_1, lenL_2, lenL_3, lenL_4, lenL_5, lenL_6, lenL_7, lenL_8, lenL_9, lenL_10, lenL_11, lenL_12, hg]
theorem format_run {n : Nat} {css : List (List Nat)} {wd : List Ob} (h : Gm n css) (r : Bool) : Run m_format_game [.sh (gmD n css r)] wd (.sh (.str (tx (gtL n css r)))) wd := by
  refine Run.ret (sl := [.sh (gmD n css r)]) ?_
  show f_format_game ⟨[.sh (gmD n css r)], wd⟩ = _
  have hg := call_run (n := 1) (ms := aCons (eN 0) aNil) (en := ⟨[.sh (gmD n css r)], wd⟩) (sl := [.sh (gmD n css r)]) (by simp only [bind_ok, bind_ex, bind_st, get_mk, set_mk, sSeq, sEx, sRet, sIf, sSet, sPass, sEx_, sBk, sAsg, sPar2, sPar3, thenS, dv, toD, eC, eN, eMv, eP, eBin, tst, eChain, tAndM, tOrM, tNotM, eAnd, eOr, eNot, eIf, toA, aNil, aCons, asDs, dvs, eTup, eLst, eCall, eIx, eIxN, itemE, eSl, pNo, pSo, cutD, gLen, eLenN, lenD, gList, gTuple, gN, gT, setAll, eMt, tyD, eIsi, gAdd, gSub, gDiv, gMod, gMul, gPow, gLt, gLe, gGt, gGe, gStr, gMin, gIn, gNotIn, gIs, gIsNot, isD, eLenSc, eIxSc, eScNil, eAppTn, sTown, tYesM, noEx_ok, itemG, stepS, iAll, itemsOf, iR1, iR2, wipeE, restE, keepE, sAug, gIadd, gImul, eApp, eExt, eNeg, List.getD_cons_zero, List.getD_cons_succ, List.set_cons_zero, List.set_cons_succ, List.getElem?_cons_zero, List.getElem?_cons_succ, Option.map_some, Option.map_none, Bool.not_true, Bool.not_false, beq_self_eq_true, if_true, if_false, ite_true, ite_false, Bool.false_eq_true, reduceIte, reduceCtorEq, lenL_0, lenL_1, lenL_2, lenL_3, lenL_4, lenL_5, lenL_6, lenL_7, lenL_8, lenL_9, lenL_10, lenL_11, lenL_12]) rfl (check_game_run (wd := wd) h r)
  have ht := call_run (n := 1) (ms := aCons (eN 0) aNil) (en := ⟨[.sh (gmD n css r)], wd⟩) (sl := [.sh (gmD n css r)]) (by simp only [bind_ok, bind_ex, bind_st, get_mk, set_mk, sSeq, sEx, sRet, sIf, sSet, sPass, sEx_, sBk, sAsg, sPar2, sPar3, thenS, dv, toD, eC, eN, eMv, eP, eBin, tst, eChain, tAndM, tOrM, tNotM, eAnd, eOr, eNot, eIf, toA, aNil, aCons, asDs, dvs, eTup, eLst, eCall, eIx, eIxN, itemE, eSl, pNo, pSo, cutD, gLen, eLenN, lenD, gList, gTuple, gN, gT, setAll, eMt, tyD, eIsi, gAdd, gSub, gDiv, gMod, gMul, gPow, gLt, gLe, gGt, gGe, gStr, gMin, gIn, gNotIn, gIs, gIsNot, isD, eLenSc, eIxSc, eScNil, eAppTn, sTown, tYesM, noEx_ok, itemG, stepS, iAll, itemsOf, iR1, iR2, wipeE, restE, keepE, sAug, gIadd, gImul, eApp, eExt, eNeg, List.getD_cons_zero, List.getD_cons_succ, List.set_cons_zero, List.set_cons_succ, List.getElem?_cons_zero, List.getElem?_cons_succ, Option.map_some, Option.map_none, Bool.not_true, Bool.not_false, beq_self_eq_true, if_true, if_false, ite_true, ite_false, Bool.false_eq_true, reduceIte, reduceCtorEq, lenL_0, lenL_1, lenL_2, lenL_3, lenL_4, lenL_5, lenL_6, lenL_7, lenL_8, lenL_9, lenL_10, lenL_11, lenL_12]) rfl (text_of_run (wd := wd) h r)
  unfold f_format_game
  simp only [bind_ok, bind_ex, bind_st, get_mk, set_mk, sSeq, sEx, sRet, sIf, sSet, sPass, sEx_, sBk, sAsg, sPar2, sPar3, thenS, dv, toD, eC, eN, eMv, eP, eBin, tst, eChain, tAndM, tOrM, tNotM, eAnd, eOr, eNot, eIf, toA, aNil, aCons, asDs, dvs, eTup, eLst, eCall, eIx, eIxN, itemE, eSl, pNo, pSo, cutD, gLen, eLenN, lenD, gList, gTuple, gN, gT, setAll, eMt, tyD, eIsi, gAdd, gSub, gDiv, gMod, gMul, gPow, gLt, gLe, gGt, gGe, gStr, gMin, gIn, gNotIn, gIs, gIsNot, isD, eLenSc, eIxSc, eScNil, eAppTn, sTown, tYesM, noEx_ok, itemG, stepS, iAll, itemsOf, iR1, iR2, wipeE, restE, keepE, sAug, gIadd, gImul, eApp, eExt, eNeg, List.getD_cons_zero, List.getD_cons_succ, List.set_cons_zero, List.set_cons_succ, List.getElem?_cons_zero, List.getElem?_cons_succ, Option.map_some, Option.map_none, Bool.not_true, Bool.not_false, beq_self_eq_true, if_true, if_false, ite_true, ite_false, Bool.false_eq_true, reduceIte, reduceCtorEq, lenL_0, lenL_1, lenL_2, lenL_3, lenL_4, lenL_5, lenL_6, lenL_7, lenL_8, lenL_9, lenL_10, lenL_11, lenL_12, hg, ht]
/-- what read answers -/
def readD : D → D
  | .str s => match parseL (spl32 s.cps.toList) with | some (n, css, r) => gmD n css r | none => ansD 9
  | _ => ansD 9
def SaneD : D → Prop
  | .str s => Sane s.cps.toList
  | _ => True
theorem read_ok {d : D} {wd : List Ob} {g : D} (h : Run m_parse_game [.sh d] wd (.sh g) wd) : Run m__law_read [.sh d] wd (.sh g) wd := by
  refine Run.ret (sl := [.sh d, .no]) ?_
  show f__law_read ⟨[.sh d, .no], wd⟩ = _
  have hc := call_run (n := 1) (ms := aCons (eN 0) aNil) (en := ⟨[.sh d, .no], wd⟩) (sl := [.sh d, .no]) (by simp only [bind_ok, bind_ex, bind_st, get_mk, set_mk, sSeq, sEx, sRet, sIf, sSet, sPass, sEx_, sBk, sAsg, sPar2, sPar3, thenS, dv, toD, eC, eN, eMv, eP, eBin, tst, eChain, tAndM, tOrM, tNotM, eAnd, eOr, eNot, eIf, toA, aNil, aCons, asDs, dvs, eTup, eLst, eCall, eIx, eIxN, itemE, eSl, pNo, pSo, cutD, gLen, eLenN, lenD, gList, gTuple, gN, gT, setAll, eMt, tyD, eIsi, gAdd, gSub, gDiv, gMod, gMul, gPow, gLt, gLe, gGt, gGe, gStr, gMin, gIn, gNotIn, gIs, gIsNot, isD, eLenSc, eIxSc, eScNil, eAppTn, sTown, tYesM, noEx_ok, itemG, stepS, iAll, itemsOf, iR1, iR2, wipeE, restE, keepE, sAug, gIadd, gImul, eApp, eExt, eNeg, List.getD_cons_zero, List.getD_cons_succ, List.set_cons_zero, List.set_cons_succ, List.getElem?_cons_zero, List.getElem?_cons_succ, Option.map_some, Option.map_none, Bool.not_true, Bool.not_false, beq_self_eq_true, if_true, if_false, ite_true, ite_false, Bool.false_eq_true, reduceIte, reduceCtorEq, lenL_0, lenL_1, lenL_2, lenL_3, lenL_4, lenL_5, lenL_6, lenL_7, lenL_8, lenL_9, lenL_10, lenL_11, lenL_12]) rfl h
  unfold f__law_read sTry
  simp only [bind_ok, bind_ex, bind_st, get_mk, set_mk, sSeq, sEx, sRet, sIf, sSet, sPass, sEx_, sBk, sAsg, sPar2, sPar3, thenS, dv, toD, eC, eN, eMv, eP, eBin, tst, eChain, tAndM, tOrM, tNotM, eAnd, eOr, eNot, eIf, toA, aNil, aCons, asDs, dvs, eTup, eLst, eCall, eIx, eIxN, itemE, eSl, pNo, pSo, cutD, gLen, eLenN, lenD, gList, gTuple, gN, gT, setAll, eMt, tyD, eIsi, gAdd, gSub, gDiv, gMod, gMul, gPow, gLt, gLe, gGt, gGe, gStr, gMin, gIn, gNotIn, gIs, gIsNot, isD, eLenSc, eIxSc, eScNil, eAppTn, sTown, tYesM, noEx_ok, itemG, stepS, iAll, itemsOf, iR1, iR2, wipeE, restE, keepE, sAug, gIadd, gImul, eApp, eExt, eNeg, List.getD_cons_zero, List.getD_cons_succ, List.set_cons_zero, List.set_cons_succ, List.getElem?_cons_zero, List.getElem?_cons_succ, Option.map_some, Option.map_none, Bool.not_true, Bool.not_false, beq_self_eq_true, if_true, if_false, ite_true, ite_false, Bool.false_eq_true, reduceIte, reduceCtorEq, lenL_0, lenL_1, lenL_2, lenL_3, lenL_4, lenL_5, lenL_6, lenL_7, lenL_8, lenL_9, lenL_10, lenL_11, lenL_12, hc]
theorem read_ex {d : D} {wd : List Ob} (h : RunX m_parse_game [.sh d] wd 9 wd) : Run m__law_read [.sh d] wd (.sh (ansD 9)) wd := by
  refine Run.ret (sl := [.sh d, .no]) ?_
  show f__law_read ⟨[.sh d, .no], wd⟩ = _
  have hc := call_runX (n := 1) (ms := aCons (eN 0) aNil) (en := ⟨[.sh d, .no], wd⟩) (sl := [.sh d, .no]) (by simp only [bind_ok, bind_ex, bind_st, get_mk, set_mk, sSeq, sEx, sRet, sIf, sSet, sPass, sEx_, sBk, sAsg, sPar2, sPar3, thenS, dv, toD, eC, eN, eMv, eP, eBin, tst, eChain, tAndM, tOrM, tNotM, eAnd, eOr, eNot, eIf, toA, aNil, aCons, asDs, dvs, eTup, eLst, eCall, eIx, eIxN, itemE, eSl, pNo, pSo, cutD, gLen, eLenN, lenD, gList, gTuple, gN, gT, setAll, eMt, tyD, eIsi, gAdd, gSub, gDiv, gMod, gMul, gPow, gLt, gLe, gGt, gGe, gStr, gMin, gIn, gNotIn, gIs, gIsNot, isD, eLenSc, eIxSc, eScNil, eAppTn, sTown, tYesM, noEx_ok, itemG, stepS, iAll, itemsOf, iR1, iR2, wipeE, restE, keepE, sAug, gIadd, gImul, eApp, eExt, eNeg, List.getD_cons_zero, List.getD_cons_succ, List.set_cons_zero, List.set_cons_succ, List.getElem?_cons_zero, List.getElem?_cons_succ, Option.map_some, Option.map_none, Bool.not_true, Bool.not_false, beq_self_eq_true, if_true, if_false, ite_true, ite_false, Bool.false_eq_true, reduceIte, reduceCtorEq, lenL_0, lenL_1, lenL_2, lenL_3, lenL_4, lenL_5, lenL_6, lenL_7, lenL_8, lenL_9, lenL_10, lenL_11, lenL_12]) rfl h
  unfold f__law_read sTry
  simp only [bind_ok, bind_ex, bind_st, get_mk, set_mk, sSeq, sEx, sRet, sIf, sSet, sPass, sEx_, sBk, sAsg, sPar2, sPar3, thenS, dv, toD, eC, eN, eMv, eP, eBin, tst, eChain, tAndM, tOrM, tNotM, eAnd, eOr, eNot, eIf, toA, aNil, aCons, asDs, dvs, eTup, eLst, eCall, eIx, eIxN, itemE, eSl, pNo, pSo, cutD, gLen, eLenN, lenD, gList, gTuple, gN, gT, setAll, eMt, tyD, eIsi, gAdd, gSub, gDiv, gMod, gMul, gPow, gLt, gLe, gGt, gGe, gStr, gMin, gIn, gNotIn, gIs, gIsNot, isD, eLenSc, eIxSc, eScNil, eAppTn, sTown, tYesM, noEx_ok, itemG, stepS, iAll, itemsOf, iR1, iR2, wipeE, restE, keepE, sAug, gIadd, gImul, eApp, eExt, eNeg, List.getD_cons_zero, List.getD_cons_succ, List.set_cons_zero, List.set_cons_succ, List.getElem?_cons_zero, List.getElem?_cons_succ, Option.map_some, Option.map_none, Bool.not_true, Bool.not_false, beq_self_eq_true, if_true, if_false, ite_true, ite_false, Bool.false_eq_true, reduceIte, reduceCtorEq, lenL_0, lenL_1, lenL_2, lenL_3, lenL_4, lenL_5, lenL_6, lenL_7, lenL_8, lenL_9, lenL_10, lenL_11, lenL_12, hc]
  rfl
theorem read_run {d : D} {wd : List Ob} (h : SaneD d) : Run m__law_read [.sh d] wd (.sh (readD d)) wd := by
  cases d with
  | str s =>
    have q := parse_run (wd := wd) (cs := s.cps.toList) h
    show Run m__law_read [.sh (.str s)] wd (.sh (match parseL (spl32 s.cps.toList) with | some (n, css, r) => gmD n css r | none => ansD 9)) wd
    revert q
    cases parseL (spl32 s.cps.toList) with
    | none => exact fun q => read_ex q
    | some g => obtain ⟨n, css, r⟩ := g; exact fun q => read_ok q
  | _ => exact read_ex (parse_none rfl)
end CO

/-! Mh: odd texts. -/
namespace CO
open PySem PySem.Spec PyProof.Rows L2 PySem.StrLaws TL

theorem joinL_snoc : ∀ (ws : List (List Nat)) (w : List Nat), ws ≠ [] → joinL [32] (ws ++ [w]) = joinL [32] ws ++ 32 :: w
  | [], _, h => absurd rfl h
  | [p], w, _ => rfl
  | p :: q :: r, w, _ => by
    have := joinL_snoc (q :: r) w (by simp)
    show p ++ ([32] ++ joinL [32] ((q :: r) ++ [w])) = (p ++ ([32] ++ joinL [32] (q :: r))) ++ 32 :: w
    rw [this]
    simp
theorem joinL_flat : ∀ (ws : List (List Nat)) (a : List Nat), joinL [32] (a :: ws) = a ++ ws.flatMap (fun c => 32 :: c)
  | [], a => by show a = _; simp
  | w :: r, a => by
    show a ++ ([32] ++ joinL [32] (w :: r)) = _
    rw [joinL_flat r w]
    simp
theorem none_of {cs : List Nat} (h : parseL (spl32 cs) = none) : readD (.str (tx cs)) = ansD 9 := by
  show (match parseL (spl32 cs) with | some (n, css, r) => gmD n css r | none => ansD 9) = _
  rw [h]
theorem asc_any : True := trivial
theorem parse_bad {n : Nat} {css : List (List Nat)} {r : Bool} {w : List Nat} (h : shpL w = false) : parseL (wordsL n css r ++ [w]) = none := by
  have hb : ∀ m (l : List (List Nat)), gmB m (l ++ [w]) = false := fun m l => by
    unfold gmB
    rw [List.all_append]
    have : [w].all shpL = false := by simp [h]
    rw [this]; simp
  cases css with
  | nil =>
    show (if _ then some _ else none) = none
    rw [if_neg fun z => by have q := hb (48 + n - 48) []; exact Bool.false_ne_true (q.symm.trans z.2.2.2)]
  | cons c cs =>
    show (if _ then some _ else none) = none
    rw [if_neg fun z => by have q := hb (48 + n - 48) (c :: cs); exact Bool.false_ne_true (q.symm.trans z.2.2.2)]
section
variable {n : Nat} {css : List (List Nat)} (h : Gm n css) (r : Bool)
include h
theorem odd_a : readD (.str (tx (gtL n css r ++ [32]))) = ansD 9 := by
  refine none_of ?_
  have e := joinL_snoc (wordsL n css r) [] (by unfold wordsL; simp)
  unfold gtL
  rw [← e, spl_words (by simp) ?_]
  · exact parse_bad rfl
  · intro w hw
    rcases List.mem_append.mp hw with hw | hw
    · exact h.free r w hw
    · rw [List.mem_singleton.mp hw]; simp
theorem odd_c : readD (.str (tx (gtL n css r ++ [32, 121]))) = ansD 9 := by
  refine none_of ?_
  have e := joinL_snoc (wordsL n css r) [121] (by unfold wordsL; simp)
  unfold gtL
  rw [← e, spl_words (by simp) ?_]
  · exact parse_bad rfl
  · intro w hw
    rcases List.mem_append.mp hw with hw | hw
    · exact h.free r w hw
    · rw [List.mem_singleton.mp hw]; simp
theorem odd_b : readD (.str (tx ([32] ++ gtL n css r))) = ansD 9 := by
  refine none_of ?_
  unfold gtL
  rw [show [32] ++ joinL [32] (wordsL n css r) = joinL [32] ([] :: wordsL n css r) from rfl, spl_words (by simp) ?_]
  · rfl
  · intro w hw
    rcases List.mem_cons.mp hw with e | hw
    · rw [e]; simp
    · exact h.free r w hw
theorem odd_e : readD (.str (tx ([48] ++ gtL n css r))) = ansD 9 := by
  refine none_of ?_
  have e : [48] ++ gtL n css r = joinL [32] ([48, 48 + n] :: rr r :: css) := by
    unfold gtL wordsL
    rfl
  rw [e, spl_words (by simp) ?_]
  · cases css with
    | nil => exact parseL_2 _ _
    | cons c cs => exact parseL_3 (by simp)
  · intro w hw
    rcases List.mem_cons.mp hw with e | hw
    · rw [e]
      intro z
      rcases List.mem_cons.mp z with z | z
      · exact absurd z (by decide)
      · have := List.mem_singleton.mp z
        omega
    · exact h.free r w (List.mem_cons_of_mem _ hw)
def fR (c : Nat) : Nat := if c = 114 then 82 else c
omit h in
theorem repl_map : ∀ l : List Nat, replL [114] [82] l = l.map fR
  | [] => replL_nil
  | c :: l => by
    by_cases hc : c = 114
    · rw [replL_hit (by simp) (by rw [hc]; rfl), List.map_cons]
      show [82] ++ replL [114] [82] l = _
      rw [repl_map l, hc]; rfl
    · rw [replL_miss (by intro z; exact hc (by simpa using z)), repl_map l, List.map_cons]
      unfold fR
      rw [if_neg hc]
omit h in
theorem join_map : ∀ ws : List (List Nat), (joinL [32] ws).map fR = joinL [32] (ws.map (List.map fR))
  | [] => rfl
  | [p] => rfl
  | p :: q :: r => by
    show (p ++ ([32] ++ joinL [32] (q :: r))).map fR = _
    rw [List.map_append, List.map_append, join_map (q :: r)]
    rfl
theorem odd_d : readD (.str (Txt.replace (tx (gtL n css r)) (tx [114]) (tx [82]))) = ansD 9 := by
  have e : Txt.replace (tx (gtL n css r)) (tx [114]) (tx [82]) = tx ((gtL n css r).map fR) := by
    refine ext_tl ?_
    show (Txt.replace (tx (gtL n css r)) (tx [114]) (tx [82])).cps.toList = _
    rw [replace_list (by decide)]
    exact repl_map _
  rw [e]
  refine none_of ?_
  unfold gtL
  rw [join_map, spl_words (by unfold wordsL; simp) ?_]
  · unfold wordsL
    cases css with
    | nil => exact absurd h.c1 (by decide)
    | cons c cs =>
      show (if 49 ≤ fR (48 + n) ∧ fR (48 + n) ≤ 56 ∧ ((rr r).map fR = rr true ∨ (rr r).map fR = rr false) ∧ _ then some _ else none) = none
      rw [if_neg fun z => by have := z.2.2.1; revert this; cases r <;> decide]
  · intro w hw hc
    obtain ⟨w0, hw0, rfl⟩ := List.mem_map.mp hw
    obtain ⟨x, hx, e⟩ := List.mem_map.mp hc
    have : x = 32 := by
      unfold fR at e
      split at e
      · exact absurd e (by decide)
      · exact e
    rw [this] at hx
    exact h.free r w0 hw0 hx
end
end CO

/-! Mi: the law of written games. -/
namespace CO
open PySem PySem.Spec PyProof.Rows L2 PySem.StrLaws TL

theorem seq_nx {a b : En → R Fl} {en e1 : En} (h : a en = .ok .nx e1) : sSeq a b en = b e1 := by
  unfold sSeq
  rw [h, bind_ok]
  rfl
theorem lay_strs : ∀ css : List (List Nat), (∀ c ∈ css, ∀ x ∈ c, x < 1114112) → PyData.canLayAll0 (css.map strD) = true ∧ PyData.depthAll (css.map strD) = 0
  | [], _ => ⟨rfl, rfl⟩
  | c :: r, h => by
    obtain ⟨a, b⟩ := lay_strs r fun d hd => h d (List.mem_cons_of_mem _ hd)
    have q := strOk_tx (h c List.mem_cons_self)
    constructor
    · show (PyData.strOk (tx c) && PyData.canLayAll0 (r.map strD)) = true
      rw [q, a]; rfl
    · show max 0 (PyData.depthAll (r.map strD)) = 0
      rw [b]; rfl
theorem gNe_self {d : D} (h : SeqAt.shaped d = true) (e : En) : gNe d d e = .ok (.sh (.bool false)) e := by
  unfold gNe
  rw [if_pos ⟨h, h⟩, SeqAt.eqv_refl d (SeqAt.canLay_of_shaped h)]; rfl
theorem gEq_self {d : D} (h : SeqAt.shaped d = true) (e : En) : gEq d d e = .ok (.sh (.bool true)) e := by
  unfold gEq
  rw [if_pos ⟨h, h⟩, SeqAt.eqv_refl d (SeqAt.canLay_of_shaped h)]
theorem Gm.shaped {n : Nat} {css : List (List Nat)} (h : Gm n css) (r : Bool) : SeqAt.shaped (gmD n css r) = true := by
  obtain ⟨a, b⟩ := lay_strs css fun c hc x hx => by rcases (shp_of (h.sh c hc)).2.2.1 x hx with e | e <;> omega
  show ((true && (PyData.canLayAll0 (css.map strD) && (true && true))) && decide (max 0 (max (PyData.depthAll (css.map strD) + 1) (max 0 0)) + 1 ≤ 64)) = true
  rw [a, b]; rfl
def offs1 (n : Nat) (css : List (List Nat)) (r : Bool) : List D := [.none, .int 5, .str (tx []), .str (tx (gtL n css r ++ [32])), .str (tx ([32] ++ gtL n css r)), .str (tx (gtL n css r ++ [32, 121])), .str (Txt.replace (tx (gtL n css r)) (tx [114]) (tx [82])), .str (tx ([48] ++ gtL n css r)), .str (PySem.Str.ofString "3"), .str (PySem.Str.ofString "3 row")]
def offs2 : List D := [.str (PySem.Str.ofString "3 row  x"), .str (PySem.Str.ofString "0 row x"), .str (PySem.Str.ofString "9 row x"), .str (PySem.Str.ofString "3 line x"), .str (PySem.Str.ofString "3 row xx x"), .str (PySem.Str.ofString "3 row x x"), .str (PySem.Str.ofString "2 row xxx")]
def offs3 : List D := [.str (PySem.Str.ofString "3 row x."), .str (PySem.Str.ofString "3 row .x"), .str (PySem.Str.ofString "3 x row"), .str (PySem.Str.ofString "3 row x xx xxx x.x"), .str (PySem.Str.ofString "-3 row x"), .str (PySem.Str.ofString "3.0 row x"), .str (PySem.Str.ofString "3 ring"), .str (PySem.Str.ofString "3 rowx")]
def oddS (s : String) : Bool := (parseL (spl32 (s.toList.map Char.toNat))).isNone && decide ((s.toList.map Char.toNat).length ≤ 1000) && (s.toList.map Char.toNat).all fun c => decide (c < 1114112)
theorem odd_S {s : String} (h : oddS s = true) : readD (.str (PySem.Str.ofString s)) = ansD 9 ∧ SaneD (.str (PySem.Str.ofString s)) := by
  unfold oddS at h
  simp only [Bool.and_eq_true, decide_eq_true_eq, List.all_eq_true] at h
  rw [ofS s _ rfl]
  exact ⟨none_of (Option.isNone_iff_eq_none.mp h.1.1), h.1.2, h.2⟩
theorem sane_gt {n : Nat} {css : List (List Nat)} (h : Gm n css) (r : Bool) {a b : List Nat} (ha : a.length ≤ 100 ∧ ∀ c ∈ a, c < 1114112) (hb : b.length ≤ 100 ∧ ∀ c ∈ b, c < 1114112) : SaneD (.str (tx (a ++ gtL n css r ++ b))) := by
  obtain ⟨q1, q2⟩ := gt_sane h r
  refine ⟨?_, fun c hc => ?_⟩
  · show (a ++ gtL n css r ++ b).length ≤ 1000
    simp; omega
  · rcases List.mem_append.mp hc with hc | hc
    · rcases List.mem_append.mp hc with hc | hc
      · exact ha.2 c hc
      · have := q2 c hc; omega
    · exact hb.2 c hc
theorem sane_rep {n : Nat} {css : List (List Nat)} (h : Gm n css) (r : Bool) : SaneD (.str (Txt.replace (tx (gtL n css r)) (tx [114]) (tx [82]))) := by
  obtain ⟨q1, q2⟩ := gt_sane h r
  have e : (Txt.replace (tx (gtL n css r)) (tx [114]) (tx [82])).cps.toList = (gtL n css r).map fR := by
    rw [replace_list (by decide)]
    exact repl_map _
  show Sane (Txt.replace (tx (gtL n css r)) (tx [114]) (tx [82])).cps.toList
  rw [e]
  refine ⟨by rw [List.length_map]; omega, fun c hc => ?_⟩
  obtain ⟨x, hx, rfl⟩ := List.mem_map.mp hc
  have := q2 x hx
  unfold fR
  split <;> omega
theorem offs_odd {n : Nat} {css : List (List Nat)} (h : Gm n css) (r : Bool) : ∀ d ∈ offs1 n css r ++ offs2 ++ offs3, readD d = ansD 9 ∧ SaneD d := by
  have hk : ∀ s ∈ ["3", "3 row", "3 row  x", "0 row x", "9 row x", "3 line x", "3 row xx x", "3 row x x", "2 row xxx", "3 row x.", "3 row .x", "3 x row", "3 row x xx xxx x.x", "-3 row x", "3.0 row x", "3 ring", "3 rowx"], oddS s = true := by decide +kernel
  have S := fun (s : String) (hs : s ∈ ["3", "3 row", "3 row  x", "0 row x", "9 row x", "3 line x", "3 row xx x", "3 row x x", "2 row xxx", "3 row x.", "3 row .x", "3 x row", "3 row x xx xxx x.x", "-3 row x", "3.0 row x", "3 ring", "3 rowx"]) => odd_S (hk s hs)
  intro d hd
  unfold offs1 offs2 offs3 at hd
  simp only [List.cons_append, List.nil_append, List.mem_cons, List.not_mem_nil, or_false] at hd
  rcases hd with rfl | rfl | rfl | rfl | rfl | rfl | rfl | rfl | rfl | rfl | rfl | rfl | rfl | rfl | rfl | rfl | rfl | rfl | rfl | rfl | rfl | rfl | rfl | rfl | rfl
  · exact ⟨rfl, trivial⟩
  · exact ⟨rfl, trivial⟩
  · exact ⟨none_of rfl, by decide, fun c hc => nomatch hc⟩
  · exact ⟨odd_a h r, sane_gt h r (a := []) (b := [32]) (by decide) (by decide)⟩
  · exact ⟨odd_b h r, by have := sane_gt h r (a := [32]) (b := []) (by decide) (by decide); rw [List.append_nil] at this; exact this⟩
  · exact ⟨odd_c h r, sane_gt h r (a := []) (b := [32, 121]) (by decide) (by decide)⟩
  · exact ⟨odd_d h r, sane_rep h r⟩
  · exact ⟨odd_e h r, by have := sane_gt h r (a := [48]) (b := []) (by decide) (by decide); rw [List.append_nil] at this; exact this⟩
  all_goals exact S _ (by decide)
end CO

/-! Mj: the law of written games, run. -/
namespace CO
open PySem PySem.Spec PyProof.Rows L2 PySem.StrLaws TL

def oddQ : List D := List.replicate 25 (ansD 9)
theorem for_cons {g : Ent → En → R Unit} {b : En → R Fl} {d : D} {ds : List D} {e e1 : En} (h : stepS g b d e = .ok .nx e1) : forGo g b (d :: ds) e = forGo g b ds e1 := by
  conv => lhs; unfold forGo
  unfold stepS at h
  cases hg : g (.sh d) e with
  | ok u e3 => rw [hg, bind_ok] at h; rw [bind_ok, h, bind_ok]
  | ex c e3 => rw [hg] at h; cases h
  | st => rw [hg] at h; cases h
theorem text_loop {ns : List Int} {G : D} {wd : List Ob} : ∀ (css : List (List Nat)) (t : List Nat) (x : Ent), t.length + 9 * css.length ≤ 1000 → (∀ c ∈ css, c.length ≤ 8) → ∃ x', forGo (gN 4) (sSet 3 (eBin gAdd (eBin gAdd (eN 3) (eC (.str (PySem.Str.ofString " ")))) (eN 4))) (css.map strD) ⟨[.sc ns, .wr 0, .sh G, .sh (.str (tx t)), x, .no, .no], wd⟩ = .ok .nx ⟨[.sc ns, .wr 0, .sh G, .sh (.str (tx (t ++ css.flatMap fun c => 32 :: c))), x', .no, .no], wd⟩
  | [], t, x, _, _ => ⟨x, by simp [forGo]⟩
  | c :: css, t, x, h, hc => by
    have h1 := hc c List.mem_cons_self
    obtain ⟨x', e⟩ := text_loop css (t ++ 32 :: c) (.sh (strD c)) (by simp at h ⊢; omega) fun d hd => hc d (List.mem_cons_of_mem _ hd)
    refine ⟨x', ?_⟩
    have hlim : lim = 100000 := rfl
    have g1 : (tx t).length + (tx [32]).length ≤ lim := by rw [tx_len, tx_len]; simp at h ⊢; omega
    have g2 : (tx (t ++ [32])).length + (tx c).length ≤ lim := by rw [tx_len, tx_len]; simp at h ⊢; omega
    have e2 : t ++ (c :: css).flatMap (fun c => 32 :: c) = t ++ 32 :: c ++ css.flatMap fun c => 32 :: c := by simp
    have e3 : t ++ [32] ++ c = t ++ 32 :: c := by simp
    rw [e2, ← e]
    refine for_cons ?_
    unfold strD
    simp only [bind_ok, bind_ex, bind_st, get_mk, set_mk, sSeq, sEx, sRet, sIf, sSet, sPass, sEx_, sBk, sAsg, sPar2, sPar3, thenS, dv, toD, eC, eN, eMv, eP, eBin, tst, eChain, tAndM, tOrM, tNotM, eAnd, eOr, eNot, eIf, toA, aNil, aCons, asDs, dvs, eTup, eLst, eCall, eIx, eIxN, itemE, eSl, pNo, pSo, cutD, gLen, eLenN, lenD, gList, gTuple, gN, gT, setAll, eMt, tyD, eIsi, gAdd, gSub, gDiv, gMod, gMul, gPow, gLt, gLe, gGt, gGe, gStr, gMin, gIn, gNotIn, gIs, gIsNot, isD, eLenSc, eIxSc, eScNil, eAppTn, sTown, tYesM, noEx_ok, itemG, stepS, iAll, itemsOf, iR1, iR2, wipeE, restE, keepE, sAug, gIadd, gImul, eApp, eExt, eNeg, List.getD_cons_zero, List.getD_cons_succ, List.set_cons_zero, List.set_cons_succ, List.getElem?_cons_zero, List.getElem?_cons_succ, Option.map_some, Option.map_none, Bool.not_true, Bool.not_false, beq_self_eq_true, if_true, if_false, ite_true, ite_false, Bool.false_eq_true, reduceIte, reduceCtorEq, lenL_0, lenL_1, lenL_2, lenL_3, lenL_4, lenL_5, lenL_6, lenL_7, lenL_8, lenL_9, lenL_10, lenL_11, lenL_12, ofsp, if_pos g1, if_pos g2, tx_app, e3]
theorem law_true (ns : List Int) (hl : ns.length ≤ 63) : ∃ e, m_law [.sc ns] [] = .ok (.sh (.bool true)) e := by
  obtain ⟨n, css, r, hg, -, wd, hw, hgame⟩ := some_game (k := 0) (most := 8) (wd := [.tn 0]) hl ⟨by decide, by decide⟩ ⟨0, Nat.le_refl _, rfl⟩ (by decide)
  have hlim : lim = 100000 := rfl
  have h8 := hg.n8
  have c8 : ∀ c ∈ css, c.length ≤ 8 := fun c hc => (shp_of (hg.sh c hc)).2.1
  suffices h : ∃ sl, f_law ⟨[.sc ns, .no, .no, .no, .no, .no, .no], []⟩ = .ok (.rt (.sh (.bool true))) ⟨sl, wd⟩ by
    obtain ⟨sl, h⟩ := h
    obtain ⟨sl2, h2⟩ := Run.ret (nN := 7) (f := f_law) (es := [.sc ns]) (wd := []) h
    exact ⟨_, h2⟩
  let V : List D := offs1 n css r ++ offs2 ++ offs3
  obtain ⟨x', hloop⟩ := text_loop (ns := ns) (G := gmD n css r) (wd := wd) css ((48 + n) :: 32 :: rr r) .no (by have := (rr_len r).1; have := hg.c3; simp; omega) c8
  have hgt : (48 + n) :: 32 :: rr r ++ css.flatMap (fun c => 32 :: c) = gtL n css r := by
    unfold gtL wordsL
    rw [joinL_flat]
    simp
  rw [hgt] at hloop
  refine ⟨[.sc ns, .wr 0, .sh (gmD n css r), .sh (.str (tx (gtL n css r))), x', .sh (.list (offs1 n css r ++ offs2 ++ offs3)), .no], ?_⟩
  have i0 : atI [PyData.int n, .tuple (css.map strD), .bool r] 0 = some (.int n) := rfl
  have i1 : atI [PyData.int n, .tuple (css.map strD), .bool r] 1 = some (.tuple (css.map strD)) := rfl
  have i2 : atI [PyData.int n, .tuple (css.map strD), .bool r] 2 = some (.bool r) := rfl
  have hlog : (n : Int).natAbs.log2 < 1920 := by
    rw [Int.natAbs_natCast]
    have : n = 0 ∨ n ≠ 0 := by omega
    rcases this with e | e
    · rw [e]; decide
    · exact (Nat.log2_lt e).mpr (Nat.lt_of_le_of_lt h8 (by decide +kernel))
  obtain ⟨gl, gc⟩ := gt_sane hg r
  have hst : SeqAt.shaped (.str (tx (gtL n css r))) = true := shaped_str (strOk_tx fun c hc => by have := gc c hc; omega)
  unfold f_law
  refine (seq_nx (e1 := ⟨[.sc ns, .wr 0, .no, .no, .no, .no, .no], [.tn 0]⟩) rfl).trans ?_
  have cg := call_run (n := 3) (ms := aCons (eN 0) (aCons (eN 1) (aCons (eC (.int 8)) aNil))) (en := ⟨[.sc ns, .wr 0, .no, .no, .no, .no, .no], [.tn 0]⟩) (sl := [.sc ns, .wr 0, .no, .no, .no, .no, .no]) (by simp only [bind_ok, bind_ex, bind_st, get_mk, set_mk, sSeq, sEx, sRet, sIf, sSet, sPass, sEx_, sBk, sAsg, sPar2, sPar3, thenS, dv, toD, eC, eN, eMv, eP, eBin, tst, eChain, tAndM, tOrM, tNotM, eAnd, eOr, eNot, eIf, toA, aNil, aCons, asDs, dvs, eTup, eLst, eCall, eIx, eIxN, itemE, eSl, pNo, pSo, cutD, gLen, eLenN, lenD, gList, gTuple, gN, gT, setAll, eMt, tyD, eIsi, gAdd, gSub, gDiv, gMod, gMul, gPow, gLt, gLe, gGt, gGe, gStr, gMin, gIn, gNotIn, gIs, gIsNot, isD, eLenSc, eIxSc, eScNil, eAppTn, sTown, tYesM, noEx_ok, itemG, stepS, iAll, itemsOf, iR1, iR2, wipeE, restE, keepE, sAug, gIadd, gImul, eApp, eExt, eNeg, List.getD_cons_zero, List.getD_cons_succ, List.set_cons_zero, List.set_cons_succ, List.getElem?_cons_zero, List.getElem?_cons_succ, Option.map_some, Option.map_none, Bool.not_true, Bool.not_false, beq_self_eq_true, if_true, if_false, ite_true, ite_false, Bool.false_eq_true, reduceIte, reduceCtorEq, lenL_0, lenL_1, lenL_2, lenL_3, lenL_4, lenL_5, lenL_6, lenL_7, lenL_8, lenL_9, lenL_10, lenL_11, lenL_12]; rfl) rfl hgame
  refine (seq_nx (e1 := ⟨[.sc ns, .wr 0, .sh (gmD n css r), .no, .no, .no, .no], wd⟩) (by simp only [bind_ok, bind_ex, bind_st, get_mk, set_mk, sSeq, sEx, sRet, sIf, sSet, sPass, sEx_, sBk, sAsg, sPar2, sPar3, thenS, dv, toD, eC, eN, eMv, eP, eBin, tst, eChain, tAndM, tOrM, tNotM, eAnd, eOr, eNot, eIf, toA, aNil, aCons, asDs, dvs, eTup, eLst, eCall, eIx, eIxN, itemE, eSl, pNo, pSo, cutD, gLen, eLenN, lenD, gList, gTuple, gN, gT, setAll, eMt, tyD, eIsi, gAdd, gSub, gDiv, gMod, gMul, gPow, gLt, gLe, gGt, gGe, gStr, gMin, gIn, gNotIn, gIs, gIsNot, isD, eLenSc, eIxSc, eScNil, eAppTn, sTown, tYesM, noEx_ok, itemG, stepS, iAll, itemsOf, iR1, iR2, wipeE, restE, keepE, sAug, gIadd, gImul, eApp, eExt, eNeg, List.getD_cons_zero, List.getD_cons_succ, List.set_cons_zero, List.set_cons_succ, List.getElem?_cons_zero, List.getElem?_cons_succ, Option.map_some, Option.map_none, Bool.not_true, Bool.not_false, beq_self_eq_true, if_true, if_false, ite_true, ite_false, Bool.false_eq_true, reduceIte, reduceCtorEq, lenL_0, lenL_1, lenL_2, lenL_3, lenL_4, lenL_5, lenL_6, lenL_7, lenL_8, lenL_9, lenL_10, lenL_11, lenL_12, cg])).trans ?_
  refine (seq_nx (e1 := ⟨[.sc ns, .wr 0, .sh (gmD n css r), .sh (.str (tx ((48 + n) :: 32 :: rr r))), .no, .no, .no], wd⟩) ?_).trans ?_
  · have o1 : PySem.Str.ofString " ring" = tx [32, 114, 105, 110, 103] := ofS _ _ rfl
    have o2 : PySem.Str.ofString " row" = tx [32, 114, 111, 119] := ofS _ _ rfl
    have g1 : (tx [48 + n]).length + (tx [32, 114, 105, 110, 103]).length ≤ lim := by rw [tx_len, tx_len]; show 1 + 5 ≤ lim; decide
    have g2 : (tx [48 + n]).length + (tx [32, 114, 111, 119]).length ≤ lim := by rw [tx_len, tx_len]; show 1 + 4 ≤ lim; decide
    unfold gmD
    cases r
    · simp only [bind_ok, bind_ex, bind_st, get_mk, set_mk, sSeq, sEx, sRet, sIf, sSet, sPass, sEx_, sBk, sAsg, sPar2, sPar3, thenS, dv, toD, eC, eN, eMv, eP, eBin, tst, eChain, tAndM, tOrM, tNotM, eAnd, eOr, eNot, eIf, toA, aNil, aCons, asDs, dvs, eTup, eLst, eCall, eIx, eIxN, itemE, eSl, pNo, pSo, cutD, gLen, eLenN, lenD, gList, gTuple, gN, gT, setAll, eMt, tyD, eIsi, gAdd, gSub, gDiv, gMod, gMul, gPow, gLt, gLe, gGt, gGe, gStr, gMin, gIn, gNotIn, gIs, gIsNot, isD, eLenSc, eIxSc, eScNil, eAppTn, sTown, tYesM, noEx_ok, itemG, stepS, iAll, itemsOf, iR1, iR2, wipeE, restE, keepE, sAug, gIadd, gImul, eApp, eExt, eNeg, List.getD_cons_zero, List.getD_cons_succ, List.set_cons_zero, List.set_cons_succ, List.getElem?_cons_zero, List.getElem?_cons_succ, Option.map_some, Option.map_none, Bool.not_true, Bool.not_false, beq_self_eq_true, if_true, if_false, ite_true, ite_false, Bool.false_eq_true, reduceIte, reduceCtorEq, lenL_0, lenL_1, lenL_2, lenL_3, lenL_4, lenL_5, lenL_6, lenL_7, lenL_8, lenL_9, lenL_10, lenL_11, lenL_12, i0, i2, if_pos hlog, num_tx (show n < 10 by omega), o1, o2, if_pos g1, if_pos g2, tx_app]
      rfl
    · simp only [bind_ok, bind_ex, bind_st, get_mk, set_mk, sSeq, sEx, sRet, sIf, sSet, sPass, sEx_, sBk, sAsg, sPar2, sPar3, thenS, dv, toD, eC, eN, eMv, eP, eBin, tst, eChain, tAndM, tOrM, tNotM, eAnd, eOr, eNot, eIf, toA, aNil, aCons, asDs, dvs, eTup, eLst, eCall, eIx, eIxN, itemE, eSl, pNo, pSo, cutD, gLen, eLenN, lenD, gList, gTuple, gN, gT, setAll, eMt, tyD, eIsi, gAdd, gSub, gDiv, gMod, gMul, gPow, gLt, gLe, gGt, gGe, gStr, gMin, gIn, gNotIn, gIs, gIsNot, isD, eLenSc, eIxSc, eScNil, eAppTn, sTown, tYesM, noEx_ok, itemG, stepS, iAll, itemsOf, iR1, iR2, wipeE, restE, keepE, sAug, gIadd, gImul, eApp, eExt, eNeg, List.getD_cons_zero, List.getD_cons_succ, List.set_cons_zero, List.set_cons_succ, List.getElem?_cons_zero, List.getElem?_cons_succ, Option.map_some, Option.map_none, Bool.not_true, Bool.not_false, beq_self_eq_true, if_true, if_false, ite_true, ite_false, Bool.false_eq_true, reduceIte, reduceCtorEq, lenL_0, lenL_1, lenL_2, lenL_3, lenL_4, lenL_5, lenL_6, lenL_7, lenL_8, lenL_9, lenL_10, lenL_11, lenL_12, i0, i2, if_pos hlog, num_tx (show n < 10 by omega), o1, o2, if_pos g1, if_pos g2, tx_app]
      rfl
  refine (seq_nx (e1 := ⟨[.sc ns, .wr 0, .sh (gmD n css r), .sh (.str (tx (gtL n css r))), x', .no, .no], wd⟩) ?_).trans ?_
  · rw [← hloop]
    unfold sFor
    unfold gmD
    simp only [bind_ok, bind_ex, bind_st, get_mk, set_mk, sSeq, sEx, sRet, sIf, sSet, sPass, sEx_, sBk, sAsg, sPar2, sPar3, thenS, dv, toD, eC, eN, eMv, eP, eBin, tst, eChain, tAndM, tOrM, tNotM, eAnd, eOr, eNot, eIf, toA, aNil, aCons, asDs, dvs, eTup, eLst, eCall, eIx, eIxN, itemE, eSl, pNo, pSo, cutD, gLen, eLenN, lenD, gList, gTuple, gN, gT, setAll, eMt, tyD, eIsi, gAdd, gSub, gDiv, gMod, gMul, gPow, gLt, gLe, gGt, gGe, gStr, gMin, gIn, gNotIn, gIs, gIsNot, isD, eLenSc, eIxSc, eScNil, eAppTn, sTown, tYesM, noEx_ok, itemG, stepS, iAll, itemsOf, iR1, iR2, wipeE, restE, keepE, sAug, gIadd, gImul, eApp, eExt, eNeg, List.getD_cons_zero, List.getD_cons_succ, List.set_cons_zero, List.set_cons_succ, List.getElem?_cons_zero, List.getElem?_cons_succ, Option.map_some, Option.map_none, Bool.not_true, Bool.not_false, beq_self_eq_true, if_true, if_false, ite_true, ite_false, Bool.false_eq_true, reduceIte, reduceCtorEq, lenL_0, lenL_1, lenL_2, lenL_3, lenL_4, lenL_5, lenL_6, lenL_7, lenL_8, lenL_9, lenL_10, lenL_11, lenL_12, i1]
  have cf := call_run (n := 1) (ms := aCons (eN 2) aNil) (en := ⟨[.sc ns, .wr 0, .sh (gmD n css r), .sh (.str (tx (gtL n css r))), x', .no, .no], wd⟩) (sl := [.sc ns, .wr 0, .sh (gmD n css r), .sh (.str (tx (gtL n css r))), x', .no, .no]) (by simp only [bind_ok, bind_ex, bind_st, get_mk, set_mk, sSeq, sEx, sRet, sIf, sSet, sPass, sEx_, sBk, sAsg, sPar2, sPar3, thenS, dv, toD, eC, eN, eMv, eP, eBin, tst, eChain, tAndM, tOrM, tNotM, eAnd, eOr, eNot, eIf, toA, aNil, aCons, asDs, dvs, eTup, eLst, eCall, eIx, eIxN, itemE, eSl, pNo, pSo, cutD, gLen, eLenN, lenD, gList, gTuple, gN, gT, setAll, eMt, tyD, eIsi, gAdd, gSub, gDiv, gMod, gMul, gPow, gLt, gLe, gGt, gGe, gStr, gMin, gIn, gNotIn, gIs, gIsNot, isD, eLenSc, eIxSc, eScNil, eAppTn, sTown, tYesM, noEx_ok, itemG, stepS, iAll, itemsOf, iR1, iR2, wipeE, restE, keepE, sAug, gIadd, gImul, eApp, eExt, eNeg, List.getD_cons_zero, List.getD_cons_succ, List.set_cons_zero, List.set_cons_succ, List.getElem?_cons_zero, List.getElem?_cons_succ, Option.map_some, Option.map_none, Bool.not_true, Bool.not_false, beq_self_eq_true, if_true, if_false, ite_true, ite_false, Bool.false_eq_true, reduceIte, reduceCtorEq, lenL_0, lenL_1, lenL_2, lenL_3, lenL_4, lenL_5, lenL_6, lenL_7, lenL_8, lenL_9, lenL_10, lenL_11, lenL_12]) rfl (format_run (wd := wd) hg r)
  have hrd : Run m__law_read [.sh (.str (tx (gtL n css r)))] wd (.sh (gmD n css r)) wd := by
    have q := read_run (d := .str (tx (gtL n css r))) (wd := wd) ⟨by show (gtL n css r).length ≤ 1000; omega, fun c hc => by have := gc c hc; omega⟩
    have e : readD (.str (tx (gtL n css r))) = gmD n css r := by
      show (match parseL (spl32 (gtL n css r)) with | some (n, css, r) => gmD n css r | none => ansD 9) = _
      rw [hg.parse r]
    rw [e] at q
    exact q
  have cr := call_run (n := 1) (ms := aCons (eN 3) aNil) (en := ⟨[.sc ns, .wr 0, .sh (gmD n css r), .sh (.str (tx (gtL n css r))), x', .no, .no], wd⟩) (sl := [.sc ns, .wr 0, .sh (gmD n css r), .sh (.str (tx (gtL n css r))), x', .no, .no]) (by simp only [bind_ok, bind_ex, bind_st, get_mk, set_mk, sSeq, sEx, sRet, sIf, sSet, sPass, sEx_, sBk, sAsg, sPar2, sPar3, thenS, dv, toD, eC, eN, eMv, eP, eBin, tst, eChain, tAndM, tOrM, tNotM, eAnd, eOr, eNot, eIf, toA, aNil, aCons, asDs, dvs, eTup, eLst, eCall, eIx, eIxN, itemE, eSl, pNo, pSo, cutD, gLen, eLenN, lenD, gList, gTuple, gN, gT, setAll, eMt, tyD, eIsi, gAdd, gSub, gDiv, gMod, gMul, gPow, gLt, gLe, gGt, gGe, gStr, gMin, gIn, gNotIn, gIs, gIsNot, isD, eLenSc, eIxSc, eScNil, eAppTn, sTown, tYesM, noEx_ok, itemG, stepS, iAll, itemsOf, iR1, iR2, wipeE, restE, keepE, sAug, gIadd, gImul, eApp, eExt, eNeg, List.getD_cons_zero, List.getD_cons_succ, List.set_cons_zero, List.set_cons_succ, List.getElem?_cons_zero, List.getElem?_cons_succ, Option.map_some, Option.map_none, Bool.not_true, Bool.not_false, beq_self_eq_true, if_true, if_false, ite_true, ite_false, Bool.false_eq_true, reduceIte, reduceCtorEq, lenL_0, lenL_1, lenL_2, lenL_3, lenL_4, lenL_5, lenL_6, lenL_7, lenL_8, lenL_9, lenL_10, lenL_11, lenL_12]) rfl hrd
  refine (seq_nx (e1 := ⟨[.sc ns, .wr 0, .sh (gmD n css r), .sh (.str (tx (gtL n css r))), x', .no, .no], wd⟩) (by simp only [bind_ok, bind_ex, bind_st, get_mk, set_mk, sSeq, sEx, sRet, sIf, sSet, sPass, sEx_, sBk, sAsg, sPar2, sPar3, thenS, dv, toD, eC, eN, eMv, eP, eBin, tst, eChain, tAndM, tOrM, tNotM, eAnd, eOr, eNot, eIf, toA, aNil, aCons, asDs, dvs, eTup, eLst, eCall, eIx, eIxN, itemE, eSl, pNo, pSo, cutD, gLen, eLenN, lenD, gList, gTuple, gN, gT, setAll, eMt, tyD, eIsi, gAdd, gSub, gDiv, gMod, gMul, gPow, gLt, gLe, gGt, gGe, gStr, gMin, gIn, gNotIn, gIs, gIsNot, isD, eLenSc, eIxSc, eScNil, eAppTn, sTown, tYesM, noEx_ok, itemG, stepS, iAll, itemsOf, iR1, iR2, wipeE, restE, keepE, sAug, gIadd, gImul, eApp, eExt, eNeg, List.getD_cons_zero, List.getD_cons_succ, List.set_cons_zero, List.set_cons_succ, List.getElem?_cons_zero, List.getElem?_cons_succ, Option.map_some, Option.map_none, Bool.not_true, Bool.not_false, beq_self_eq_true, if_true, if_false, ite_true, ite_false, Bool.false_eq_true, reduceIte, reduceCtorEq, lenL_0, lenL_1, lenL_2, lenL_3, lenL_4, lenL_5, lenL_6, lenL_7, lenL_8, lenL_9, lenL_10, lenL_11, lenL_12, cf, cr, gNe_self hst, gNe_self (hg.shaped r)])).trans ?_
  refine (seq_nx (e1 := ⟨[.sc ns, .wr 0, .sh (gmD n css r), .sh (.str (tx (gtL n css r))), x', .ow (offs1 n css r), .no], wd⟩) ?_).trans ?_
  · have gtl : (tx (gtL n css r)).length ≤ 50 := by rw [tx_len]; exact gl
    have q1 : (tx (gtL n css r)).length + (tx [32]).length ≤ lim := by rw [tx_len [32]]; show _ + 1 ≤ _; omega
    have q2 : (tx [32]).length + (tx (gtL n css r)).length ≤ lim := by rw [tx_len [32]]; show 1 + _ ≤ _; omega
    have q3 : (tx (gtL n css r)).length + (tx [32, 121]).length ≤ lim := by rw [tx_len [32, 121]]; show _ + 2 ≤ _; omega
    have q4 : (tx (gtL n css r)).length + ((tx (gtL n css r)).length + 1) * (tx [82]).length ≤ lim := by rw [tx_len [82]]; show _ + _ * 1 ≤ _; omega
    have q5 : (tx [48]).length + (tx (gtL n css r)).length ≤ lim := by rw [tx_len [48]]; show 1 + _ ≤ _; omega
    have o1 : PySem.Str.ofString " y" = tx [32, 121] := ofS _ _ rfl
    have o2 : PySem.Str.ofString "r" = tx [114] := ofS _ _ rfl
    have o3 : PySem.Str.ofString "R" = tx [82] := ofS _ _ rfl
    have o4 : PySem.Str.ofString "0" = tx [48] := ofS _ _ rfl
    unfold offs1
    simp only [bind_ok, bind_ex, bind_st, get_mk, set_mk, sSeq, sEx, sRet, sIf, sSet, sPass, sEx_, sBk, sAsg, sPar2, sPar3, thenS, dv, toD, eC, eN, eMv, eP, eBin, tst, eChain, tAndM, tOrM, tNotM, eAnd, eOr, eNot, eIf, toA, aNil, aCons, asDs, dvs, eTup, eLst, eCall, eIx, eIxN, itemE, eSl, pNo, pSo, cutD, gLen, eLenN, lenD, gList, gTuple, gN, gT, setAll, eMt, tyD, eIsi, gAdd, gSub, gDiv, gMod, gMul, gPow, gLt, gLe, gGt, gGe, gStr, gMin, gIn, gNotIn, gIs, gIsNot, isD, eLenSc, eIxSc, eScNil, eAppTn, sTown, tYesM, noEx_ok, itemG, stepS, iAll, itemsOf, iR1, iR2, wipeE, restE, keepE, sAug, gIadd, gImul, eApp, eExt, eNeg, List.getD_cons_zero, List.getD_cons_succ, List.set_cons_zero, List.set_cons_succ, List.getElem?_cons_zero, List.getElem?_cons_succ, Option.map_some, Option.map_none, Bool.not_true, Bool.not_false, beq_self_eq_true, if_true, if_false, ite_true, ite_false, Bool.false_eq_true, reduceIte, reduceCtorEq, lenL_0, lenL_1, lenL_2, lenL_3, lenL_4, lenL_5, lenL_6, lenL_7, lenL_8, lenL_9, lenL_10, lenL_11, lenL_12, ofsp, ofnil, o1, o2, o3, o4, if_pos q1, if_pos q2, if_pos q3, if_pos q5, eRepl, if_pos q4, tx_app]
  refine (seq_nx (e1 := ⟨[.sc ns, .wr 0, .sh (gmD n css r), .sh (.str (tx (gtL n css r))), x', .ow (offs1 n css r ++ offs2), .no], wd⟩) ?_).trans ?_
  · have q : (offs1 n css r).length + offs2.length ≤ lim := by show 10 + 7 ≤ lim; decide
    unfold offs2 at q ⊢
    simp only [bind_ok, bind_ex, bind_st, get_mk, set_mk, sSeq, sEx, sRet, sIf, sSet, sPass, sEx_, sBk, sAsg, sPar2, sPar3, thenS, dv, toD, eC, eN, eMv, eP, eBin, tst, eChain, tAndM, tOrM, tNotM, eAnd, eOr, eNot, eIf, toA, aNil, aCons, asDs, dvs, eTup, eLst, eCall, eIx, eIxN, itemE, eSl, pNo, pSo, cutD, gLen, eLenN, lenD, gList, gTuple, gN, gT, setAll, eMt, tyD, eIsi, gAdd, gSub, gDiv, gMod, gMul, gPow, gLt, gLe, gGt, gGe, gStr, gMin, gIn, gNotIn, gIs, gIsNot, isD, eLenSc, eIxSc, eScNil, eAppTn, sTown, tYesM, noEx_ok, itemG, stepS, iAll, itemsOf, iR1, iR2, wipeE, restE, keepE, sAug, gIadd, gImul, eApp, eExt, eNeg, List.getD_cons_zero, List.getD_cons_succ, List.set_cons_zero, List.set_cons_succ, List.getElem?_cons_zero, List.getElem?_cons_succ, Option.map_some, Option.map_none, Bool.not_true, Bool.not_false, beq_self_eq_true, if_true, if_false, ite_true, ite_false, Bool.false_eq_true, reduceIte, reduceCtorEq, lenL_0, lenL_1, lenL_2, lenL_3, lenL_4, lenL_5, lenL_6, lenL_7, lenL_8, lenL_9, lenL_10, lenL_11, lenL_12, if_pos q]
  refine (seq_nx (e1 := ⟨[.sc ns, .wr 0, .sh (gmD n css r), .sh (.str (tx (gtL n css r))), x', .ow (offs1 n css r ++ offs2 ++ offs3), .no], wd⟩) ?_).trans ?_
  · have q : (offs1 n css r ++ offs2).length + offs3.length ≤ lim := by show 17 + 8 ≤ lim; decide
    unfold offs3 at q ⊢
    simp only [bind_ok, bind_ex, bind_st, get_mk, set_mk, sSeq, sEx, sRet, sIf, sSet, sPass, sEx_, sBk, sAsg, sPar2, sPar3, thenS, dv, toD, eC, eN, eMv, eP, eBin, tst, eChain, tAndM, tOrM, tNotM, eAnd, eOr, eNot, eIf, toA, aNil, aCons, asDs, dvs, eTup, eLst, eCall, eIx, eIxN, itemE, eSl, pNo, pSo, cutD, gLen, eLenN, lenD, gList, gTuple, gN, gT, setAll, eMt, tyD, eIsi, gAdd, gSub, gDiv, gMod, gMul, gPow, gLt, gLe, gGt, gGe, gStr, gMin, gIn, gNotIn, gIs, gIsNot, isD, eLenSc, eIxSc, eScNil, eAppTn, sTown, tYesM, noEx_ok, itemG, stepS, iAll, itemsOf, iR1, iR2, wipeE, restE, keepE, sAug, gIadd, gImul, eApp, eExt, eNeg, List.getD_cons_zero, List.getD_cons_succ, List.set_cons_zero, List.set_cons_succ, List.getElem?_cons_zero, List.getElem?_cons_succ, Option.map_some, Option.map_none, Bool.not_true, Bool.not_false, beq_self_eq_true, if_true, if_false, ite_true, ite_false, Bool.false_eq_true, reduceIte, reduceCtorEq, lenL_0, lenL_1, lenL_2, lenL_3, lenL_4, lenL_5, lenL_6, lenL_7, lenL_8, lenL_9, lenL_10, lenL_11, lenL_12, if_pos q]
  refine (seq_nx (e1 := ⟨[.sc ns, .wr 0, .sh (gmD n css r), .sh (.str (tx (gtL n css r))), x', .sh (.list (offs1 n css r ++ offs2 ++ offs3)), .no], wd⟩) ?_).trans ?_
  · have hodd := offs_odd hg r
    have hV : (offs1 n css r ++ offs2 ++ offs3).length = 25 := rfl
    generalize offs1 n css r ++ offs2 ++ offs3 = V at *
    have hmap : V.map readD = List.replicate 25 (ansD 9) := by
      rw [← hV]
      exact List.eq_replicate_iff.mpr ⟨List.length_map _, fun d hd => by obtain ⟨x, hx, rfl⟩ := List.mem_map.mp hd; exact (hodd x hx).1⟩
    obtain ⟨e', h1, x2, h2⟩ := comp_map (g := gN 6) (t := tYesM) (m := eCallF 1 m__law_read (aCons (eN 6) aNil)) (vs := [6]) (fun e => ∃ x, e = ⟨[.sc ns, .wr 0, .sh (gmD n css r), .sh (.str (tx (gtL n css r))), x', .sh (.list V), x], wd⟩) readD V ⟨[.sc ns, .wr 0, .sh (gmD n css r), .sh (.str (tx (gtL n css r))), x', .sh (.list V), .no], wd⟩ ⟨.no, rfl⟩ (by omega) (by
      rintro d hd e ⟨x, rfl⟩
      have hc := call_run (n := 1) (ms := aCons (eN 6) aNil) (en := ⟨[.sc ns, .wr 0, .sh (gmD n css r), .sh (.str (tx (gtL n css r))), x', .sh (.list V), .sh d], wd⟩) (sl := [.sc ns, .wr 0, .sh (gmD n css r), .sh (.str (tx (gtL n css r))), x', .sh (.list V), .sh d]) (by simp only [bind_ok, bind_ex, bind_st, get_mk, set_mk, sSeq, sEx, sRet, sIf, sSet, sPass, sEx_, sBk, sAsg, sPar2, sPar3, thenS, dv, toD, eC, eN, eMv, eP, eBin, tst, eChain, tAndM, tOrM, tNotM, eAnd, eOr, eNot, eIf, toA, aNil, aCons, asDs, dvs, eTup, eLst, eCall, eIx, eIxN, itemE, eSl, pNo, pSo, cutD, gLen, eLenN, lenD, gList, gTuple, gN, gT, setAll, eMt, tyD, eIsi, gAdd, gSub, gDiv, gMod, gMul, gPow, gLt, gLe, gGt, gGe, gStr, gMin, gIn, gNotIn, gIs, gIsNot, isD, eLenSc, eIxSc, eScNil, eAppTn, sTown, tYesM, noEx_ok, itemG, stepS, iAll, itemsOf, iR1, iR2, wipeE, restE, keepE, sAug, gIadd, gImul, eApp, eExt, eNeg, List.getD_cons_zero, List.getD_cons_succ, List.set_cons_zero, List.set_cons_succ, List.getElem?_cons_zero, List.getElem?_cons_succ, Option.map_some, Option.map_none, Bool.not_true, Bool.not_false, beq_self_eq_true, if_true, if_false, ite_true, ite_false, Bool.false_eq_true, reduceIte, reduceCtorEq, lenL_0, lenL_1, lenL_2, lenL_3, lenL_4, lenL_5, lenL_6, lenL_7, lenL_8, lenL_9, lenL_10, lenL_11, lenL_12]) rfl (read_run (wd := wd) (hodd d hd).2)
      exact ⟨⟨[.sc ns, .wr 0, .sh (gmD n css r), .sh (.str (tx (gtL n css r))), x', .sh (.list V), .sh d], wd⟩, by simp only [bind_ok, bind_ex, bind_st, get_mk, set_mk, sSeq, sEx, sRet, sIf, sSet, sPass, sEx_, sBk, sAsg, sPar2, sPar3, thenS, dv, toD, eC, eN, eMv, eP, eBin, tst, eChain, tAndM, tOrM, tNotM, eAnd, eOr, eNot, eIf, toA, aNil, aCons, asDs, dvs, eTup, eLst, eCall, eIx, eIxN, itemE, eSl, pNo, pSo, cutD, gLen, eLenN, lenD, gList, gTuple, gN, gT, setAll, eMt, tyD, eIsi, gAdd, gSub, gDiv, gMod, gMul, gPow, gLt, gLe, gGt, gGe, gStr, gMin, gIn, gNotIn, gIs, gIsNot, isD, eLenSc, eIxSc, eScNil, eAppTn, sTown, tYesM, noEx_ok, itemG, stepS, iAll, itemsOf, iR1, iR2, wipeE, restE, keepE, sAug, gIadd, gImul, eApp, eExt, eNeg, List.getD_cons_zero, List.getD_cons_succ, List.set_cons_zero, List.set_cons_succ, List.getElem?_cons_zero, List.getElem?_cons_succ, Option.map_some, Option.map_none, Bool.not_true, Bool.not_false, beq_self_eq_true, if_true, if_false, ite_true, ite_false, Bool.false_eq_true, reduceIte, reduceCtorEq, lenL_0, lenL_1, lenL_2, lenL_3, lenL_4, lenL_5, lenL_6, lenL_7, lenL_8, lenL_9, lenL_10, lenL_11, lenL_12, hc], .sh d, rfl⟩)
    subst h2
    have hlc := (lc_run (mi := iAll (eN 5)) (en := ⟨[.sc ns, .wr 0, .sh (gmD n css r), .sh (.str (tx (gtL n css r))), x', .ow V, .no], wd⟩) (e := ⟨[.sc ns, .wr 0, .sh (gmD n css r), .sh (.str (tx (gtL n css r))), x', .sh (.list V), .no], wd⟩) (by simp only [bind_ok, bind_ex, bind_st, get_mk, set_mk, sSeq, sEx, sRet, sIf, sSet, sPass, sEx_, sBk, sAsg, sPar2, sPar3, thenS, dv, toD, eC, eN, eMv, eP, eBin, tst, eChain, tAndM, tOrM, tNotM, eAnd, eOr, eNot, eIf, toA, aNil, aCons, asDs, dvs, eTup, eLst, eCall, eIx, eIxN, itemE, eSl, pNo, pSo, cutD, gLen, eLenN, lenD, gList, gTuple, gN, gT, setAll, eMt, tyD, eIsi, gAdd, gSub, gDiv, gMod, gMul, gPow, gLt, gLe, gGt, gGe, gStr, gMin, gIn, gNotIn, gIs, gIsNot, isD, eLenSc, eIxSc, eScNil, eAppTn, sTown, tYesM, noEx_ok, itemG, stepS, iAll, itemsOf, iR1, iR2, wipeE, restE, keepE, sAug, gIadd, gImul, eApp, eExt, eNeg, List.getD_cons_zero, List.getD_cons_succ, List.set_cons_zero, List.set_cons_succ, List.getElem?_cons_zero, List.getElem?_cons_succ, Option.map_some, Option.map_none, Bool.not_true, Bool.not_false, beq_self_eq_true, if_true, if_false, ite_true, ite_false, Bool.false_eq_true, reduceIte, reduceCtorEq, lenL_0, lenL_1, lenL_2, lenL_3, lenL_4, lenL_5, lenL_6, lenL_7, lenL_8, lenL_9, lenL_10, lenL_11, lenL_12]) h1).trans (by simp only [bind_ok, bind_ex, bind_st, get_mk, set_mk, sSeq, sEx, sRet, sIf, sSet, sPass, sEx_, sBk, sAsg, sPar2, sPar3, thenS, dv, toD, eC, eN, eMv, eP, eBin, tst, eChain, tAndM, tOrM, tNotM, eAnd, eOr, eNot, eIf, toA, aNil, aCons, asDs, dvs, eTup, eLst, eCall, eIx, eIxN, itemE, eSl, pNo, pSo, cutD, gLen, eLenN, lenD, gList, gTuple, gN, gT, setAll, eMt, tyD, eIsi, gAdd, gSub, gDiv, gMod, gMul, gPow, gLt, gLe, gGt, gGe, gStr, gMin, gIn, gNotIn, gIs, gIsNot, isD, eLenSc, eIxSc, eScNil, eAppTn, sTown, tYesM, noEx_ok, itemG, stepS, iAll, itemsOf, iR1, iR2, wipeE, restE, keepE, sAug, gIadd, gImul, eApp, eExt, eNeg, List.getD_cons_zero, List.getD_cons_succ, List.set_cons_zero, List.set_cons_succ, List.getElem?_cons_zero, List.getElem?_cons_succ, Option.map_some, Option.map_none, Bool.not_true, Bool.not_false, beq_self_eq_true, if_true, if_false, ite_true, ite_false, Bool.false_eq_true, reduceIte, reduceCtorEq, lenL_0, lenL_1, lenL_2, lenL_3, lenL_4, lenL_5, lenL_6, lenL_7, lenL_8, lenL_9, lenL_10, lenL_11, lenL_12] : _ = R.ok (.ow (V.map readD)) ⟨[.sc ns, .wr 0, .sh (gmD n css r), .sh (.str (tx (gtL n css r))), x', .sh (.list V), .no], wd⟩)
    rw [hmap] at hlc
    have hmul : ∀ e, gMul (.list [.tuple [.str (PySem.Str.ofString "raised"), .int 9]]) (.int (V.length : Nat)) e = .ok (.ow (List.replicate 25 (ansD 9))) e := fun e => by
      rw [hV]
      rfl
    have hsh : SeqAt.shaped (.list (List.replicate 25 (ansD 9))) = true := by decide +kernel
    simp only [sIf, tst, eBin, dv, hlc]
    simp only [bind_ok, bind_ex, bind_st, get_mk, set_mk, sSeq, sEx, sRet, sIf, sSet, sPass, sEx_, sBk, sAsg, sPar2, sPar3, thenS, dv, toD, eC, eN, eMv, eP, eBin, tst, eChain, tAndM, tOrM, tNotM, eAnd, eOr, eNot, eIf, toA, aNil, aCons, asDs, dvs, eTup, eLst, eCall, eIx, eIxN, itemE, eSl, pNo, pSo, cutD, gLen, eLenN, lenD, gList, gTuple, gN, gT, setAll, eMt, tyD, eIsi, gAdd, gSub, gDiv, gMod, gPow, gLt, gLe, gGt, gGe, gStr, gMin, gIn, gNotIn, gIs, gIsNot, isD, eLenSc, eIxSc, eScNil, eAppTn, sTown, tYesM, noEx_ok, itemG, stepS, iAll, itemsOf, iR1, iR2, wipeE, restE, keepE, sAug, gIadd, gImul, eApp, eExt, eNeg, List.getD_cons_zero, List.getD_cons_succ, List.set_cons_zero, List.set_cons_succ, List.getElem?_cons_zero, List.getElem?_cons_succ, Option.map_some, Option.map_none, Bool.not_true, Bool.not_false, beq_self_eq_true, if_true, if_false, ite_true, ite_false, Bool.false_eq_true, reduceIte, reduceCtorEq, lenL_0, lenL_1, lenL_2, lenL_3, lenL_4, lenL_5, lenL_6, lenL_7, lenL_8, lenL_9, lenL_10, lenL_11, lenL_12, hmul, gNe_self hsh]
  have hg8 : Gm 8 [[120, 46, 46, 46, 46, 46, 46, 120]] := ⟨by decide, by decide, by decide, by decide, by decide, by decide, by decide⟩
  have o8 : PySem.Str.ofString "8 ring x......x" = tx (gtL 8 [[120, 46, 46, 46, 46, 46, 46, 120]] true) := ofS _ _ rfl
  have p8 : PySem.Str.ofString "x......x" = tx [120, 46, 46, 46, 46, 46, 46, 120] := ofS _ _ rfl
  have hr8 : Run m__law_read [.sh (.str (tx (gtL 8 [[120, 46, 46, 46, 46, 46, 46, 120]] true)))] wd (.sh (gmD 8 [[120, 46, 46, 46, 46, 46, 46, 120]] true)) wd := by
    obtain ⟨gl, gc⟩ := gt_sane hg8 true
    have q := read_run (d := .str (tx (gtL 8 [[120, 46, 46, 46, 46, 46, 46, 120]] true))) (wd := wd) ⟨by show (gtL 8 [[120, 46, 46, 46, 46, 46, 46, 120]] true).length ≤ 1000; omega, fun c hc => by have := gc c hc; omega⟩
    have e : readD (.str (tx (gtL 8 [[120, 46, 46, 46, 46, 46, 46, 120]] true))) = gmD 8 [[120, 46, 46, 46, 46, 46, 46, 120]] true := by
      show (match parseL (spl32 (gtL 8 [[120, 46, 46, 46, 46, 46, 46, 120]] true)) with | some (n, css, r) => gmD n css r | none => ansD 9) = _
      rw [hg8.parse true]
    rw [e] at q
    exact q
  have hr8' : Run m__law_read [.sh (.str (PySem.Str.ofString "8 ring x......x"))] wd (.sh (gmD 8 [[120, 46, 46, 46, 46, 46, 46, 120]] true)) wd := by
    rw [o8]
    exact hr8
  generalize offs1 n css r ++ offs2 ++ offs3 = V
  have c8 := call_run (n := 1) (es := [.sh (.str (PySem.Str.ofString "8 ring x......x"))]) (ms := aCons (eC (.str (PySem.Str.ofString "8 ring x......x"))) aNil) (en := ⟨[.sc ns, .wr 0, .sh (gmD n css r), .sh (.str (tx (gtL n css r))), x', .sh (.list V), .no], wd⟩) (sl := [.sc ns, .wr 0, .sh (gmD n css r), .sh (.str (tx (gtL n css r))), x', .sh (.list V), .no]) (by simp only [bind_ok, bind_ex, bind_st, get_mk, set_mk, sSeq, sEx, sRet, sIf, sSet, sPass, sEx_, sBk, sAsg, sPar2, sPar3, thenS, dv, toD, eC, eN, eMv, eP, eBin, tst, eChain, tAndM, tOrM, tNotM, eAnd, eOr, eNot, eIf, toA, aNil, aCons, asDs, dvs, eTup, eLst, eCall, eIx, eIxN, itemE, eSl, pNo, pSo, cutD, gLen, eLenN, lenD, gList, gTuple, gN, gT, setAll, eMt, tyD, eIsi, gAdd, gSub, gDiv, gMod, gMul, gPow, gLt, gLe, gGt, gGe, gStr, gMin, gIn, gNotIn, gIs, gIsNot, isD, eLenSc, eIxSc, eScNil, eAppTn, sTown, tYesM, noEx_ok, itemG, stepS, iAll, itemsOf, iR1, iR2, wipeE, restE, keepE, sAug, gIadd, gImul, eApp, eExt, eNeg, List.getD_cons_zero, List.getD_cons_succ, List.set_cons_zero, List.set_cons_succ, List.getElem?_cons_zero, List.getElem?_cons_succ, Option.map_some, Option.map_none, Bool.not_true, Bool.not_false, beq_self_eq_true, if_true, if_false, ite_true, ite_false, Bool.false_eq_true, reduceIte, reduceCtorEq, lenL_0, lenL_1, lenL_2, lenL_3, lenL_4, lenL_5, lenL_6, lenL_7, lenL_8, lenL_9, lenL_10, lenL_11, lenL_12]) rfl hr8'
  have hs8 : ∀ e, gEq (gmD 8 [[120, 46, 46, 46, 46, 46, 46, 120]] true) (.tuple [.int 8, .tuple [.str (PySem.Str.ofString "x......x")], .bool true]) e = .ok (.sh (.bool true)) e := fun e => by
    rw [p8]
    exact gEq_self (hg8.shaped true) e
  simp only [bind_ok, bind_ex, bind_st, get_mk, set_mk, sSeq, sEx, sRet, sIf, sSet, sPass, sEx_, sBk, sAsg, sPar2, sPar3, thenS, dv, toD, eC, eN, eMv, eP, eBin, tst, eChain, tAndM, tOrM, tNotM, eAnd, eOr, eNot, eIf, toA, aNil, aCons, asDs, dvs, eTup, eLst, eCall, eIx, eIxN, itemE, eSl, pNo, pSo, cutD, gLen, eLenN, lenD, gList, gTuple, gN, gT, setAll, eMt, tyD, eIsi, gAdd, gSub, gDiv, gMod, gMul, gPow, gLt, gLe, gGt, gGe, gStr, gMin, gIn, gNotIn, gIs, gIsNot, isD, eLenSc, eIxSc, eScNil, eAppTn, sTown, tYesM, noEx_ok, itemG, stepS, iAll, itemsOf, iR1, iR2, wipeE, restE, keepE, sAug, gIadd, gImul, eApp, eExt, eNeg, List.getD_cons_zero, List.getD_cons_succ, List.set_cons_zero, List.set_cons_succ, List.getElem?_cons_zero, List.getElem?_cons_succ, Option.map_some, Option.map_none, Bool.not_true, Bool.not_false, beq_self_eq_true, if_true, if_false, ite_true, ite_false, Bool.false_eq_true, reduceIte, reduceCtorEq, lenL_0, lenL_1, lenL_2, lenL_3, lenL_4, lenL_5, lenL_6, lenL_7, lenL_8, lenL_9, lenL_10, lenL_11, lenL_12, c8, hs8]
end CO

open PySem PySem.W PyProof.Rows
set_option maxHeartbeats 0 in
theorem PySem.Challenge.cw_coinshapes_k08_whole_formatting_holds : PySem.Challenge.rw_coinshapes_k08_whole_formatting.Holds := by
  w_on; o_law; k_head; (case hw => w_witness2)
  k_fill
  refine L2.walk_of (l := PySem.Challenge.rw_coinshapes_k08_whole_formatting) (n := 63) (k := 7) (x := "_law_script") (CX := fun w => L2.CX (PySem.Challenge.rw_coinshapes_k08_whole_formatting).prog w) (sp := fun w => CO.spOf (CO.kOf _) 1 CO.m_law) rfl (by decide) rfl ⟨rfl, by decide, by decide⟩ (fun w h Y => PySem.W.kIn_of Y) ?F (fun w H a ns hl _ hS => CO.law_start rfl hS (CO.law_true ns hl)) (fun w H s e s' h => CO.cx_false h)
  case F =>
    intro w mg fa h KX G hmg
    refine' CO.all_mk KX G hmg ?z_all ?z_bool ?z_int ?z_isinstance ?z_len ?z_list ?z_max ?z_min ?z_range ?z_set ?z_sorted ?z_str ?z_tuple ?z_zip ?z_MOST ?n_0 ?k_0 ?e_0 ?s_0 ?t_0 ?n_1 ?n_2 ?n_3 ?n_4 ?n_5 ?n_6 ?n_7 ?n_8 ?n_9 ?k_9 ?e_9 ?s_9 ?t_9 ?n_CE ?z_ve ?em_9 ?kt_9_0 ?kt_9_1 ?kt_9_2 ?kt_9_3 ?kt_9_4 ?kt_9_5 ?kt_9_6 ?kt_9_7 ?kt_9_8 ?kt_9_9 ?kv_9 ?c1_9 ?c2_9 ?c4_9 ?c5_9 ?c8_9 ?c6 ?c7 ?a_14 ?l_14 ?d_14 ?q_14 ?a_15 ?l_15 ?d_15 ?q_15 ?a_16 ?l_16 ?d_16 ?q_16 ?a_17 ?l_17 ?d_17 ?q_17 ?a_19 ?l_19 ?d_19 ?q_19 ?a_20 ?l_20 ?d_20 ?q_20 ?a_21 ?l_21 ?d_21 ?q_21 ?a_23 ?l_23 ?d_23 ?q_23 ?a_24 ?l_24 ?d_24 ?q_24 ?a_25 ?l_25 ?d_25 ?q_25 ?a_26 ?l_26 ?d_26 ?q_26 ?a_27 ?l_27 ?d_27 ?q_27 ?a_28 ?l_28 ?d_28 ?q_28 ?a_30 ?l_30 ?d_30 ?q_30 ?a_31 ?l_31 ?d_31 ?q_31 ?a_29 ?l_29 ?d_29 ?q_29
    (case z_all => k_is)
    (case z_bool => k_is)
    (case z_int => k_is)
    (case z_isinstance => k_is)
    (case z_len => k_is)
    (case z_list => k_is)
    (case z_max => k_is)
    (case z_min => k_is)
    (case z_range => k_is)
    (case z_set => k_is)
    (case z_sorted => k_is)
    (case z_str => k_is)
    (case z_tuple => k_is)
    (case z_zip => k_is)
    (case z_MOST => k_is)
    (case n_0 => k_is)
    (case k_0 => k_is)
    (case e_0 => k_exc)
    (case s_0 => k_is)
    (case t_0 => k_is)
    (case n_1 => k_is)
    (case n_2 => k_is)
    (case n_3 => k_is)
    (case n_4 => k_is)
    (case n_5 => k_is)
    (case n_6 => k_is)
    (case n_7 => k_is)
    (case n_8 => k_is)
    (case n_9 => k_is)
    (case k_9 => k_is)
    (case e_9 => k_exc)
    (case s_9 => k_is)
    (case t_9 => k_is)
    (case n_CE => k_is)
    (case z_ve => k_is)
    (case em_9 => kts_exm)
    (case kt_9_0 => kit_is)
    (case kt_9_1 => kit_is)
    (case kt_9_2 => kit_is)
    (case kt_9_3 => kit_is)
    (case kt_9_4 => kit_is)
    (case kt_9_5 => kit_is)
    (case kt_9_6 => kit_is)
    (case kt_9_7 => kit_is)
    (case kt_9_8 => kit_is)
    (case kt_9_9 => kit_is)
    (case kv_9 => kit_is)
    (case c1_9 => k_is)
    (case c2_9 => k_is)
    (case c4_9 => k_is)
    (case c5_9 => k_is)
    (case c8_9 => k_is)
    (case c6 => k_is)
    (case c7 => k_is)
    (case a_14 => k_is)
    (case l_14 => k_is)
    (case d_14 => k_is)
    (case q_14 => k_is)
    (case a_15 => k_is)
    (case l_15 => k_is)
    (case d_15 => k_is)
    (case q_15 => k_is)
    (case a_16 => k_is)
    (case l_16 => k_is)
    (case d_16 => k_is)
    (case q_16 => k_is)
    (case a_17 => k_is)
    (case l_17 => k_is)
    (case d_17 => k_is)
    (case q_17 => k_is)
    (case a_19 => k_is)
    (case l_19 => k_is)
    (case d_19 => k_is)
    (case q_19 => k_is)
    (case a_20 => k_is)
    (case l_20 => k_is)
    (case d_20 => k_is)
    (case q_20 => k_is)
    (case a_21 => k_is)
    (case l_21 => k_is)
    (case d_21 => k_is)
    (case q_21 => k_is)
    (case a_23 => k_is)
    (case l_23 => k_is)
    (case d_23 => k_is)
    (case q_23 => k_is)
    (case a_24 => k_is)
    (case l_24 => k_is)
    (case d_24 => k_is)
    (case q_24 => k_is)
    (case a_25 => k_is)
    (case l_25 => k_is)
    (case d_25 => k_is)
    (case q_25 => k_is)
    (case a_26 => k_is)
    (case l_26 => k_is)
    (case d_26 => k_is)
    (case q_26 => k_is)
    (case a_27 => k_is)
    (case l_27 => k_is)
    (case d_27 => k_is)
    (case q_27 => k_is)
    (case a_28 => k_is)
    (case l_28 => k_is)
    (case d_28 => k_is)
    (case q_28 => k_is)
    (case a_30 => k_is)
    (case l_30 => k_is)
    (case d_30 => k_is)
    (case q_30 => k_is)
    (case a_31 => k_is)
    (case l_31 => k_is)
    (case d_31 => k_is)
    (case q_31 => k_is)
    (case a_29 => k_is)
    (case l_29 => k_is)
    (case d_29 => k_is)
    (case q_29 => k_is)