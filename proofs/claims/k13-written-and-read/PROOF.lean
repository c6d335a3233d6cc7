import PyProof.Rows.All
import Wide.All
import OpenK.AllK
import Wide.FinOn
import HandS.ForMost
import HandS.Exc
import HandS.WordsExc
import HandS.TupAny
import HandS.Style
import HandS.Wide
import HandS.SortInts
import HandS.SortKw
import HandS.IsInst
import HandS.Deep
import KE.DataMinMax
import KE.SortData
import HandS.SetFor
import HandS.Strs
import HandS.Conv
import KE.DataCmp
import HandS.TryOnly
import HandS.More
import HandS.Zip
import KE.KTupSum
import HandS.Text
import KE.KStateDown
import Lean
import HandS.Head0
import HandS.Head1
import HandS.Head2
import HandS.HeadEnd
import HandS.HeadHook1
import PySem.Challenge.RW_airtime_k13_written_and_read
set_option Elab.async false
set_option linter.all false
set_option maxRecDepth 100000
set_option maxHeartbeats 4000000
/-! The data layer, 1: data, how the heap bears them, pure readings. -/
namespace DL
open PySem L2

/-- data -/
inductive D where
  | non | bl (b : Bool) | int (i : Int) | str (s : Str)
  | tup (xs : List D) | lst (xs : List D)
  | dic (ks : List Key) (xs : List D)
  | obj (C dx : Addr) (ns : List Str) (xs : List D)
  | ref (a : Addr)

instance : Inhabited D := ⟨.non⟩

mutual
/-- the heap bears d at v, over the cells fp (lists, dicts, instances) -/
def Rp (H : Hp) : D → V → List Addr → Prop
  | .non, v, fp => v = .non ∧ fp = []
  | .bl b, v, fp => v = .bl b ∧ fp = []
  | .int i, v, fp => v = .int i ∧ fp = []
  | .str s, v, fp => v = .str s ∧ fp = []
  | .ref a, v, fp => v = .ref a ∧ fp = []
  | .tup ds, v, fp => ∃ p vs, v = .ref p ∧ H p = some (.tup vs) ∧ RpL H ds vs fp
  | .lst ds, v, fp => ∃ p vs f, v = .ref p ∧ H p = some (.lst vs) ∧ RpL H ds vs f ∧ fp = p :: f
  | .dic ks ds, v, fp => ∃ p vs f, v = .ref p ∧ H p = some (.dK (ks.zip vs)) ∧ RpL H ds vs f ∧ ks.length = vs.length ∧ fp = p :: f
  | .obj C dx ns ds, v, fp => ∃ p vs f, v = .ref p ∧ H p = some (.ins C dx (ns.zip vs)) ∧ RpL H ds vs f ∧ ns.length = vs.length ∧ fp = p :: f
def RpL (H : Hp) : List D → List V → List Addr → Prop
  | [], vs, fp => vs = [] ∧ fp = []
  | d :: ds, vs, fp => ∃ v vr f g, vs = v :: vr ∧ Rp H d v f ∧ RpL H ds vr g ∧ fp = f ++ g
end

/-- what stood stands -/
def Ex (H H' : Hp) : Prop := ∀ p o, H p = some o → H' p = some o
theorem Ex.refl (H : Hp) : Ex H H := fun _ _ h => h
theorem Ex.trans {H H1 H2 : Hp} (a : Ex H H1) (b : Ex H1 H2) : Ex H H2 := fun x o h => b x o (a x o h)
theorem Ex.new {H : Hp} {p : Addr} {o : HO} (h : H p = none) : Ex H (upd H p o) := fun a u e => by
  rw [upd_ne (ne_of_none e h)]; exact e
theorem Ex.free {H H' : Hp} {p : Addr} (e : Ex H H') (h : H' p = none) : H p = none := by
  cases q : H p with
  | none => rfl
  | some o => rw [e p o q] at h; cases h

/-- the cells' objects and the tuples stand -/
structure Kp (H H' : Hp) (fp : List Addr) : Prop where
  tup : ∀ p vs, H p = some (.tup vs) → H' p = some (.tup vs)
  cell : ∀ p ∈ fp, H' p = H p
mutual
theorem Rp.keep {H H' : Hp} (ht : ∀ p vs, H p = some (.tup vs) → H' p = some (.tup vs)) : ∀ (d : D) (v : V) (fp : List Addr), Rp H d v fp → (∀ p ∈ fp, H' p = H p) → Rp H' d v fp
  | .non, _, _, h, _ => h
  | .bl _, _, _, h, _ => h
  | .int _, _, _, h, _ => h
  | .str _, _, _, h, _ => h
  | .ref _, _, _, h, _ => h
  | .tup ds, v, fp, h, k => by
    obtain ⟨p, vs, e, hp, hl⟩ := h
    exact ⟨p, vs, e, ht p vs hp, RpL.keep ht ds vs fp hl k⟩
  | .lst ds, v, fp, h, k => by
    obtain ⟨p, vs, f, e, hp, hl, ef⟩ := h
    subst ef
    exact ⟨p, vs, f, e, by rw [k p (by simp)]; exact hp, RpL.keep ht ds vs f hl (fun q hq => k q (by simp [hq])), rfl⟩
  | .dic ks ds, v, fp, h, k => by
    obtain ⟨p, vs, f, e, hp, hl, en, ef⟩ := h
    subst ef
    exact ⟨p, vs, f, e, by rw [k p (by simp)]; exact hp, RpL.keep ht ds vs f hl (fun q hq => k q (by simp [hq])), en, rfl⟩
  | .obj C dx ns ds, v, fp, h, k => by
    obtain ⟨p, vs, f, e, hp, hl, en, ef⟩ := h
    subst ef
    exact ⟨p, vs, f, e, by rw [k p (by simp)]; exact hp, RpL.keep ht ds vs f hl (fun q hq => k q (by simp [hq])), en, rfl⟩
theorem RpL.keep {H H' : Hp} (ht : ∀ p vs, H p = some (.tup vs) → H' p = some (.tup vs)) : ∀ (ds : List D) (vs : List V) (fp : List Addr), RpL H ds vs fp → (∀ p ∈ fp, H' p = H p) → RpL H' ds vs fp
  | [], _, _, h, _ => h
  | d :: ds, vs, fp, h, k => by
    obtain ⟨v, vr, f, g, e, h1, h2, ef⟩ := h
    subst ef
    exact ⟨v, vr, f, g, e, Rp.keep ht d v f h1 (fun q hq => k q (by simp [hq])), RpL.keep ht ds vr g h2 (fun q hq => k q (by simp [hq])), rfl⟩
end
mutual
/-- each cell is there, and no tuple -/
theorem Rp.there {H : Hp} : ∀ (d : D) (v : V) (fp : List Addr), Rp H d v fp → ∀ p ∈ fp, ∃ o, H p = some o ∧ ∀ xs, o ≠ .tup xs
  | .non, _, _, h, p, hp => by rw [h.2] at hp; cases hp
  | .bl _, _, _, h, p, hp => by rw [h.2] at hp; cases hp
  | .int _, _, _, h, p, hp => by rw [h.2] at hp; cases hp
  | .str _, _, _, h, p, hp => by rw [h.2] at hp; cases hp
  | .ref _, _, _, h, p, hp => by rw [h.2] at hp; cases hp
  | .tup ds, v, fp, h, q, hq => by
    obtain ⟨p, vs, e, hp, hl⟩ := h
    exact RpL.there ds vs fp hl q hq
  | .lst ds, v, fp, h, q, hq => by
    obtain ⟨p, vs, f, e, hp, hl, ef⟩ := h
    subst ef
    rcases List.mem_cons.mp hq with rfl | hq
    · exact ⟨_, hp, fun xs z => by cases z⟩
    · exact RpL.there ds vs f hl q hq
  | .dic ks ds, v, fp, h, q, hq => by
    obtain ⟨p, vs, f, e, hp, hl, en, ef⟩ := h
    subst ef
    rcases List.mem_cons.mp hq with rfl | hq
    · exact ⟨_, hp, fun xs z => by cases z⟩
    · exact RpL.there ds vs f hl q hq
  | .obj C dx ns ds, v, fp, h, q, hq => by
    obtain ⟨p, vs, f, e, hp, hl, en, ef⟩ := h
    subst ef
    rcases List.mem_cons.mp hq with rfl | hq
    · exact ⟨_, hp, fun xs z => by cases z⟩
    · exact RpL.there ds vs f hl q hq
theorem RpL.there {H : Hp} : ∀ (ds : List D) (vs : List V) (fp : List Addr), RpL H ds vs fp → ∀ p ∈ fp, ∃ o, H p = some o ∧ ∀ xs, o ≠ .tup xs
  | [], _, _, h, p, hp => by rw [h.2] at hp; cases hp
  | d :: ds, vs, fp, h, q, hq => by
    obtain ⟨v, vr, f, g, e, h1, h2, ef⟩ := h
    subst ef
    rcases List.mem_append.mp hq with hq | hq
    · exact Rp.there d v f h1 q hq
    · exact RpL.there ds vr g h2 q hq
end
theorem Rp.ex {H H' : Hp} {d : D} {v : V} {fp : List Addr} (h : Rp H d v fp) (e : Ex H H') : Rp H' d v fp :=
  Rp.keep (fun p vs q => e p _ q) d v fp h fun p hp => by
    obtain ⟨o, ho, _⟩ := Rp.there d v fp h p hp
    rw [ho, e p o ho]
theorem RpL.ex {H H' : Hp} {d : List D} {v : List V} {fp : List Addr} (h : RpL H d v fp) (e : Ex H H') : RpL H' d v fp :=
  RpL.keep (fun p vs q => e p _ q) d v fp h fun p hp => by
    obtain ⟨o, ho, _⟩ := RpL.there d v fp h p hp
    rw [ho, e p o ho]
theorem RpL.length {H : Hp} : ∀ {ds : List D} {vs : List V} {fp : List Addr}, RpL H ds vs fp → ds.length = vs.length
  | [], _, _, h => by rw [h.1]; rfl
  | d :: ds, vs, fp, h => by
    obtain ⟨v, vr, f, g, e, h1, h2, ef⟩ := h
    subst e
    simp [RpL.length h2]
/-- an item, over a part of the cells -/
theorem RpL.get {H : Hp} : ∀ {ds : List D} {vs : List V} {fp : List Addr} {i : Nat} {d : D}, RpL H ds vs fp → ds[i]? = some d → ∃ v f, vs[i]? = some v ∧ Rp H d v f ∧ (∀ p ∈ f, p ∈ fp) ∧ (fp.Nodup → f.Nodup)
  | [], _, _, i, d, h, e => by simp at e
  | x :: ds, vs, fp, i, d, h, e => by
    obtain ⟨v, vr, f, g, rfl, h1, h2, rfl⟩ := h
    cases i with
    | zero =>
      simp at e; subst e
      exact ⟨v, f, rfl, h1, fun p hp => by simp [hp], fun n => (List.nodup_append.mp n).1⟩
    | succ i =>
      obtain ⟨w, f', e1, e2, e3, e4⟩ := RpL.get (i := i) (d := d) h2 (by simpa using e)
      exact ⟨w, f', by simpa using e1, e2, fun p hp => by simp [e3 p hp], fun n => e4 (List.nodup_append.mp n).2.1⟩
theorem RpL.append {H : Hp} : ∀ {ds es : List D} {vs ws : List V} {f g : List Addr}, RpL H ds vs f → RpL H es ws g → RpL H (ds ++ es) (vs ++ ws) (f ++ g)
  | [], _, _, _, _, _, h, k => by obtain ⟨rfl, rfl⟩ := h; exact k
  | d :: ds, es, vs, ws, f, g, h, k => by
    obtain ⟨v, vr, f1, f2, rfl, h1, h2, rfl⟩ := h
    exact ⟨v, vr ++ ws, f1, f2 ++ g, rfl, h1, RpL.append h2 k, by simp⟩
theorem RpL.nil {H : Hp} : RpL H [] [] [] := ⟨rfl, rfl⟩
theorem RpL.cons {H : Hp} {d : D} {v : V} {f g : List Addr} {ds : List D} {vs : List V} (h : Rp H d v f) (k : RpL H ds vs g) : RpL H (d :: ds) (v :: vs) (f ++ g) := ⟨v, vs, f, g, rfl, h, k, rfl⟩
theorem RpL.one {H : Hp} {d : D} {v : V} {f : List Addr} (h : Rp H d v f) : RpL H [d] [v] f := ⟨v, [], f, [], rfl, h, RpL.nil, by simp⟩

/-- how far a value is one's own: any; its cells are frozen ones or new; its cells are new, each once -/
inductive Cl | any | cln | frs
def Cl.ok : Cl → (Addr → Prop) → Hp → List Addr → Prop
  | .any, _, _, _ => True
  | .cln, F, H, fp => ∀ p ∈ fp, F p ∨ H p = none
  | .frs, _, H, fp => fp.Nodup ∧ ∀ p ∈ fp, H p = none
theorem Cl.nil {c : Cl} {F : Addr → Prop} {H : Hp} : c.ok F H [] := by cases c <;> simp [Cl.ok]
theorem Cl.frs_ {c : Cl} {F : Addr → Prop} {H : Hp} {fp : List Addr} (h : Cl.frs.ok F H fp) : c.ok F H fp := by
  cases c with
  | any => trivial
  | cln => exact fun p hp => .inr (h.2 p hp)
  | frs => exact h
theorem Cl.back {c : Cl} {F : Addr → Prop} {H H1 : Hp} {fp : List Addr} (e : Ex H H1) (h : c.ok F H1 fp) : c.ok F H fp := by
  cases c with
  | any => trivial
  | cln => exact fun p hp => (h p hp).imp id e.free
  | frs => exact ⟨h.1, fun p hp => e.free (h.2 p hp)⟩
theorem Cl.app {c : Cl} {F : Addr → Prop} {H H1 : Hp} {f g : List Addr} (e : Ex H H1) (h : c.ok F H f) (hf : ∀ p ∈ f, ∃ o, H1 p = some o) (k : c.ok F H1 g) : c.ok F H (f ++ g) := by
  cases c with
  | any => trivial
  | cln => exact fun p hp => (List.mem_append.mp hp).elim (h p) fun q => (k p q).imp id e.free
  | frs =>
    refine ⟨List.nodup_append.mpr ⟨h.1, k.1, fun a ha b hb z => ?_⟩, fun p hp => (List.mem_append.mp hp).elim (h.2 p) fun q => e.free (k.2 p q)⟩
    subst z
    obtain ⟨o, ho⟩ := hf a ha
    rw [k.2 a hb] at ho; cases ho
theorem Cl.sub {c : Cl} {F : Addr → Prop} {H : Hp} {f g : List Addr} (h : c.ok F H g) (hs : ∀ p ∈ f, p ∈ g) (hn : g.Nodup → f.Nodup) : c.ok F H f := by
  cases c with
  | any => trivial
  | cln => exact fun p hp => h p (hs p hp)
  | frs => exact ⟨hn h.1, fun p hp => h.2 p (hs p hp)⟩
theorem Cl.cons {c : Cl} {F : Addr → Prop} {H H1 : Hp} {f : List Addr} {p : Addr} (e : Ex H H1) (h : c.ok F H f) (hf : ∀ q ∈ f, ∃ o, H1 q = some o) (hp : H1 p = none) : c.ok F H (p :: f) := by
  cases c with
  | any => trivial
  | cln => exact fun q hq => (List.mem_cons.mp hq).elim (fun z => .inr (z ▸ e.free hp)) (h q)
  | frs =>
    refine ⟨List.nodup_cons.mpr ⟨fun z => ?_, h.1⟩, fun q hq => (List.mem_cons.mp hq).elim (fun z => z ▸ e.free hp) (h.2 q)⟩
    obtain ⟨o, ho⟩ := hf p z
    rw [hp] at ho; cases ho

/-! ### the known state -/
abbrev Loc := List (Option D)
structure Cell where
  w : Bool
  d : D
abbrev Nm := Addr → Option Cell
/-- the slots bear the data, over frozen cells (that are there) -/
structure SRep (F : Addr → Prop) (H : Hp) (σ : St) (δ : Loc) : Prop where
  len : δ.length = σ.length
  fr : ∀ p, F p → ∃ o, H p = some o
  at_ : ∀ (i : Nat) (d : D), δ[i]? = some (some d) → ∃ v fp, σ[i]? = some (some v) ∧ Rp H d v fp ∧ ∀ p ∈ fp, F p
def NRep (N : Nm) (H : Hp) : Prop := ∀ a c, N a = some c → ∃ fp, Rp H c.d (.ref a) fp ∧ a ∈ fp
theorem SRep.ex {F : Addr → Prop} {H H' : Hp} {σ : St} {δ : Loc} (h : SRep F H σ δ) (e : Ex H H') : SRep F H' σ δ :=
  ⟨h.len, fun p hp => let ⟨o, ho⟩ := h.fr p hp; ⟨o, e p o ho⟩, fun i d q => by
    obtain ⟨v, fp, h1, h2, h3⟩ := h.at_ i d q
    exact ⟨v, fp, h1, h2.ex e, h3⟩⟩
theorem NRep.ex {N : Nm} {H H' : Hp} (h : NRep N H) (e : Ex H H') : NRep N H' := fun a c q => by
  obtain ⟨fp, h1, h2⟩ := h a c q
  exact ⟨fp, h1.ex e, h2⟩
/-- what a pure expression comes to: a condition, and the datum -/
structure PV where
  ok : Prop
  val : D
abbrev PF := Loc → Nm → PV
structure TV where
  ok : Prop
  b : Bool
abbrev TF := Loc → Nm → TV
structure AV where
  ok : Prop
  vals : List D
abbrev AF := Loc → Nm → AV

def tP (c : Cl) (f : PF) : TE := fun σ H Q => ∃ δ N F, SRep F H σ δ ∧ NRep N H ∧ (f δ N).ok ∧ ∀ v H' fp, Ex H H' → Rp H' (f δ N).val v fp → c.ok F H fp → Q v H'
def tT (f : TF) : TT := fun σ H Q => ∃ δ N F, SRep F H σ δ ∧ NRep N H ∧ (f δ N).ok ∧ ∀ H', Ex H H' → Q (f δ N).b H'
def tA (c : Cl) (f : AF) : TA := fun σ H Q => ∃ δ N F, SRep F H σ δ ∧ NRep N H ∧ (f δ N).ok ∧ ∀ vs H' fp, Ex H H' → RpL H' (f δ N).vals vs fp → c.ok F H fp → Q vs H'

abbrev DP (X : Cx) (c : Cl) (e : Expr) (f : PF) : Prop := PE X e (tP c f)
abbrev DT (X : Cx) (e : Expr) (f : TF) : Prop := PT X e (tT f)
abbrev DA (X : Cx) (c : Cl) (es : List Expr) (f : AF) : Prop := PA X es (tA c f)

theorem pe_imp {X : Cx} {e : Expr} {t t' : TE} (h : PE X e t) (k : ∀ σ H Q, t' σ H Q → t σ H Q) : PE X e t' := ⟨fun pins s σ H Q I q => h.run pins s σ H Q I (k σ H Q q)⟩
theorem pt_imp {X : Cx} {e : Expr} {t t' : TT} (h : PT X e t) (k : ∀ σ H Q, t' σ H Q → t σ H Q) : PT X e t' := ⟨fun pins s σ H Q I q => h.run pins s σ H Q I (k σ H Q q)⟩
theorem pa_imp {X : Cx} {e : List Expr} {t t' : TA} (h : PA X e t) (k : ∀ σ H Q, t' σ H Q → t σ H Q) : PA X e t' := ⟨fun pos pins s σ H Q I q => h.run pos pins s σ H Q I (k σ H Q q)⟩
theorem ps_imp {X : Cx} {e : Stmt} {t t' : TS} (h : PS X e t) (k : ∀ D σ H, t' D σ H → t D σ H) : PS X e t' := ⟨fun pins s σ H D I q => h.run pins s σ H D I (k D σ H q)⟩
theorem pss_imp {X : Cx} {e : List Stmt} {t t' : TS} (h : PSs X e t) (k : ∀ D σ H, t' D σ H → t D σ H) : PSs X e t' := ⟨fun pins s σ H D I q => h.run pins s σ H D I (k D σ H q)⟩

/-! ### shapes -/
def IsI : D → Prop | .int _ => True | _ => False
def toI : D → Int | .int i => i | _ => 0
def IsB : D → Prop | .bl _ => True | _ => False
def toB : D → Bool | .bl b => b | _ => false
def IsS : D → Prop | .str _ => True | _ => False
def toS : D → Str | .str b => b | _ => Str.empty
def IsL : D → Prop | .lst _ => True | _ => False
def toL : D → List D | .lst xs => xs | .tup xs => xs | _ => []
def IsU : D → Prop | .tup _ => True | _ => False
/-- a list or a tuple -/
def IsQ : D → Prop | .lst _ => True | .tup _ => True | _ => False
theorem IsI.eq {d : D} (h : IsI d) : d = .int (toI d) := by cases d <;> first | rfl | exact h.elim
theorem IsB.eq {d : D} (h : IsB d) : d = .bl (toB d) := by cases d <;> first | rfl | exact h.elim
theorem IsS.eq {d : D} (h : IsS d) : d = .str (toS d) := by cases d <;> first | rfl | exact h.elim
theorem IsL.eq {d : D} (h : IsL d) : d = .lst (toL d) := by cases d <;> first | rfl | exact h.elim
theorem IsU.eq {d : D} (h : IsU d) : d = .tup (toL d) := by cases d <;> first | rfl | exact h.elim
theorem IsQ.eq {d : D} (h : IsQ d) : d = .lst (toL d) ∨ d = .tup (toL d) := by cases d <;> first | exact .inl rfl | exact .inr rfl | exact h.elim
theorem Rp.int_ {H : Hp} {d : D} {v : V} {fp : List Addr} (h : Rp H d v fp) (k : IsI d) : v = .int (toI d) := by
  rw [k.eq] at h; exact h.1
theorem Rp.bl_ {H : Hp} {d : D} {v : V} {fp : List Addr} (h : Rp H d v fp) (k : IsB d) : v = .bl (toB d) := by
  rw [k.eq] at h; exact h.1
theorem Rp.str_ {H : Hp} {d : D} {v : V} {fp : List Addr} (h : Rp H d v fp) (k : IsS d) : v = .str (toS d) := by
  rw [k.eq] at h; exact h.1
theorem Rp.lst_ {H : Hp} {d : D} {v : V} {fp : List Addr} (h : Rp H d v fp) (k : IsL d) : ∃ p vs f, v = .ref p ∧ H p = some (.lst vs) ∧ RpL H (toL d) vs f ∧ fp = p :: f := by
  rw [k.eq] at h; exact h
theorem Rp.tup_ {H : Hp} {d : D} {v : V} {fp : List Addr} (h : Rp H d v fp) (k : IsU d) : ∃ p vs, v = .ref p ∧ H p = some (.tup vs) ∧ RpL H (toL d) vs fp := by
  rw [k.eq] at h; exact h
theorem Rp.seq_ {H : Hp} {d : D} {v : V} {fp : List Addr} (K : PySem.W.Frag) (h : Rp H d v fp) (k : IsQ d) : ∃ p vs f, v = .ref p ∧ (SqL K H p vs ∨ SqT K H p vs) ∧ RpL H (toL d) vs f ∧ (∀ q ∈ f, q ∈ fp) ∧ (fp.Nodup → f.Nodup) := by
  rcases k.eq with e | e
  · rw [e] at h
    obtain ⟨p, vs, f, e1, e2, e3, e4⟩ := h
    exact ⟨p, vs, f, e1, .inl (SqL.of e2), e3, fun q hq => by simp [e4, hq], fun n => by rw [e4] at n; exact (List.nodup_cons.mp n).2⟩
  · rw [e] at h
    obtain ⟨p, vs, e1, e2, e3⟩ := h
    exact ⟨p, vs, fp, e1, .inr (SqT.of e2), e3, fun q hq => hq, id⟩
end DL
set_option maxHeartbeats 4000000
/-! The data layer, 2: pure expressions. -/
namespace DL
open PySem L2
section
variable {X : Cx} {c c1 c2 c3 : Cl} {pos : Pos}

/-! ### names, constants -/
def lk : Loc → Nat → Option D
  | [], _ => none
  | x :: _, 0 => x
  | _ :: xs, i + 1 => lk xs i
theorem lk_get : ∀ {δ : Loc} {i : Nat} {d : D}, lk δ i = some d → δ[i]? = some (some d)
  | [], _, _, h => by simp [lk] at h
  | x :: _, 0, d, h => by simp [lk] at h; simp [h]
  | _ :: xs, i + 1, d, h => by simp [lk] at h; simpa using lk_get h
def pVar (i : Nat) : PF := fun δ _ => ⟨(lk δ i).isSome = true, (lk δ i).getD .non⟩
def pInt (i : Int) : PF := fun _ _ => ⟨True, .int i⟩
def pBl (i : Bool) : PF := fun _ _ => ⟨True, .bl i⟩
def pStr (i : Str) : PF := fun _ _ => ⟨True, .str i⟩
def pNon : PF := fun _ _ => ⟨True, .non⟩
theorem dp_var (hc : c = .any ∨ c = .cln) (i : Nat) {x : Str} (hN : X.N[i]? = some x := by rfl) (hv : Vis X.env.scope x := by first | exact Or.inl rfl | exact Or.inr (Or.inl rfl) | exact Or.inr (Or.inr rfl)) (hd : (x == ("__debug__" : Str)) = false := by decide)
    (hcd : (x == ("__classdict__" : Str)) = false := by decide) : DP X c (.Name x pos) (pVar i) := by
  refine pe_imp (pe_var hN hv hd hcd) fun σ H Q h => ?_
  obtain ⟨δ, N, F, hs, hn, ok, q⟩ := h
  obtain ⟨d, hd⟩ := Option.isSome_iff_exists.mp ok
  obtain ⟨v, fp, h1, h2, h3⟩ := hs.at_ i d (lk_get hd)
  refine ⟨v, h1, q v H fp (Ex.refl H) (by simp only [pVar, hd]; exact h2) ?_⟩
  rcases hc with rfl | rfl
  · trivial
  · exact fun p hp => .inl (h3 p hp)
theorem dp_vc (i : Nat) {x : Str} (hN : X.N[i]? = some x := by rfl) (hv : Vis X.env.scope x := by first | exact Or.inl rfl | exact Or.inr (Or.inl rfl) | exact Or.inr (Or.inr rfl)) (hd : (x == ("__debug__" : Str)) = false := by decide)
    (hcd : (x == ("__classdict__" : Str)) = false := by decide) : DP X .cln (.Name x pos) (pVar i) := dp_var (.inr rfl) i hN hv hd hcd
theorem dp_va (i : Nat) {x : Str} (hN : X.N[i]? = some x := by rfl) (hv : Vis X.env.scope x := by first | exact Or.inl rfl | exact Or.inr (Or.inl rfl) | exact Or.inr (Or.inr rfl)) (hd : (x == ("__debug__" : Str)) = false := by decide)
    (hcd : (x == ("__classdict__" : Str)) = false := by decide) : DP X .any (.Name x pos) (pVar i) := dp_var (.inl rfl) i hN hv hd hcd
theorem dp_c {e : Expr} {v : V} {d : D} (h : PE X e (tC v)) (hr : ∀ H, Rp H d v []) : DP X c e (fun _ _ => ⟨True, d⟩) := by
  refine pe_imp h fun σ H Q h => ?_
  obtain ⟨δ, N, F, hs, hn, ok, q⟩ := h
  exact q v H [] (Ex.refl H) (hr H) Cl.nil
theorem dp_int {i j} : DP X c (.Constant (.int i) j pos) (pInt i) := dp_c pe_int fun _ => ⟨rfl, rfl⟩
theorem dp_bl {i j} : DP X c (.Constant (.bool i) j pos) (pBl i) := dp_c pe_bl fun _ => ⟨rfl, rfl⟩
theorem dp_str {i j} : DP X c (.Constant (.str i) j pos) (pStr i) := dp_c pe_str fun _ => ⟨rfl, rfl⟩
theorem dp_non {j} : DP X c (.Constant .none j pos) pNon := dp_c pe_non fun _ => ⟨rfl, rfl⟩
/-- a module's constant -/
theorem dp_gint {x : Str} {i : Int} (hg : Gl X x) (hm : ∃ t, X.mg x = some (.int i t)) (hd : (x == ("__debug__" : Str)) = false := by decide) : DP X c (.Name x pos) (pInt i) := by
  obtain ⟨t, hm⟩ := hm
  exact dp_c (pe_glob (v := .int i) hg hm ⟨t, rfl⟩ hd) fun _ => ⟨rfl, rfl⟩
theorem dp_gstr {x : Str} {i : Str} (hg : Gl X x) (hm : ∃ t, X.mg x = some (.str i t)) (hd : (x == ("__debug__" : Str)) = false := by decide) : DP X c (.Name x pos) (pStr i) := by
  obtain ⟨t, hm⟩ := hm
  exact dp_c (pe_glob (v := .str i) hg hm ⟨t, rfl⟩ hd) fun _ => ⟨rfl, rfl⟩

/-! ### listless data are anyone's -/
mutual
def lf : D → Prop
  | .tup ds => lfs ds
  | .lst _ => False
  | .dic _ _ => False
  | .obj _ _ _ _ => False
  | _ => True
def lfs : List D → Prop
  | [] => True
  | d :: ds => lf d ∧ lfs ds
end
theorem lfs_iff : ∀ {ds : List D}, lfs ds ↔ ∀ d ∈ ds, lf d
  | [] => by simp [lfs]
  | d :: ds => by simp [lfs, lfs_iff (ds := ds)]
mutual
theorem Rp.lf {H : Hp} : ∀ (d : D) (v : V) (fp : List Addr), Rp H d v fp → lf d → fp = []
  | .non, _, _, h, _ => h.2
  | .bl _, _, _, h, _ => h.2
  | .int _, _, _, h, _ => h.2
  | .str _, _, _, h, _ => h.2
  | .ref _, _, _, h, _ => h.2
  | .tup ds, v, fp, h, k => by
    obtain ⟨p, vs, e, hp, hl⟩ := h
    exact RpL.lf ds vs fp hl (by simpa [DL.lf] using k)
  | .lst _, _, _, _, k => by simp [DL.lf] at k
  | .dic _ _, _, _, _, k => by simp [DL.lf] at k
  | .obj _ _ _ _, _, _, _, k => by simp [DL.lf] at k
theorem RpL.lf {H : Hp} : ∀ (ds : List D) (vs : List V) (fp : List Addr), RpL H ds vs fp → lfs ds → fp = []
  | [], _, _, h, _ => h.2
  | d :: ds, vs, fp, h, k => by
    obtain ⟨v, vr, f, g, e, h1, h2, ef⟩ := h
    rw [lfs] at k
    rw [ef, Rp.lf d v f h1 k.1, RpL.lf ds vr g h2 k.2]
    rfl
end
def pLf (f : PF) : PF := fun δ N => ⟨(f δ N).ok ∧ lf (f δ N).val, (f δ N).val⟩
theorem dp_lf {e : Expr} {f : PF} (h : DP X c1 e f) : DP X c e (pLf f) := by
  refine pe_imp h fun σ H Q h => ?_
  obtain ⟨δ, N, F, hs, hn, ok, q⟩ := h
  refine ⟨δ, N, F, hs, hn, ok.1, fun v H' fp e r k => ?_⟩
  have z := Rp.lf _ _ _ r ok.2
  subst z
  exact q v H' [] e r Cl.nil

/-! ### operators -/
theorem dp_bin {a b : Expr} {op : Operator} {r : R2} {f g : PF} {hf : D → D → PV} (ho : OpR X (binaryOp op) r) (ha : DP X c1 a f) (hb : DP X c2 b g)
    (hr : ∀ (F : Addr → Prop) (H0 H H2 : Hp) (x y : D) (v w : V) (fa fb : List Addr) (Q : VK), Ex H0 H → Ex H H2 → Rp H2 x v fa → Rp H2 y w fb → (∀ p ∈ fa, ∃ o, H p = some o) → c1.ok F H0 fa → c2.ok F H fb → (hf x y).ok →
      (∀ u H' fp, Ex H2 H' → Rp H' (hf x y).val u fp → c.ok F H0 fp → Q u H') → r v w H2 Q) :
    DP X c (.BinOp a op b pos) (fun δ N => ⟨(f δ N).ok ∧ (g δ N).ok ∧ (hf (f δ N).val (g δ N).val).ok, (hf (f δ N).val (g δ N).val).val⟩) := by
  refine pe_imp (pe_op ho ha hb) fun σ H Q h => ?_
  obtain ⟨δ, N, F, hs, hn, ⟨o1, o2, o3⟩, q⟩ := h
  refine ⟨δ, N, F, hs, hn, o1, fun v H1 fa e1 r1 k1 => ?_⟩
  refine ⟨δ, N, F, hs.ex e1, hn.ex e1, o2, fun w H2 fb e2 r2 k2 => ?_⟩
  exact hr F H H1 H2 _ _ v w fa fb Q e1 e2 (r1.ex e2) r2 (fun p hp => let ⟨o, ho, _⟩ := Rp.there _ _ _ r1 p hp; ⟨o, ho⟩) k1 k2 o3 fun u H' fp e3 r3 k3 => q u H' fp ((e1.trans e2).trans e3) r3 k3
/-- two ints -/
def bI (C : Int → Int → Prop) (g : Int → Int → D) : D → D → PV := fun x y => ⟨IsI x ∧ IsI y ∧ C (toI x) (toI y), g (toI x) (toI y)⟩
def p2 (h : D → D → PV) (f g : PF) : PF := fun δ N => ⟨(f δ N).ok ∧ (g δ N).ok ∧ (h (f δ N).val (g δ N).val).ok, (h (f δ N).val (g δ N).val).val⟩
theorem dp_int2 {a b : Expr} {op : Operator} {C : Int → Int → Prop} {gi : Int → Int → Int} {f g : PF} (ho : OpR X (binaryOp op) (rI C fun i j => .int (gi i j))) (ha : DP X c1 a f) (hb : DP X c2 b g) :
    DP X c (.BinOp a op b pos) (p2 (bI C fun i j => .int (gi i j)) f g) :=
  dp_bin (hf := bI C fun i j => .int (gi i j)) ho ha hb fun F H0 H H2 x y v w fa fb Q e0 e1 rx ry _ _ _ ok q => ⟨toI x, toI y, rx.int_ ok.1, ry.int_ ok.2.1, ok.2.2, q _ H2 [] (Ex.refl _) ⟨rfl, rfl⟩ Cl.nil⟩
theorem rI_of {X : Cx} {op : Value → Value → Sem Value} {g : Int → Int → V} (h : OpR X op (rI0 g)) : OpR X op (rI (fun _ _ => True) g) := fun pins s σ H x y v u Q I rx ry q => by
  obtain ⟨i, j, e1, e2, _, q⟩ := q
  exact h pins s σ H x y v u Q I rx ry ⟨i, j, e1, e2, q⟩
theorem dp_addI {a b : Expr} {f g : PF} (ha : DP X c1 a f) (hb : DP X c2 b g) : DP X c (.BinOp a .Add b pos) (p2 (bI (fun _ _ => True) fun i j => .int (i + j)) f g) := dp_int2 (rI_of op_add) ha hb
theorem dp_sub {a b : Expr} {f g : PF} (ha : DP X c1 a f) (hb : DP X c2 b g) : DP X c (.BinOp a .Sub b pos) (p2 (bI (fun _ _ => True) fun i j => .int (i - j)) f g) := dp_int2 (rI_of op_sub) ha hb
theorem dp_mul {a b : Expr} {f g : PF} (ha : DP X c1 a f) (hb : DP X c2 b g) : DP X c (.BinOp a .Mult b pos) (p2 (bI CMul fun i j => .int (i * j)) f g) := dp_int2 op_mul ha hb
theorem dp_mod {a b : Expr} {f g : PF} (ha : DP X c1 a f) (hb : DP X c2 b g) : DP X c (.BinOp a .Mod b pos) (p2 (bI (fun _ j => 0 < j) fun i j => .int (i % j)) f g) := dp_int2 op_mod ha hb
theorem dp_fdiv {a b : Expr} {f g : PF} (ha : DP X c1 a f) (hb : DP X c2 b g) : DP X c (.BinOp a .FloorDiv b pos) (p2 (bI CDivW fun i j => .int (i / j)) f g) := dp_int2 op_fdivW ha hb
theorem dp_pow {a b : Expr} {f g : PF} (ha : DP X c1 a f) (hb : DP X c2 b g) : DP X c (.BinOp a .Pow b pos) (p2 (bI CPow fun i j => .int (i ^ j.toNat)) f g) := dp_int2 op_pow ha hb
theorem dp_neg {a : Expr} {f : PF} (ha : DP X c1 a f) : DP X c (.UnaryOp .USub a pos) (fun δ N => ⟨(f δ N).ok ∧ IsI (f δ N).val, .int (-(toI (f δ N).val))⟩) := by
  refine pe_imp (pe_un un_neg ha) fun σ H Q h => ?_
  obtain ⟨δ, N, F, hs, hn, ok, q⟩ := h
  exact ⟨δ, N, F, hs, hn, ok.1, fun v H' fp e r k => ⟨_, r.int_ ok.2, q _ H' [] e ⟨rfl, rfl⟩ Cl.nil⟩⟩

/-! ### new lists -/
/-- from a source's cells to a new list's -/
def CC (c c' : Cl) : Prop := c = c' ∨ c = .any
/-- a new list: its place new; its items' cells from the sources -/
theorem new_lst {F : Addr → Prop} {H0 H2 : Hp} {ds : List D} {vs : List V} {f : List Addr} {p : Addr} {Q : VK} (e : Ex H0 H2) (r : RpL H2 ds vs f) (k : c.ok F H0 f) (hp : H2 p = none)
    (q : ∀ u H' fp, Ex H2 H' → Rp H' (.lst ds) u fp → c.ok F H0 fp → Q u H') : Q (.ref p) (upd H2 p (.lst vs)) :=
  q _ _ (p :: f) (Ex.new hp) ⟨p, vs, f, rfl, upd_same, r.ex (Ex.new hp), rfl⟩ (Cl.cons e k (fun q' hq => let ⟨o, ho, _⟩ := RpL.there _ _ _ r q' hq; ⟨o, ho⟩) hp)
def SZ : Nat := 16000000
theorem sz {n : Nat} (h : n ≤ SZ) : n ≤ sizeLine := Nat.le_trans h (by decide)
def catL (x y : D) : PV := ⟨IsL x ∧ IsL y ∧ (toL x).length + (toL y).length ≤ SZ, .lst (toL x ++ toL y)⟩
/-- xs + ys (lists); the items' cells are of the operands' kind -/
theorem dp_cat {a b : Expr} {f g : PF} (ha : DP X c a f) (hb : DP X c b g) : DP X c (.BinOp a .Add b pos) (p2 catL f g) :=
  dp_bin (hf := catL) op_cat ha hb fun F H0 H H2 x y v w fa fb Q e0 e1 rx ry tha k1 k2 ok q => by
    obtain ⟨p, vs, f1, rfl, hp, rl, rfl⟩ := rx.lst_ ok.1
    obtain ⟨p', vs', f2, rfl, hp', rl', rfl⟩ := ry.lst_ ok.2.1
    refine ⟨p, p', vs, vs', rfl, rfl, hp, hp', sz (by rw [← rl.length, ← rl'.length]; exact ok.2.2), fun l hl => ?_⟩
    have kk : c.ok F H0 (f1 ++ f2) := Cl.app e0 (Cl.sub k1 (fun q hq => by simp [hq]) fun n => (List.nodup_cons.mp n).2) (fun q hq => tha q (by simp [hq])) (Cl.sub k2 (fun q hq => by simp [hq]) fun n => (List.nodup_cons.mp n).2)
    exact new_lst (e0.trans e1) (rl.append rl') kk hl q
def repL (x y : D) : PV := ⟨IsL x ∧ IsI y ∧ lfs (toL x) ∧ -(2 ^ 63) ≤ toI y ∧ toI y < 2 ^ 63 ∧ (toL x).length * (toI y).toNat ≤ SZ, .lst (List.replicate (toI y).toNat (toL x)).flatten⟩
theorem RpL.rep {H : Hp} {ds : List D} {vs : List V} (h : RpL H ds vs []) : ∀ k : Nat, RpL H (List.replicate k ds).flatten (List.replicate k vs).flatten []
  | 0 => RpL.nil
  | k + 1 => by
    rw [List.replicate_succ, List.replicate_succ, List.flatten_cons, List.flatten_cons]
    exact RpL.append h (RpL.rep h k)
/-- xs * k, of listless items -/
theorem dp_rep {a b : Expr} {f g : PF} (ha : DP X c1 a f) (hb : DP X c2 b g) : DP X c (.BinOp a .Mult b pos) (p2 repL f g) :=
  dp_bin (hf := repL) op_rep ha hb fun F H0 H H2 x y v w fa fb Q e0 e1 rx ry tha k1 k2 ok q => by
    obtain ⟨o1, o2, o3, o4, o5, o6⟩ := ok
    obtain ⟨p, vs, f1, rfl, hp, rl, rfl⟩ := rx.lst_ o1
    have z := RpL.lf _ _ _ rl o3
    subst z
    refine ⟨p, toI y, vs, rfl, ry.int_ o2, hp, o4, o5, sz (by rw [← rl.length]; exact o6), fun l hl => ?_⟩
    exact new_lst (e0.trans e1) (rl.rep _) Cl.nil hl q
/-- a new list of listless items is anyone's -/
def pFl (f : PF) : PF := fun δ N => ⟨(f δ N).ok ∧ IsL (f δ N).val ∧ lfs (toL (f δ N).val), (f δ N).val⟩
/-- t + u (tuples) -/
def catU (x y : D) : PV := ⟨IsU x ∧ IsU y ∧ (toL x).length + (toL y).length ≤ SZ, .tup (toL x ++ toL y)⟩
theorem dp_catU {a b : Expr} {f g : PF} (ha : DP X c a f) (hb : DP X c b g) : DP X c (.BinOp a .Add b pos) (p2 catU f g) :=
  dp_bin (hf := catU) op_catA ha hb fun F H0 H H2 x y v w fa fb Q e0 e1 rx ry tha k1 k2 ok q => by
    obtain ⟨p, vs, rfl, hp, rl⟩ := rx.tup_ ok.1
    obtain ⟨p', vs', rfl, hp', rl'⟩ := ry.tup_ ok.2.1
    have kk : c.ok F H0 (fa ++ fb) := Cl.app e0 k1 tha k2
    refine ⟨p, p', vs, vs', rfl, rfl, SqT.of hp, SqT.of hp', sz (by rw [← rl.length, ← rl'.length]; exact ok.2.2), fun ev => ?_, fun _ ew => ?_, fun _ _ l hl => ?_⟩
    · subst ev
      have z := rl.length
      have z2 : toL x = [] := List.eq_nil_of_length_eq_zero z
      have zz := rl; rw [z2] at zz
      have z3 : fa = [] := zz.2
      subst z3
      refine q _ H2 fb (Ex.refl _) ⟨p', vs', rfl, hp', ?_⟩ (by simpa using kk)
      show RpL H2 (toL x ++ toL y) vs' fb
      rw [z2]; exact rl'
    · subst ew
      have z2 : toL y = [] := List.eq_nil_of_length_eq_zero rl'.length
      have zz := rl'; rw [z2] at zz
      have z3 : fb = [] := zz.2
      subst z3
      refine q _ H2 fa (Ex.refl _) ⟨p, vs, rfl, hp, ?_⟩ (by simpa using kk)
      show RpL H2 (toL x ++ toL y) vs fa
      rw [z2, List.append_nil]; exact rl
    · exact q _ _ (fa ++ fb) (Ex.new hl) ⟨l, _, rfl, upd_same, (rl.append rl').ex (Ex.new hl)⟩ kk
def catS (x y : D) : PV := ⟨IsS x ∧ IsS y ∧ (toS x).length + (toS y).length ≤ SZ, .str (toS x ++ toS y)⟩
theorem dp_catS {a b : Expr} {f g : PF} (ha : DP X c1 a f) (hb : DP X c2 b g) : DP X c (.BinOp a .Add b pos) (p2 catS f g) :=
  dp_bin (hf := catS) op_add_str ha hb fun F H0 H H2 x y v w fa fb Q e0 e1 rx ry tha k1 k2 ok q => ⟨toS x, toS y, rx.str_ ok.1, ry.str_ ok.2.1, sz ok.2.2, q _ H2 [] (Ex.refl _) ⟨rfl, rfl⟩ Cl.nil⟩

/-! ### comparisons -/
theorem dp_cmp {a b : Expr} {op : CmpOp} {r : R2} {f g : PF} {hf : D → D → TV} (ho : OpR X (compareOp op) r) (ha : DP X c1 a f) (hb : DP X c2 b g) (hm : behindInMarks op b = false)
    (hr : ∀ (H2 : Hp) (x y : D) (v w : V) (fa fb : List Addr) (Q : VK), Rp H2 x v fa → Rp H2 y w fb → (hf x y).ok → Q (.bl (hf x y).b) H2 → r v w H2 Q) :
    DP X c (.Compare a [op] [b] pos) (fun δ N => ⟨(f δ N).ok ∧ (g δ N).ok ∧ (hf (f δ N).val (g δ N).val).ok, .bl (hf (f δ N).val (g δ N).val).b⟩) := by
  refine pe_imp (pe_cmpR ho ha hb hm) fun σ H Q h => ?_
  obtain ⟨δ, N, F, hs, hn, ⟨o1, o2, o3⟩, q⟩ := h
  refine ⟨δ, N, F, hs, hn, o1, fun v H1 fa e1 r1 k1 => ?_⟩
  refine ⟨δ, N, F, hs.ex e1, hn.ex e1, o2, fun w H2 fb e2 r2 k2 => ?_⟩
  exact hr H2 _ _ v w fa fb Q (r1.ex e2) r2 o3 (q _ H2 [] (e1.trans e2) ⟨rfl, rfl⟩ Cl.nil)
def pc2 (h : D → D → TV) (f g : PF) : PF := fun δ N => ⟨(f δ N).ok ∧ (g δ N).ok ∧ (h (f δ N).val (g δ N).val).ok, .bl (h (f δ N).val (g δ N).val).b⟩
def cI (g : Int → Int → Bool) : D → D → TV := fun x y => ⟨IsI x ∧ IsI y, g (toI x) (toI y)⟩
theorem dp_cmpI {a b : Expr} {op : CmpOp} {g' : Int → Int → Bool} {f g : PF} (ho : OpR X (compareOp op) (rI0 fun i j => .bl (g' i j))) (ha : DP X c1 a f) (hb : DP X c2 b g) (hm : behindInMarks op b = false) : DP X c (.Compare a [op] [b] pos) (pc2 (cI g') f g) :=
  dp_cmp (hf := cI g') ho ha hb hm fun H2 x y v w fa fb Q rx ry ok q => ⟨_, _, rx.int_ ok.1, ry.int_ ok.2, q⟩
theorem dp_lt {a b : Expr} {f g : PF} (ha : DP X c1 a f) (hb : DP X c2 b g) : DP X c (.Compare a [.Lt] [b] pos) (pc2 (cI fun i j => decide (i < j)) f g) := dp_cmpI op_lt ha hb (nomark _)
theorem dp_le {a b : Expr} {f g : PF} (ha : DP X c1 a f) (hb : DP X c2 b g) : DP X c (.Compare a [.LtE] [b] pos) (pc2 (cI fun i j => decide (i ≤ j)) f g) := dp_cmpI op_le ha hb (nomark _)
theorem dp_gt {a b : Expr} {f g : PF} (ha : DP X c1 a f) (hb : DP X c2 b g) : DP X c (.Compare a [.Gt] [b] pos) (pc2 (cI fun i j => decide (j < i)) f g) := dp_cmpI op_gt ha hb (nomark _)
theorem dp_ge {a b : Expr} {f g : PF} (ha : DP X c1 a f) (hb : DP X c2 b g) : DP X c (.Compare a [.GtE] [b] pos) (pc2 (cI fun i j => decide (j ≤ i)) f g) := dp_cmpI op_ge ha hb (nomark _)
/-- a <= b <= c and its like, of ints -/
def pChain (p q : Int → Int → Bool) (f g h : PF) : PF := fun δ N => ⟨(f δ N).ok ∧ (g δ N).ok ∧ IsI (f δ N).val ∧ IsI (g δ N).val ∧ (p (toI (f δ N).val) (toI (g δ N).val) = true → (h δ N).ok ∧ IsI (h δ N).val), .bl (p (toI (f δ N).val) (toI (g δ N).val) && q (toI (g δ N).val) (toI (h δ N).val))⟩
theorem dp_chain {a b d : Expr} {op op' : CmpOp} {p p' : Int → Int → Bool} {f g h : PF} (ho : OpR X (compareOp op) (rI0 fun i j => .bl (p i j))) (ho' : OpR X (compareOp op') (rI0 fun i j => .bl (p' i j))) (ha : DP X c1 a f) (hb : DP X c2 b g) (hd : DP X c3 d h)
    (k : PE X (.Compare a [op, op'] [b, d] pos) (tChain (rI0 fun i j => .bl (p i j)) (rI0 fun i j => .bl (p' i j)) (tP c1 f) (tP c2 g) (tP c3 h))) : DP X c (.Compare a [op, op'] [b, d] pos) (pChain p p' f g h) := by
  refine pe_imp k fun σ H Q h' => ?_
  obtain ⟨δ, N, F, hs, hn, ⟨o1, o2, o3, o4, o5⟩, q⟩ := h'
  refine ⟨δ, N, F, hs, hn, o1, fun v H1 fa e1 r1 k1 => ?_⟩
  refine ⟨δ, N, F, hs.ex e1, hn.ex e1, o2, fun w H2 fb e2 r2 k2 => ?_⟩
  refine ⟨_, _, (r1.ex e2).int_ o3, r2.int_ o4, _, rfl, ?_⟩
  have q' := q
  simp only [pChain] at q'
  cases ep : p (toI (f δ N).val) (toI (g δ N).val) with
  | true =>
    rw [ep] at q'
    refine (if_pos rfl).mpr ?_
    exact ⟨δ, N, F, (hs.ex e1).ex e2, (hn.ex e1).ex e2, (o5 ep).1, fun u H3 fc e3 r3 k3 => ⟨_, _, (r2.ex e3).int_ o4, r3.int_ (o5 ep).2, by
      have := q' (.bl (p' (toI (g δ N).val) (toI (h δ N).val))) H3 [] ((e1.trans e2).trans e3) ⟨by simp, rfl⟩ Cl.nil
      exact this⟩⟩
  | false =>
    rw [ep] at q'
    refine (if_neg Bool.false_ne_true).mpr ?_
    exact q' (.bl false) H2 [] (e1.trans e2) ⟨by simp, rfl⟩ Cl.nil
end
end DL
set_option maxHeartbeats 4000000
/-! The data layer, 3: equality, membership, tests, places, slices, displays. -/
namespace DL
open PySem L2

/-! ### data as the library's -/
mutual
def toPy : D → PyData
  | .non => .none
  | .bl b => .bool b
  | .int i => .int i
  | .str s => .str s
  | .tup ds => .tuple (toPys ds)
  | .lst ds => .list (toPys ds)
  | _ => .none
def toPys : List D → List PyData
  | [] => []
  | d :: ds => toPy d :: toPys ds
end
theorem toPys_map : ∀ ds : List D, toPys ds = ds.map toPy
  | [] => rfl
  | d :: ds => by rw [toPys, toPys_map ds]; rfl
/-- of depth n at most, of what == can compare -/
def okD : Nat → D → Prop
  | _, .non => True
  | _, .bl _ => True
  | _, .int _ => True
  | _, .str s => PyData.strOk s = true
  | n + 1, .tup ds => ∀ d ∈ ds, okD n d
  | n + 1, .lst ds => ∀ d ∈ ds, okD n d
  | _, _ => False
mutual
theorem Rp.dp {K : PySem.W.Frag} {H : Hp} : ∀ (n : Nat) (d : D) (v : V) (fp : List Addr), Rp H d v fp → okD n d → Dp K H v (toPy d)
  | _, .non, _, _, h, _ => by rw [h.1]; exact .non
  | _, .bl b, _, _, h, _ => by rw [h.1]; exact .bl b
  | _, .int i, _, _, h, _ => by rw [h.1]; exact .int i
  | _, .str s, _, _, h, _ => by rw [h.1]; exact .str s
  | 0, .tup ds, _, _, _, k => by simp [okD] at k
  | 0, .lst ds, _, _, _, k => by simp [okD] at k
  | n + 1, .tup ds, v, fp, h, k => by
    obtain ⟨p, vs, rfl, hp, hl⟩ := h
    exact .tup (SqT.of hp) (RpL.dp n ds vs fp hl (by simpa [okD] using k))
  | n + 1, .lst ds, v, fp, h, k => by
    obtain ⟨p, vs, f, rfl, hp, hl, rfl⟩ := h
    exact .lst (SqL.of hp) (RpL.dp n ds vs f hl (by simpa [okD] using k))
  | n, .dic _ _, _, _, _, k => by cases n <;> simp [okD] at k
  | n, .obj _ _ _ _, _, _, _, k => by cases n <;> simp [okD] at k
  | n, .ref _, _, _, _, k => by cases n <;> simp [okD] at k
theorem RpL.dp {K : PySem.W.Frag} {H : Hp} : ∀ (n : Nat) (ds : List D) (vs : List V) (fp : List Addr), RpL H ds vs fp → (∀ d ∈ ds, okD n d) → DpAll K H vs (toPys ds)
  | _, [], _, _, h, _ => by rw [h.1]; exact .nil
  | n, d :: ds, vs, fp, h, k => by
    obtain ⟨v, vr, f, g, rfl, h1, h2, rfl⟩ := h
    exact .cons (Rp.dp n d v f h1 (k d (by simp))) (RpL.dp n ds vr g h2 fun e he => k e (by simp [he]))
end
mutual
theorem okD.lay : ∀ (n : Nat) (d : D), okD n d → (toPy d).canLay0 = true ∧ (toPy d).depth ≤ n
  | _, .non, _ => by simp [toPy, PyData.canLay0, PyData.depth]
  | _, .bl b, _ => by simp [toPy, PyData.canLay0, PyData.depth]
  | _, .int i, _ => by simp [toPy, PyData.canLay0, PyData.depth]
  | n, .str s, h => by
    have h : PyData.strOk s = true := by cases n <;> simpa [okD] using h
    simp [toPy, PyData.canLay0, PyData.depth, h]
  | 0, .tup ds, k => by simp [okD] at k
  | 0, .lst ds, k => by simp [okD] at k
  | n + 1, .tup ds, k => by
    obtain ⟨a, b⟩ := okD.lays n ds (by simpa [okD] using k)
    simp only [toPy, PyData.canLay0, PyData.depth]
    exact ⟨a, by omega⟩
  | n + 1, .lst ds, k => by
    obtain ⟨a, b⟩ := okD.lays n ds (by simpa [okD] using k)
    simp only [toPy, PyData.canLay0, PyData.depth]
    exact ⟨a, by omega⟩
  | n, .dic _ _, k => by cases n <;> simp [okD] at k
  | n, .obj _ _ _ _, k => by cases n <;> simp [okD] at k
  | n, .ref _, k => by cases n <;> simp [okD] at k
theorem okD.lays : ∀ (n : Nat) (ds : List D), (∀ d ∈ ds, okD n d) → PyData.canLayAll0 (toPys ds) = true ∧ PyData.depthAll (toPys ds) ≤ n
  | _, [], _ => by simp [toPys, PyData.canLayAll0, PyData.depthAll]
  | n, d :: ds, k => by
    obtain ⟨a, b⟩ := okD.lay n d (k d (by simp))
    obtain ⟨a', b'⟩ := okD.lays n ds fun e he => k e (by simp [he])
    simp only [toPys, PyData.canLayAll0, PyData.depthAll, a, a', Bool.and_self]
    exact ⟨trivial, by omega⟩
end
theorem okD.shaped {n : Nat} {d : D} (h : okD n d) (hn : n ≤ 64) : SeqAt.shaped (toPy d) = true := by
  obtain ⟨a, b⟩ := okD.lay n d h
  simp only [SeqAt.shaped, a, Bool.true_and, decide_eq_true_eq]
  omega
/-- == -/
def eqD (x y : D) : Bool := PyData.eqv (toPy x) (toPy y)
def eqDs (xs ys : List D) : Bool := PyData.eqvAll (toPys xs) (toPys ys)
theorem eqD_int (i j : Int) : eqD (.int i) (.int j) = decide (i = j) := by simp [eqD, toPy, PyData.eqv]; rfl
theorem eqD_bl (i j : Bool) : eqD (.bl i) (.bl j) = decide (i = j) := by simp [eqD, toPy, PyData.eqv]; rfl
theorem eqD_str (i j : Str) : eqD (.str i) (.str j) = decide (i = j) := by simp [eqD, toPy, PyData.eqv]; rfl
theorem eqD_non : eqD .non .non = true := by simp [eqD, toPy, PyData.eqv]
theorem eqD_lst (xs ys : List D) : eqD (.lst xs) (.lst ys) = eqDs xs ys := by simp [eqD, eqDs, toPy, PyData.eqv]
theorem eqD_tup (xs ys : List D) : eqD (.tup xs) (.tup ys) = eqDs xs ys := by simp [eqD, eqDs, toPy, PyData.eqv]
theorem eqDs_nil : eqDs [] [] = true := by simp [eqDs, toPys, PyData.eqvAll]
theorem eqDs_cons (x y : D) (xs ys : List D) : eqDs (x :: xs) (y :: ys) = (eqD x y && eqDs xs ys) := by simp [eqDs, eqD, toPys, PyData.eqvAll]
theorem eqDs_nc (y : D) (ys : List D) : eqDs [] (y :: ys) = false := by simp [eqDs, toPys, PyData.eqvAll]
theorem eqDs_cn (y : D) (ys : List D) : eqDs (y :: ys) [] = false := by simp [eqDs, toPys, PyData.eqvAll]
theorem eqD_non_int (i : Int) : eqD .non (.int i) = false := by simp [eqD, toPy, PyData.eqv]
theorem eqD_int_non (i : Int) : eqD (.int i) .non = false := by simp [eqD, toPy, PyData.eqv]
theorem eqD_str_int (s : Str) (i : Int) : eqD (.str s) (.int i) = false := by simp [eqD, toPy, PyData.eqv]
theorem eqD_int_str (s : Str) (i : Int) : eqD (.int i) (.str s) = false := by simp [eqD, toPy, PyData.eqv]
theorem eqD_int_tup (s : List D) (i : Int) : eqD (.int i) (.tup s) = false := by simp [eqD, toPy, PyData.eqv]
theorem eqD_tup_int (s : List D) (i : Int) : eqD (.tup s) (.int i) = false := by simp [eqD, toPy, PyData.eqv]
theorem eqD_str_non (s : Str) : eqD (.str s) .non = false := by simp [eqD, toPy, PyData.eqv]
theorem eqD_str_tup (s : Str) (t : List D) : eqD (.str s) (.tup t) = false := by simp [eqD, toPy, PyData.eqv]
theorem eqD_str_lst (s : Str) (t : List D) : eqD (.str s) (.lst t) = false := by simp [eqD, toPy, PyData.eqv]
theorem eqD_lst_str (s : Str) (t : List D) : eqD (.lst t) (.str s) = false := by simp [eqD, toPy, PyData.eqv]
theorem eqD_non_lst (t : List D) : eqD .non (.lst t) = false := by simp [eqD, toPy, PyData.eqv]
/-- lists of coded things -/
theorem eqDs_map {α : Type} [DecidableEq α] {f : α → D} (h : ∀ a b, eqD (f a) (f b) = decide (a = b)) : ∀ xs ys : List α, eqDs (xs.map f) (ys.map f) = decide (xs = ys)
  | [], [] => by simp [eqDs_nil]
  | [], y :: ys => by simp [eqDs_nc]
  | x :: xs, [] => by simp [eqDs_cn]
  | x :: xs, y :: ys => by
    rw [List.map_cons, List.map_cons, eqDs_cons, h, eqDs_map h xs ys]
    by_cases e : x = y <;> by_cases e2 : xs = ys <;> simp [e, e2]

/-! ### flat data -/
def flat : D → Bool
  | .non | .bl _ | .int _ | .str _ => true
  | _ => false
def fv : D → V
  | .non => .non
  | .bl b => .bl b
  | .int i => .int i
  | .str s => .str s
  | _ => .non
theorem Rp.flat_ {H : Hp} {d : D} {v : V} {fp : List Addr} (h : Rp H d v fp) (k : flat d = true) : v = fv d ∧ fp = [] := by
  cases d <;> first | exact h | (simp [flat] at k)
theorem RpL.flat_ {H : Hp} : ∀ {ds : List D} {vs : List V} {fp : List Addr}, RpL H ds vs fp → (∀ d ∈ ds, flat d = true) → vs = ds.map fv ∧ fp = []
  | [], _, _, h, _ => h
  | d :: ds, vs, fp, h, k => by
    obtain ⟨v, vr, f, g, rfl, h1, h2, rfl⟩ := h
    obtain ⟨e1, e2⟩ := h1.flat_ (k d (by simp))
    obtain ⟨e3, e4⟩ := RpL.flat_ h2 fun e he => k e (by simp [he])
    subst e1 e2 e3 e4
    exact ⟨rfl, rfl⟩
theorem flatV_fv {d : D} (h : flat d = true) : flatV (fv d) = true := by
  cases d <;> first | rfl | (simp [flat] at h)
theorem eqV_fv {x y : D} (hx : flat x = true) (hy : flat y = true) : eqV (fv x) (fv y) = eqD x y := by
  cases x <;> cases y <;> first
    | (simp [flat] at hx; done)
    | (simp [flat] at hy; done)
    | (simp [fv, eqV, eqD, toPy, PyData.eqv]; done)
    | (simp [fv, eqV, eqD, toPy, PyData.eqv]; rfl)
/-- whether x is in xs -/
def inB (x : D) (xs : List D) : Bool := xs.any fun y => eqD y x
theorem inV_fv {x : D} (hx : flat x = true) : ∀ {xs : List D}, (∀ d ∈ xs, flat d = true) → inV (fv x) (xs.map fv) = inB x xs
  | [], _ => rfl
  | y :: ys, k => by
    have ih := inV_fv hx (xs := ys) fun e he => k e (by simp [he])
    unfold inV inB at ih ⊢
    rw [List.map_cons, List.any_cons, List.any_cons, ih, eqV_fv (k y (by simp)) hx]
theorem all_flatV {ds : List D} (h : ∀ d ∈ ds, flat d = true) : (ds.map fv).all flatV = true := by
  rw [List.all_eq_true]
  intro v hv
  obtain ⟨d, hd, rfl⟩ := List.mem_map.mp hv
  exact flatV_fv (h d hd)
theorem inB_int {i : Int} : ∀ {xs : List Int}, inB (.int i) (xs.map D.int) = decide (i ∈ xs)
  | [] => rfl
  | y :: ys => by
    have ih := inB_int (i := i) (xs := ys)
    unfold inB at ih ⊢
    rw [List.map_cons, List.any_cons, ih, eqD_int]
    by_cases e : y = i
    · simp [e]
    · have e' : i ≠ y := fun z => e z.symm
      simp [e, e']

section
variable {X : Cx} {c c1 c2 c3 : Cl} {pos : Pos}
def eqT (n : Nat) : D → D → TV := fun x y => ⟨okD n x ∧ okD n y, eqD x y⟩
def neT (n : Nat) : D → D → TV := fun x y => ⟨okD n x ∧ okD n y, !eqD x y⟩
theorem dp_eq {a b : Expr} {f g : PF} (hu : X.A.units + 64 < cLine) (ha : DP X c1 a f) (hb : DP X c2 b g) : DP X c (.Compare a [.Eq] [b] pos) (pc2 (eqT 8) f g) :=
  dp_cmp (hf := eqT 8) (op_eqD hu) ha hb (nomark _) fun H2 x y v w fa fb Q rx ry ok q => ⟨toPy x, toPy y, Rp.dp 8 _ _ _ rx ok.1, Rp.dp 8 _ _ _ ry ok.2, ok.1.shaped (by decide), ok.2.shaped (by decide), q⟩
theorem dp_ne {a b : Expr} {f g : PF} (hu : X.A.units + 64 < cLine) (ha : DP X c1 a f) (hb : DP X c2 b g) : DP X c (.Compare a [.NotEq] [b] pos) (pc2 (neT 8) f g) :=
  dp_cmp (hf := neT 8) (op_neD hu) ha hb (nomark _) fun H2 x y v w fa fb Q rx ry ok q => ⟨toPy x, toPy y, Rp.dp 8 _ _ _ rx ok.1, Rp.dp 8 _ _ _ ry ok.2, ok.1.shaped (by decide), ok.2.shaped (by decide), q⟩
def inT (neg : Bool) : D → D → TV := fun x y => ⟨flat x = true ∧ IsQ y ∧ ∀ d ∈ toL y, flat d = true, if neg then !inB x (toL y) else inB x (toL y)⟩
theorem in_rd {neg : Bool} {H2 : Hp} {x y : D} {v w : V} {fa fb : List Addr} {Q : VK} (K : PySem.W.Frag) (rx : Rp H2 x v fa) (ry : Rp H2 y w fb) (ok : (inT neg x y).ok) (q : Q (.bl (inT neg x y).b) H2) : rIn K neg v w H2 Q := by
  obtain ⟨p, vs, f, rfl, hp, rl, _⟩ := ry.seq_ K ok.2.1
  obtain ⟨rfl, _⟩ := rx.flat_ ok.1
  obtain ⟨rfl, _⟩ := rl.flat_ ok.2.2
  refine ⟨p, _, rfl, hp, flatV_fv ok.1, all_flatV ok.2.2, ?_⟩
  rw [inV_fv ok.1 ok.2.2]
  exact q
theorem dp_in {a b : Expr} {f g : PF} (ha : DP X c1 a f) (hb : DP X c2 b g) (hm : behindInMarks .In b = false := by rfl) : DP X c (.Compare a [.In] [b] pos) (pc2 (inT false) f g) :=
  dp_cmp (hf := inT false) op_in_seq ha hb hm fun H2 x y v w fa fb Q rx ry ok q => in_rd X.K rx ry ok q
theorem dp_notIn {a b : Expr} {f g : PF} (ha : DP X c1 a f) (hb : DP X c2 b g) (hm : behindInMarks .NotIn b = false := by rfl) : DP X c (.Compare a [.NotIn] [b] pos) (pc2 (inT true) f g) :=
  dp_cmp (hf := inT true) op_notIn_seq ha hb hm fun H2 x y v w fa fb Q rx ry ok q => in_rd X.K rx ry ok q
def isN : D → Bool | .non => true | _ => false
theorem Rp.isN {H : Hp} {d : D} {v : V} {fp : List Addr} (h : Rp H d v fp) : decide (v = .non) = DL.isN d := by
  cases d with
  | non => rw [h.1]; rfl
  | bl b => rw [h.1]; rfl
  | int b => rw [h.1]; rfl
  | str b => rw [h.1]; rfl
  | ref b => rw [h.1]; rfl
  | tup b => obtain ⟨p, vs, rfl, _⟩ := h; rfl
  | lst b => obtain ⟨p, vs, f, rfl, _⟩ := h; rfl
  | dic _ b => obtain ⟨p, vs, f, rfl, _⟩ := h; rfl
  | obj _ _ _ b => obtain ⟨p, vs, f, rfl, _⟩ := h; rfl
def pIsN (f : PF) : PF := fun δ N => ⟨(f δ N).ok, .bl (isN (f δ N).val)⟩
def pNotN (f : PF) : PF := fun δ N => ⟨(f δ N).ok, .bl (!isN (f δ N).val)⟩
theorem dp_isN {a : Expr} {f : PF} {k p2} (ha : DP X c1 a f) : DP X c (.Compare a [.Is] [.Constant .none k p2] pos) (pIsN f) := by
  refine pe_imp (pe_cmpR op_isN ha pe_non (nomark _)) fun σ H Q h => ?_
  obtain ⟨δ, N, F, hs, hn, ok, q⟩ := h
  exact ⟨δ, N, F, hs, hn, ok, fun v H' fp e r k => ⟨rfl, by rw [r.isN]; exact q _ H' [] e ⟨rfl, rfl⟩ Cl.nil⟩⟩
theorem dp_notN {a : Expr} {f : PF} {k p2} (ha : DP X c1 a f) : DP X c (.Compare a [.IsNot] [.Constant .none k p2] pos) (pNotN f) := by
  refine pe_imp (pe_cmpR op_notN ha pe_non (nomark _)) fun σ H Q h => ?_
  obtain ⟨δ, N, F, hs, hn, ok, q⟩ := h
  exact ⟨δ, N, F, hs, hn, ok, fun v H' fp e r k => ⟨rfl, by rw [r.isN]; exact q _ H' [] e ⟨rfl, rfl⟩ Cl.nil⟩⟩

/-! ### tests -/
def tOf (f : PF) : TF := fun δ N => ⟨(f δ N).ok ∧ IsB (f δ N).val, toB (f δ N).val⟩
/-- a value True or False as a test -/
theorem dt_val {e : Expr} {f : PF} (h : DP X c e f) (he : ∀ whole, isTrue e X.env whole = (do let v ← whole; standAt e.pos; holding [v] (truthy v)) := by intro _; rfl) : DT X e (tOf f) := by
  refine pt_imp (pt_val h he) fun σ H Q h => ?_
  obtain ⟨δ, N, F, hs, hn, ok, q⟩ := h
  exact ⟨δ, N, F, hs, hn, ok.1, fun v H' fp e r k => ⟨_, r.bl_ ok.2, q H' e⟩⟩
/-- comparisons as tests -/
theorem dt_cmp {a b : Expr} {op : CmpOp} {r : R2} {f g : PF} {hf : D → D → TV} (ho : OpR X (compareOp op) r) (ha : DP X c1 a f) (hb : DP X c2 b g) (hm : behindInMarks op b = false)
    (hr : ∀ (H2 : Hp) (x y : D) (v w : V) (fa fb : List Addr) (Q : VK), Rp H2 x v fa → Rp H2 y w fb → (hf x y).ok → Q (.bl (hf x y).b) H2 → r v w H2 Q) :
    DT X (.Compare a [op] [b] pos) (fun δ N => ⟨(f δ N).ok ∧ (g δ N).ok ∧ (hf (f δ N).val (g δ N).val).ok, (hf (f δ N).val (g δ N).val).b⟩) := by
  refine pt_imp (pt_cmpR ho ha hb hm) fun σ H Q h => ?_
  obtain ⟨δ, N, F, hs, hn, ⟨o1, o2, o3⟩, q⟩ := h
  refine ⟨δ, N, F, hs, hn, o1, fun v H1 fa e1 r1 k1 => ?_⟩
  refine ⟨δ, N, F, hs.ex e1, hn.ex e1, o2, fun w H2 fb e2 r2 k2 => ?_⟩
  exact hr H2 _ _ v w fa fb _ (r1.ex e2) r2 o3 ⟨_, rfl, q H2 (e1.trans e2)⟩
def tc2 (h : D → D → TV) (f g : PF) : TF := fun δ N => ⟨(f δ N).ok ∧ (g δ N).ok ∧ (h (f δ N).val (g δ N).val).ok, (h (f δ N).val (g δ N).val).b⟩
theorem dt_cmpI {a b : Expr} {op : CmpOp} {g' : Int → Int → Bool} {f g : PF} (ho : OpR X (compareOp op) (rI0 fun i j => .bl (g' i j))) (ha : DP X c1 a f) (hb : DP X c2 b g) (hm : behindInMarks op b = false) : DT X (.Compare a [op] [b] pos) (tc2 (cI g') f g) :=
  dt_cmp (hf := cI g') ho ha hb hm fun H2 x y v w fa fb Q rx ry ok q => ⟨_, _, rx.int_ ok.1, ry.int_ ok.2, q⟩
theorem dt_lt {a b : Expr} {f g : PF} (ha : DP X c1 a f) (hb : DP X c2 b g) : DT X (.Compare a [.Lt] [b] pos) (tc2 (cI fun i j => decide (i < j)) f g) := dt_cmpI op_lt ha hb (nomark _)
theorem dt_le {a b : Expr} {f g : PF} (ha : DP X c1 a f) (hb : DP X c2 b g) : DT X (.Compare a [.LtE] [b] pos) (tc2 (cI fun i j => decide (i ≤ j)) f g) := dt_cmpI op_le ha hb (nomark _)
theorem dt_gt {a b : Expr} {f g : PF} (ha : DP X c1 a f) (hb : DP X c2 b g) : DT X (.Compare a [.Gt] [b] pos) (tc2 (cI fun i j => decide (j < i)) f g) := dt_cmpI op_gt ha hb (nomark _)
theorem dt_ge {a b : Expr} {f g : PF} (ha : DP X c1 a f) (hb : DP X c2 b g) : DT X (.Compare a [.GtE] [b] pos) (tc2 (cI fun i j => decide (j ≤ i)) f g) := dt_cmpI op_ge ha hb (nomark _)
theorem dt_eq {a b : Expr} {f g : PF} (hu : X.A.units + 64 < cLine) (ha : DP X c1 a f) (hb : DP X c2 b g) : DT X (.Compare a [.Eq] [b] pos) (tc2 (eqT 8) f g) :=
  dt_cmp (hf := eqT 8) (op_eqD hu) ha hb (nomark _) fun H2 x y v w fa fb Q rx ry ok q => ⟨toPy x, toPy y, Rp.dp 8 _ _ _ rx ok.1, Rp.dp 8 _ _ _ ry ok.2, ok.1.shaped (by decide), ok.2.shaped (by decide), q⟩
theorem dt_ne {a b : Expr} {f g : PF} (hu : X.A.units + 64 < cLine) (ha : DP X c1 a f) (hb : DP X c2 b g) : DT X (.Compare a [.NotEq] [b] pos) (tc2 (neT 8) f g) :=
  dt_cmp (hf := neT 8) (op_neD hu) ha hb (nomark _) fun H2 x y v w fa fb Q rx ry ok q => ⟨toPy x, toPy y, Rp.dp 8 _ _ _ rx ok.1, Rp.dp 8 _ _ _ ry ok.2, ok.1.shaped (by decide), ok.2.shaped (by decide), q⟩
theorem dt_in {a b : Expr} {f g : PF} (ha : DP X c1 a f) (hb : DP X c2 b g) (hm : behindInMarks .In b = false := by rfl) : DT X (.Compare a [.In] [b] pos) (tc2 (inT false) f g) :=
  dt_cmp (hf := inT false) op_in_seq ha hb hm fun H2 x y v w fa fb Q rx ry ok q => in_rd X.K rx ry ok q
theorem dt_notIn {a b : Expr} {f g : PF} (ha : DP X c1 a f) (hb : DP X c2 b g) (hm : behindInMarks .NotIn b = false := by rfl) : DT X (.Compare a [.NotIn] [b] pos) (tc2 (inT true) f g) :=
  dt_cmp (hf := inT true) op_notIn_seq ha hb hm fun H2 x y v w fa fb Q rx ry ok q => in_rd X.K rx ry ok q
theorem dt_isN {a : Expr} {f : PF} {k p2} (ha : DP X c1 a f) : DT X (.Compare a [.Is] [.Constant .none k p2] pos) (fun δ N => ⟨(f δ N).ok, isN (f δ N).val⟩) := by
  refine pt_imp (pt_cmpR op_isN ha pe_non (nomark _)) fun σ H Q h => ?_
  obtain ⟨δ, N, F, hs, hn, ok, q⟩ := h
  exact ⟨δ, N, F, hs, hn, ok, fun v H' fp e r k => ⟨rfl, _, rfl, by rw [r.isN]; exact q H' e⟩⟩
theorem dt_notN {a : Expr} {f : PF} {k p2} (ha : DP X c1 a f) : DT X (.Compare a [.IsNot] [.Constant .none k p2] pos) (fun δ N => ⟨(f δ N).ok, !isN (f δ N).val⟩) := by
  refine pt_imp (pt_cmpR op_notN ha pe_non (nomark _)) fun σ H Q h => ?_
  obtain ⟨δ, N, F, hs, hn, ok, q⟩ := h
  exact ⟨δ, N, F, hs, hn, ok, fun v H' fp e r k => ⟨rfl, _, rfl, by rw [r.isN]; exact q H' e⟩⟩
def tChn (p q : Int → Int → Bool) (f g h : PF) : TF := fun δ N => ⟨(f δ N).ok ∧ (g δ N).ok ∧ IsI (f δ N).val ∧ IsI (g δ N).val ∧ (p (toI (f δ N).val) (toI (g δ N).val) = true → (h δ N).ok ∧ IsI (h δ N).val), p (toI (f δ N).val) (toI (g δ N).val) && q (toI (g δ N).val) (toI (h δ N).val)⟩
theorem dt_chain {a b d : Expr} {op op' : CmpOp} {p p' : Int → Int → Bool} {f g h : PF} (ho : OpR X (compareOp op) (rI0 fun i j => .bl (p i j))) (ho' : OpR X (compareOp op') (rI0 fun i j => .bl (p' i j))) (ha : DP X c1 a f) (hb : DP X c2 b g) (hd : DP X c3 d h)
    (hm : lastMarks [op, op'] [b, d] = false := by with_unfolding_all rfl) : DT X (.Compare a [op, op'] [b, d] pos) (tChn p p' f g h) := by
  refine pt_imp (pt_chain ho ho' ha hb hd hm) fun σ H Q h' => ?_
  obtain ⟨δ, N, F, hs, hn, ⟨o1, o2, o3, o4, o5⟩, q⟩ := h'
  refine ⟨δ, N, F, hs, hn, o1, fun v H1 fa e1 r1 k1 => ?_⟩
  refine ⟨δ, N, F, hs.ex e1, hn.ex e1, o2, fun w H2 fb e2 r2 k2 => ?_⟩
  refine ⟨_, _, (r1.ex e2).int_ o3, r2.int_ o4, _, rfl, ?_⟩
  simp only [tChn] at q
  cases ep : p (toI (f δ N).val) (toI (g δ N).val) with
  | true =>
    rw [ep] at q
    refine (if_pos rfl).mpr ?_
    exact ⟨δ, N, F, (hs.ex e1).ex e2, (hn.ex e1).ex e2, (o5 ep).1, fun u H3 fc e3 r3 k3 => ⟨_, _, (r2.ex e3).int_ o4, r3.int_ (o5 ep).2, _, rfl, by simpa using q H3 ((e1.trans e2).trans e3)⟩⟩
  | false =>
    rw [ep] at q
    refine (if_neg Bool.false_ne_true).mpr ?_
    exact ⟨false, rfl, by simpa using q H2 (e1.trans e2)⟩
def tNot1 (f : TF) : TF := fun δ N => ⟨(f δ N).ok, !(f δ N).b⟩
theorem dt_not {a : Expr} {f : TF} (h : DT X a f) : DT X (.UnaryOp .Not a pos) (tNot1 f) := by
  refine pt_imp (pt_not h) fun σ H Q h => ?_
  obtain ⟨δ, N, F, hs, hn, ok, q⟩ := h
  exact ⟨δ, N, F, hs, hn, ok, q⟩
def tAnd2 (f g : TF) : TF := fun δ N => ⟨(f δ N).ok ∧ ((f δ N).b = true → (g δ N).ok), (f δ N).b && (g δ N).b⟩
def tOr2 (f g : TF) : TF := fun δ N => ⟨(f δ N).ok ∧ ((f δ N).b = false → (g δ N).ok), (f δ N).b || (g δ N).b⟩
abbrev DW (X : Cx) (e : Expr) (f : TF) : Prop := PW X e (tT f)
theorem dw_and1 {a : Expr} {f : TF} (h : DT X a f) : DW X (.BoolOp .And [a] pos) f := pw_and1 h
theorem dw_or1 {a : Expr} {f : TF} (h : DT X a f) : DW X (.BoolOp .Or [a] pos) f := pw_or1 h
theorem pw_imp {X : Cx} {e : Expr} {t t' : TT} (h : PW X e t) (k : ∀ σ H Q, t' σ H Q → t σ H Q) : PW X e t' := ⟨fun wh pins s σ H Q I q => h.run wh pins s σ H Q I (k σ H Q q)⟩
theorem dw_and {a b : Expr} {rest : List Expr} {f g : TF} (ha : DT X a f) (hb : DW X (.BoolOp .And (b :: rest) pos) g) : DW X (.BoolOp .And (a :: b :: rest) pos) (tAnd2 f g) := by
  refine pw_imp (pw_and ha hb) fun σ H Q h => ?_
  obtain ⟨δ, N, F, hs, hn, ok, q⟩ := h
  refine ⟨δ, N, F, hs, hn, ok.1, fun H1 e1 => ?_⟩
  simp only [tAnd2] at q
  cases eb : (f δ N).b with
  | true =>
    rw [eb] at q
    refine (if_pos rfl).mpr ?_
    exact ⟨δ, N, F, hs.ex e1, hn.ex e1, ok.2 eb, fun H2 e2 => by simpa using q H2 (e1.trans e2)⟩
  | false =>
    rw [eb] at q
    refine (if_neg Bool.false_ne_true).mpr ?_
    simpa using q H1 e1
theorem dw_or {a b : Expr} {rest : List Expr} {f g : TF} (ha : DT X a f) (hb : DW X (.BoolOp .Or (b :: rest) pos) g) : DW X (.BoolOp .Or (a :: b :: rest) pos) (tOr2 f g) := by
  refine pw_imp (pw_or ha hb) fun σ H Q h => ?_
  obtain ⟨δ, N, F, hs, hn, ok, q⟩ := h
  refine ⟨δ, N, F, hs, hn, ok.1, fun H1 e1 => ?_⟩
  simp only [tOr2] at q
  cases eb : (f δ N).b with
  | false =>
    rw [eb] at q
    refine (if_neg Bool.false_ne_true).mpr ?_
    exact ⟨δ, N, F, hs.ex e1, hn.ex e1, ok.2 eb, fun H2 e2 => by simpa using q H2 (e1.trans e2)⟩
  | true =>
    rw [eb] at q
    refine (if_pos rfl).mpr ?_
    simpa using q H1 e1
theorem DW.dt {e : Expr} {f : TF} (h : DW X e f) : DT X e f := h.pt
/-- and, or, not as values (True, False) -/
def pAnd (f g : PF) : PF := fun δ N => ⟨(f δ N).ok ∧ IsB (f δ N).val ∧ (toB (f δ N).val = true → (g δ N).ok ∧ IsB (g δ N).val), .bl (toB (f δ N).val && toB (g δ N).val)⟩
def pOr (f g : PF) : PF := fun δ N => ⟨(f δ N).ok ∧ IsB (f δ N).val ∧ (toB (f δ N).val = false → (g δ N).ok ∧ IsB (g δ N).val), .bl (toB (f δ N).val || toB (g δ N).val)⟩
theorem dp_one {op : BoolOp} {a : Expr} {f : PF} (h : DP X c a f) : DP X c (.BoolOp op [a] pos) f := pe_one h
theorem dp_and {a b : Expr} {rest : List Expr} {f g : PF} (ha : DP X c1 a f) (hb : DP X c2 (.BoolOp .And (b :: rest) pos) g) : DP X c (.BoolOp .And (a :: b :: rest) pos) (pAnd f g) := by
  refine pe_imp (pe_and ha hb) fun σ H Q h => ?_
  obtain ⟨δ, N, F, hs, hn, ⟨o1, o2, o3⟩, q⟩ := h
  refine ⟨δ, N, F, hs, hn, o1, fun v H1 fp e1 r1 k1 => ⟨_, r1.bl_ o2, ?_⟩⟩
  simp only [pAnd] at q
  cases eb : toB (f δ N).val with
  | true =>
    rw [eb] at q
    refine (if_pos rfl).mpr ?_
    refine ⟨δ, N, F, hs.ex e1, hn.ex e1, (o3 eb).1, fun w H2 fp2 e2 r2 k2 => ?_⟩
    have z := r2.bl_ (o3 eb).2
    subst z
    exact q _ H2 [] (e1.trans e2) ⟨by simp, rfl⟩ Cl.nil
  | false =>
    rw [eb] at q
    refine (if_neg Bool.false_ne_true).mpr ?_
    exact q _ H1 [] e1 ⟨by simp, rfl⟩ Cl.nil
theorem dp_or {a b : Expr} {rest : List Expr} {f g : PF} (ha : DP X c1 a f) (hb : DP X c2 (.BoolOp .Or (b :: rest) pos) g) : DP X c (.BoolOp .Or (a :: b :: rest) pos) (pOr f g) := by
  refine pe_imp (pe_or ha hb) fun σ H Q h => ?_
  obtain ⟨δ, N, F, hs, hn, ⟨o1, o2, o3⟩, q⟩ := h
  refine ⟨δ, N, F, hs, hn, o1, fun v H1 fp e1 r1 k1 => ⟨_, r1.bl_ o2, ?_⟩⟩
  simp only [pOr] at q
  cases eb : toB (f δ N).val with
  | false =>
    rw [eb] at q
    refine (if_neg Bool.false_ne_true).mpr ?_
    refine ⟨δ, N, F, hs.ex e1, hn.ex e1, (o3 eb).1, fun w H2 fp2 e2 r2 k2 => ?_⟩
    have z := r2.bl_ (o3 eb).2
    subst z
    exact q _ H2 [] (e1.trans e2) ⟨by simp, rfl⟩ Cl.nil
  | true =>
    rw [eb] at q
    refine (if_pos rfl).mpr ?_
    exact q _ H1 [] e1 ⟨by simp, rfl⟩ Cl.nil
def pNot (f : PF) : PF := fun δ N => ⟨(f δ N).ok ∧ IsB (f δ N).val, .bl (!toB (f δ N).val)⟩
theorem dp_not {a : Expr} {f : PF} (h : DP X c1 a f) : DP X c (.UnaryOp .Not a pos) (pNot f) := by
  refine pe_imp (pe_not h) fun σ H Q h => ?_
  obtain ⟨δ, N, F, hs, hn, ok, q⟩ := h
  exact ⟨δ, N, F, hs, hn, ok.1, fun v H' fp e r k => ⟨_, r.bl_ ok.2, q _ H' [] e ⟨rfl, rfl⟩ Cl.nil⟩⟩
/-- a if t else b -/
def pIf (t : TF) (f g : PF) : PF := fun δ N => ⟨(t δ N).ok ∧ if (t δ N).b = true then (f δ N).ok else (g δ N).ok, if (t δ N).b = true then (f δ N).val else (g δ N).val⟩
theorem dp_if {e a b : Expr} {t : TF} {f g : PF} (ht : DT X e t) (ha : DP X c a f) (hb : DP X c b g) : DP X c (.IfExp e a b pos) (pIf t f g) := by
  refine pe_imp (pe_ifExp ht ha hb) fun σ H Q h => ?_
  obtain ⟨δ, N, F, hs, hn, ok, q⟩ := h
  refine ⟨δ, N, F, hs, hn, ok.1, fun H1 e1 => ?_⟩
  have o2 := ok.2
  simp only [pIf] at q
  cases eb : (t δ N).b with
  | true =>
    rw [eb] at q o2
    refine (if_pos rfl).mpr ?_
    exact ⟨δ, N, F, hs.ex e1, hn.ex e1, by simpa using o2, fun v H2 fp e2 r k => q v H2 fp (e1.trans e2) (by simpa using r) (Cl.back e1 k)⟩
  | false =>
    rw [eb] at q o2
    refine (if_neg Bool.false_ne_true).mpr ?_
    exact ⟨δ, N, F, hs.ex e1, hn.ex e1, by simpa using o2, fun v H2 fp e2 r k => q v H2 fp (e1.trans e2) (by simpa using r) (Cl.back e1 k)⟩

/-! ### a place -/
def ixQ (x y : D) : PV := ⟨IsQ x ∧ IsI y ∧ (atI (toL x) (toI y)).isSome = true, (atI (toL x) (toI y)).getD .non⟩
theorem RpL.at {H : Hp} {ds : List D} {vs : List V} {fp : List Addr} {i : Int} {d : D} (h : RpL H ds vs fp) (e : atI ds i = some d) : ∃ v f, atI vs i = some v ∧ Rp H d v f ∧ (∀ p ∈ f, p ∈ fp) ∧ (fp.Nodup → f.Nodup) := by
  unfold atI at e ⊢
  rw [← h.length]
  cases ej : ixN ds.length i with
  | none => rw [ej] at e; cases e
  | some j =>
    rw [ej] at e
    obtain ⟨v, f, h1, h2, h3, h4⟩ := h.get (show ds[j]? = some d from e)
    exact ⟨v, f, h1, h2, h3, h4⟩
/-- xs[i], t[i] -/
theorem dp_ix {a b : Expr} {f g : PF} (ha : DP X c a f) (hb : DP X c1 b g) (hs : PlainIx b := by exact fun _ _ => rfl) : DP X c (.Subscript a b pos) (p2 ixQ f g) := by
  refine pe_imp (pe_ix (ix_list.or ix_tup) ha hb hs) fun σ H Q h => ?_
  obtain ⟨δ, N, F, hS, hn, ⟨o1, o2, o3, o4, o5⟩, q⟩ := h
  refine ⟨δ, N, F, hS, hn, o1, fun v H1 fa e1 r1 k1 => ?_⟩
  refine ⟨δ, N, F, hS.ex e1, hn.ex e1, o2, fun w H2 fb e2 r2 k2 => ?_⟩
  obtain ⟨d, ed⟩ := Option.isSome_iff_exists.mp o5
  have q' : ∀ u H' fp, Ex H H' → Rp H' d u fp → c.ok F H fp → Q u H' := fun u H' fp e r k => q u H' fp e (by simp only [p2, ixQ, ed]; exact r) k
  have hw := r2.int_ o4
  subst hw
  have r1 := r1.ex e2
  rcases o3.eq with e | e
  · rw [e] at r1
    obtain ⟨p, vs, f, rfl, hp, rl, rfl⟩ := r1
    obtain ⟨u, fu, h1, h2, h3, h4⟩ := rl.at ed
    exact .inl ⟨p, vs, _, u, rfl, rfl, SqL.of hp, h1, q' u H2 fu (e1.trans e2) h2 (Cl.sub k1 (fun z hz => by simp [h3 z hz]) fun n => h4 (List.nodup_cons.mp n).2)⟩
  · rw [e] at r1
    obtain ⟨p, vs, rfl, hp, rl⟩ := r1
    obtain ⟨u, fu, h1, h2, h3, h4⟩ := rl.at ed
    exact .inr ⟨p, vs, _, u, rfl, rfl, SqT.of hp, h1, q' u H2 fu (e1.trans e2) h2 (Cl.sub k1 (fun z hz => h3 z hz) h4)⟩
theorem atI_map {α β : Type} (f : α → β) (xs : List α) (i : Int) : atI (xs.map f) i = (atI xs i).map f := by
  unfold atI
  rw [List.length_map]
  cases ixN xs.length i with
  | none => rfl
  | some j => simp

/-! ### slices -/
abbrev SF := Loc → Nm → Prop × Option Int
def tO (f : SF) : TO := fun σ H Q => ∃ δ N F, SRep F H σ δ ∧ NRep N H ∧ (f δ N).1 ∧ ∀ H', Ex H H' → Q (f δ N).2 H'
theorem po_imp {e : Option Expr} {t t' : TO} (h : PO X e t) (k : ∀ σ H Q, t' σ H Q → t σ H Q) : PO X e t' := ⟨fun pins s σ H Q I q => h.run pins s σ H Q I (k σ H Q q)⟩
theorem do_none : PO X none (tO fun _ _ => (True, none)) := by
  refine po_imp po_none fun σ H Q h => ?_
  obtain ⟨δ, N, F, hs, hn, ok, q⟩ := h
  exact q H (Ex.refl H)
theorem do_some {e : Expr} {f : PF} (h : DP X c e f) : PO X (some e) (tO fun δ N => ((f δ N).ok ∧ IsI (f δ N).val, some (toI (f δ N).val))) := by
  refine po_imp (po_some h) fun σ H Q h => ?_
  obtain ⟨δ, N, F, hs, hn, ok, q⟩ := h
  exact ⟨δ, N, F, hs, hn, ok.1, fun v H' fp e r k => ⟨_, r.int_ ok.2, q H' e⟩⟩
def cutD (xs : List D) (lo hi : Option Int) : List D := (xs.drop (HT.sIx xs.length 0 lo)).take (HT.sIx xs.length xs.length hi - HT.sIx xs.length 0 lo)
theorem RpL.drop {H : Hp} : ∀ (n : Nat) {ds : List D} {vs : List V} {fp : List Addr}, RpL H ds vs fp → ∃ f, RpL H (ds.drop n) (vs.drop n) f ∧ (∀ p ∈ f, p ∈ fp) ∧ (fp.Nodup → f.Nodup)
  | 0, _, _, fp, h => ⟨fp, h, fun _ q => q, id⟩
  | _ + 1, [], _, _, h => by obtain ⟨rfl, rfl⟩ := h; exact ⟨[], RpL.nil, fun _ q => q, id⟩
  | n + 1, d :: ds, vs, fp, h => by
    obtain ⟨v, vr, f, g, rfl, h1, h2, rfl⟩ := h
    obtain ⟨f', a, b, c⟩ := RpL.drop n h2
    exact ⟨f', a, fun p hp => by simp [b p hp], fun k => c (List.nodup_append.mp k).2.1⟩
theorem RpL.take {H : Hp} : ∀ (n : Nat) {ds : List D} {vs : List V} {fp : List Addr}, RpL H ds vs fp → ∃ f, RpL H (ds.take n) (vs.take n) f ∧ (∀ p ∈ f, p ∈ fp) ∧ (fp.Nodup → f.Nodup)
  | 0, _, _, fp, h => ⟨[], RpL.nil, fun _ q => by simp at q, fun _ => List.nodup_nil⟩
  | _ + 1, [], _, _, h => by obtain ⟨rfl, rfl⟩ := h; exact ⟨[], RpL.nil, fun _ q => q, id⟩
  | n + 1, d :: ds, vs, fp, h => by
    obtain ⟨v, vr, f, g, rfl, h1, h2, rfl⟩ := h
    obtain ⟨f', a, b, c⟩ := RpL.take n h2
    refine ⟨f ++ f', RpL.cons h1 a, fun p hp => ?_, fun k => ?_⟩
    · rcases List.mem_append.mp hp with q | q
      · simp [q]
      · simp [b p q]
    · obtain ⟨k1, k2, k3⟩ := List.nodup_append.mp k
      exact List.nodup_append.mpr ⟨k1, c k2, fun x hx y hy => k3 x hx y (b y hy)⟩
theorem RpL.cut {H : Hp} {ds : List D} {vs : List V} {fp : List Addr} (h : RpL H ds vs fp) (lo hi : Option Int) : ∃ f, RpL H (cutD ds lo hi) (cutV vs lo hi) f ∧ (∀ p ∈ f, p ∈ fp) ∧ (fp.Nodup → f.Nodup) := by
  unfold cutD cutV
  rw [← h.length]
  obtain ⟨f, a, b, c⟩ := h.drop (HT.sIx ds.length 0 lo)
  obtain ⟨f', a', b', c'⟩ := a.take (HT.sIx ds.length ds.length hi - HT.sIx ds.length 0 lo)
  exact ⟨f', a', fun p hp => b p (b' p hp), fun k => c' (c k)⟩
def pSl (f : PF) (lo hi : SF) : PF := fun δ N => ⟨(f δ N).ok ∧ (lo δ N).1 ∧ (hi δ N).1 ∧ IsL (f δ N).val, .lst (cutD (toL (f δ N).val) (lo δ N).2 (hi δ N).2)⟩
def pSlF (f : PF) (lo hi : SF) : PF := fun δ N => ⟨(f δ N).ok ∧ (lo δ N).1 ∧ (hi δ N).1 ∧ IsL (f δ N).val ∧ lfs (cutD (toL (f δ N).val) (lo δ N).2 (hi δ N).2), .lst (cutD (toL (f δ N).val) (lo δ N).2 (hi δ N).2)⟩
def pSlU (f : PF) (lo hi : SF) : PF := fun δ N => ⟨(f δ N).ok ∧ (lo δ N).1 ∧ (hi δ N).1 ∧ IsU (f δ N).val, .tup (cutD (toL (f δ N).val) (lo δ N).2 (hi δ N).2)⟩
/-- xs[a:b], of a list: the items' cells are of the list's kind -/
theorem dp_sl {a : Expr} {l h : Option Expr} {f : PF} {lo hi : SF} {p2} (ha : DP X c a f) (hl : PO X l (tO lo)) (hh : PO X h (tO hi)) : DP X c (.Subscript a (.Slice l h none p2) pos) (pSl f lo hi) := by
  refine pe_imp (pe_slice sl_list ha hl hh) fun σ H Q h => ?_
  obtain ⟨δ, N, F, hs, hn, ⟨o1, o2, o3, o4⟩, q⟩ := h
  refine ⟨δ, N, F, hs, hn, o1, fun v H1 fa e1 r1 k1 => ⟨δ, N, F, hs.ex e1, hn.ex e1, o2, fun H2 e2 => ⟨δ, N, F, (hs.ex e1).ex e2, (hn.ex e1).ex e2, o3, fun H3 e3 => ?_⟩⟩⟩
  obtain ⟨p, vs, f', rfl, hp, rl, rfl⟩ := ((r1.ex e2).ex e3).lst_ o4
  refine ⟨p, vs, rfl, SqL.of hp, fun l hl => ?_⟩
  obtain ⟨f2, r2, b2, n2⟩ := rl.cut (lo δ N).2 (hi δ N).2
  exact new_lst ((e1.trans e2).trans e3) r2 (Cl.sub k1 (fun z hz => by simp [b2 z hz]) fun n => n2 (List.nodup_cons.mp n).2) hl fun u H' fp e r k => q u H' fp (((e1.trans e2).trans e3).trans e) r k
/-- .. of listless items: anyone's -/
theorem dp_slF {a : Expr} {l h : Option Expr} {f : PF} {lo hi : SF} {p2} (ha : DP X c1 a f) (hl : PO X l (tO lo)) (hh : PO X h (tO hi)) : DP X c (.Subscript a (.Slice l h none p2) pos) (pSlF f lo hi) := by
  refine pe_imp (pe_slice sl_list ha hl hh) fun σ H Q h => ?_
  obtain ⟨δ, N, F, hs, hn, ⟨o1, o2, o3, o4, o5⟩, q⟩ := h
  refine ⟨δ, N, F, hs, hn, o1, fun v H1 fa e1 r1 k1 => ⟨δ, N, F, hs.ex e1, hn.ex e1, o2, fun H2 e2 => ⟨δ, N, F, (hs.ex e1).ex e2, (hn.ex e1).ex e2, o3, fun H3 e3 => ?_⟩⟩⟩
  obtain ⟨p, vs, f', rfl, hp, rl, rfl⟩ := ((r1.ex e2).ex e3).lst_ o4
  refine ⟨p, vs, rfl, SqL.of hp, fun l hl => ?_⟩
  obtain ⟨f2, r2, b2, n2⟩ := rl.cut (lo δ N).2 (hi δ N).2
  have z := RpL.lf _ _ _ r2 o5
  subst z
  exact new_lst (c := c) (F := F) ((e1.trans e2).trans e3) r2 Cl.nil hl fun u H' fp e r k => q u H' fp (((e1.trans e2).trans e3).trans e) r k
theorem cutV_whole {xs : List V} {lo hi : Option Int} (h : HT.sIx xs.length 0 lo = 0 ∧ HT.sIx xs.length xs.length hi = xs.length) : cutV xs lo hi = xs := by
  unfold cutV; rw [h.1, h.2]; simp
/-- t[a:b], of a tuple -/
theorem dp_slU {a : Expr} {l h : Option Expr} {f : PF} {lo hi : SF} {p2} (ha : DP X c a f) (hl : PO X l (tO lo)) (hh : PO X h (tO hi)) : DP X c (.Subscript a (.Slice l h none p2) pos) (pSlU f lo hi) := by
  refine pe_imp (pe_slice sl_tupA ha hl hh) fun σ H Q h => ?_
  obtain ⟨δ, N, F, hs, hn, ⟨o1, o2, o3, o4⟩, q⟩ := h
  refine ⟨δ, N, F, hs, hn, o1, fun v H1 fa e1 r1 k1 => ⟨δ, N, F, hs.ex e1, hn.ex e1, o2, fun H2 e2 => ⟨δ, N, F, (hs.ex e1).ex e2, (hn.ex e1).ex e2, o3, fun H3 e3 => ?_⟩⟩⟩
  obtain ⟨p, vs, rfl, hp, rl⟩ := ((r1.ex e2).ex e3).tup_ o4
  obtain ⟨f2, r2, b2, n2⟩ := rl.cut (lo δ N).2 (hi δ N).2
  have k2 := Cl.sub k1 b2 n2
  refine ⟨p, vs, rfl, SqT.of hp, fun hw => ?_, fun _ l hl => ?_⟩
  · rw [cutV_whole hw] at r2
    exact q _ H3 f2 ((e1.trans e2).trans e3) ⟨p, vs, rfl, hp, r2⟩ k2
  · exact q _ _ f2 (((e1.trans e2).trans e3).trans (Ex.new hl)) ⟨l, _, rfl, upd_same, r2.ex (Ex.new hl)⟩ k2
theorem RpL.rev {H : Hp} : ∀ {ds : List D} {vs : List V} {fp : List Addr}, RpL H ds vs fp → ∃ f, RpL H ds.reverse vs.reverse f ∧ (∀ p ∈ f, p ∈ fp) ∧ (fp.Nodup → f.Nodup)
  | [], _, _, h => by obtain ⟨rfl, rfl⟩ := h; exact ⟨[], RpL.nil, fun _ q => q, id⟩
  | d :: ds, vs, fp, h => by
    obtain ⟨v, vr, f, g, rfl, h1, h2, rfl⟩ := h
    obtain ⟨f', a, b, c⟩ := RpL.rev h2
    refine ⟨f' ++ f, by rw [List.reverse_cons, List.reverse_cons]; exact RpL.append a (RpL.one h1), fun p hp => ?_, fun k => ?_⟩
    · rcases List.mem_append.mp hp with q | q
      · simp [b p q]
      · simp [q]
    · obtain ⟨k1, k2, k3⟩ := List.nodup_append.mp k
      exact List.nodup_append.mpr ⟨c k2, k1, fun x hx y hy z => k3 y hy x (b x hx) z.symm⟩
def pRev (f : PF) : PF := fun δ N => ⟨(f δ N).ok ∧ IsL (f δ N).val, .lst (toL (f δ N).val).reverse⟩
/-- xs[::-1] -/
theorem dp_rev {a : Expr} {f : PF} {k p1 p2 p3} (ha : DP X c a f) : DP X c (.Subscript a (.Slice none none (some (.UnaryOp .USub (.Constant (.int 1) k p1) p2)) p3) pos) (pRev f) := by
  refine pe_imp (pe_revL ha) fun σ H Q h => ?_
  obtain ⟨δ, N, F, hs, hn, ok, q⟩ := h
  refine ⟨δ, N, F, hs, hn, ok.1, fun v H1 fa e1 r1 k1 => ?_⟩
  obtain ⟨p, vs, f', rfl, hp, rl, rfl⟩ := r1.lst_ ok.2
  obtain ⟨f2, r2, b2, n2⟩ := rl.rev
  exact ⟨p, vs, rfl, SqL.of hp, fun l hl => new_lst e1 r2 (Cl.sub k1 (fun z hz => by simp [b2 z hz]) fun n => n2 (List.nodup_cons.mp n).2) hl fun u H' fp e r k => q u H' fp (e1.trans e) r k⟩

/-! ### argument lists, displays -/
def aNil : AF := fun _ _ => ⟨True, []⟩
def aCons (f : PF) (g : AF) : AF := fun δ N => ⟨(f δ N).ok ∧ (g δ N).ok, (f δ N).val :: (g δ N).vals⟩
theorem da_nil : DA X c [] aNil := by
  refine pa_imp pa_nil fun σ H Q h => ?_
  obtain ⟨δ, N, F, hs, hn, ok, q⟩ := h
  exact q [] H [] (Ex.refl H) RpL.nil Cl.nil
theorem da_cons {e : Expr} {es : List Expr} {f : PF} {g : AF} (h : DP X c e f) (k : DA X c es g) (hs : starEach (e :: es) X.env = (false, eval e X.env) :: starEach es X.env := by rfl) : DA X c (e :: es) (aCons f g) := by
  refine pa_imp (pa_cons h k hs) fun σ H Q h => ?_
  obtain ⟨δ, N, F, hS, hn, ok, q⟩ := h
  refine ⟨δ, N, F, hS, hn, ok.1, fun v H1 fa e1 r1 k1 => ⟨δ, N, F, hS.ex e1, hn.ex e1, ok.2, fun vs H2 fb e2 r2 k2 => ?_⟩⟩
  exact q _ H2 (fa ++ fb) (e1.trans e2) (RpL.cons (r1.ex e2) r2) (Cl.app e1 k1 (fun p hp => let ⟨o, ho, _⟩ := Rp.there _ _ _ r1 p hp; ⟨o, ho⟩) k2)
def pLst (g : AF) : PF := fun δ N => ⟨(g δ N).ok ∧ (g δ N).vals.length ≤ SZ, .lst (g δ N).vals⟩
def pTup (g : AF) : PF := fun δ N => ⟨(g δ N).ok ∧ (g δ N).vals.length ≤ SZ, .tup (g δ N).vals⟩
theorem dp_lst {es : List Expr} {g : AF} (h : DA X c es g) : DP X c (.List es pos) (pLst g) := by
  refine pe_imp (pe_lst h) fun σ H Q h => ?_
  obtain ⟨δ, N, F, hS, hn, ok, q⟩ := h
  refine ⟨δ, N, F, hS, hn, ok.1, fun vs H1 fa e1 r1 k1 => ⟨sz (by rw [← r1.length]; exact ok.2), fun p hp => ?_⟩⟩
  exact new_lst e1 r1 k1 hp fun u H' fp e r k => q u H' fp (e1.trans e) r k
theorem dp_tup {es : List Expr} {g : AF} {x1} (h : DA X c es g) : DP X c (.Tuple es x1 pos) (pTup g) := by
  refine pe_imp (pe_tup h) fun σ H Q h => ?_
  obtain ⟨δ, N, F, hS, hn, ok, q⟩ := h
  refine ⟨δ, N, F, hS, hn, ok.1, fun vs H1 fa e1 r1 k1 => ⟨sz (by rw [← r1.length]; exact ok.2), fun p hp => ?_⟩⟩
  exact q _ _ fa (e1.trans (Ex.new hp)) ⟨p, vs, rfl, upd_same, r1.ex (Ex.new hp)⟩ k1
end
end DL
set_option maxHeartbeats 4000000
/-! The data layer, 4: calls of built-ins, comprehensions, attributes, calls of one's own pure defs. -/
namespace DL
open PySem L2

theorem RpL.ints_ {H : Hp} : ∀ {ds : List D} {vs : List V} {fp : List Addr}, RpL H ds vs fp → (∀ d ∈ ds, IsI d) → vs = (ds.map toI).map V.int ∧ fp = []
  | [], _, _, h, _ => h
  | d :: ds, vs, fp, h, k => by
    obtain ⟨v, vr, f, g, rfl, h1, h2, rfl⟩ := h
    have hd := k d (by simp)
    have e1 := h1.int_ hd
    rw [hd.eq] at h1
    obtain ⟨e3, e4⟩ := RpL.ints_ h2 fun e he => k e (by simp [he])
    subst e1 e3
    exact ⟨rfl, by rw [h1.2, e4]; rfl⟩
theorem RpL.of_ints {H : Hp} : ∀ (ns : List Int), RpL H (ns.map D.int) (ns.map V.int) []
  | [] => RpL.nil
  | n :: ns => ⟨_, _, [], [], rfl, ⟨rfl, rfl⟩, RpL.of_ints ns, rfl⟩
/-- sorted, rising -/
def insI (x : Int) : List Int → List Int
  | [] => [x]
  | y :: ys => if x ≤ y then x :: y :: ys else y :: insI x ys
def sortI : List Int → List Int
  | [] => []
  | x :: xs => insI x (sortI xs)
theorem insI_perm (x : Int) : ∀ ys, (insI x ys).Perm (x :: ys)
  | [] => List.Perm.refl _
  | y :: ys => by
    unfold insI
    split
    · exact List.Perm.refl _
    · exact ((insI_perm x ys).cons y).trans (List.Perm.swap x y ys)
theorem sortI_perm : ∀ xs, (sortI xs).Perm xs
  | [] => List.Perm.refl _
  | x :: xs => (insI_perm x _).trans ((sortI_perm xs).cons x)
theorem insI_mem {x z : Int} {ys : List Int} : z ∈ insI x ys ↔ z = x ∨ z ∈ ys := by
  rw [(insI_perm x ys).mem_iff]; simp
theorem insI_sorted (x : Int) : ∀ ys, ys.Pairwise (· ≤ ·) → (insI x ys).Pairwise (· ≤ ·)
  | [], _ => by simp [insI]
  | y :: ys, h => by
    obtain ⟨h1, h2⟩ := List.pairwise_cons.mp h
    unfold insI
    split
    · rename_i hx
      refine List.pairwise_cons.mpr ⟨fun z hz => ?_, h⟩
      rcases List.mem_cons.mp hz with rfl | hz
      · exact hx
      · exact Int.le_trans hx (h1 z hz)
    · rename_i hx
      refine List.pairwise_cons.mpr ⟨fun z hz => ?_, insI_sorted x ys h2⟩
      rcases insI_mem.mp hz with rfl | hz
      · omega
      · exact h1 z hz
theorem sortI_sorted : ∀ xs, (sortI xs).Pairwise (· ≤ ·)
  | [] => List.Pairwise.nil
  | x :: xs => insI_sorted x _ (sortI_sorted xs)
theorem sorted_uniq : ∀ {xs ys : List Int}, xs.Perm ys → xs.Pairwise (· ≤ ·) → ys.Pairwise (· ≤ ·) → xs = ys
  | [], ys, p, _, _ => by rw [List.nil_perm] at p; exact p.symm
  | x :: xs, [], p, _, _ => by have := p.length_eq; simp at this
  | x :: xs, y :: ys, p, h, k => by
    obtain ⟨h1, h2⟩ := List.pairwise_cons.mp h
    obtain ⟨k1, k2⟩ := List.pairwise_cons.mp k
    have e : x = y := by
      have a : x ∈ y :: ys := p.mem_iff.mp (by simp)
      have b : y ∈ x :: xs := p.mem_iff.mpr (by simp)
      rcases List.mem_cons.mp a with e | a
      · exact e
      · rcases List.mem_cons.mp b with e | b
        · exact e.symm
        · have := k1 x a; have := h1 y b; omega
    subst e
    rw [sorted_uniq (List.Perm.cons_inv p) h2 k2]
theorem sortI_of {xs ys : List Int} (p : ys.Perm xs) (h : ys.Pairwise (· ≤ ·)) : ys = sortI xs := sorted_uniq (p.trans (sortI_perm xs).symm) h (sortI_sorted xs)
theorem sortI_id {xs : List Int} (h : xs.Pairwise (· ≤ ·)) : sortI xs = xs := (sortI_of (List.Perm.refl xs) h).symm
/-- the least, the greatest -/
def minI : List Int → Int
  | [] => 0
  | [x] => x
  | x :: xs => min x (minI xs)
def maxI : List Int → Int
  | [] => 0
  | [x] => x
  | x :: xs => max x (maxI xs)
theorem minI_spec : ∀ {xs : List Int}, xs ≠ [] → minI xs ∈ xs ∧ ∀ y ∈ xs, minI xs ≤ y
  | [x], _ => by simp [minI]
  | x :: z :: xs, _ => by
    obtain ⟨a, b⟩ := minI_spec (xs := z :: xs) (by simp)
    have e : minI (x :: z :: xs) = min x (minI (z :: xs)) := rfl
    rw [e]
    refine ⟨?_, fun y hy => ?_⟩
    · by_cases q : x ≤ minI (z :: xs)
      · rw [Int.min_eq_left q]; simp
      · rw [Int.min_eq_right (by omega)]; exact List.mem_cons_of_mem _ a
    · rcases List.mem_cons.mp hy with rfl | hy
      · omega
      · have := b y hy; omega
theorem maxI_spec : ∀ {xs : List Int}, xs ≠ [] → maxI xs ∈ xs ∧ ∀ y ∈ xs, y ≤ maxI xs
  | [x], _ => by simp [maxI]
  | x :: z :: xs, _ => by
    obtain ⟨a, b⟩ := maxI_spec (xs := z :: xs) (by simp)
    have e : maxI (x :: z :: xs) = max x (maxI (z :: xs)) := rfl
    rw [e]
    refine ⟨?_, fun y hy => ?_⟩
    · by_cases q : maxI (z :: xs) ≤ x
      · rw [Int.max_eq_left q]; simp
      · rw [Int.max_eq_right (by omega)]; exact List.mem_cons_of_mem _ a
    · rcases List.mem_cons.mp hy with rfl | hy
      · omega
      · have := b y hy; omega
theorem minI_of {xs : List Int} {m : Int} (h : m ∈ xs) (k : ∀ y ∈ xs, m ≤ y) : m = minI xs := by
  have ne : xs ≠ [] := fun e => by rw [e] at h; cases h
  obtain ⟨a, b⟩ := minI_spec ne
  have := b m h; have := k _ a; omega
theorem maxI_of {xs : List Int} {m : Int} (h : m ∈ xs) (k : ∀ y ∈ xs, y ≤ m) : m = maxI xs := by
  have ne : xs ≠ [] := fun e => by rw [e] at h; cases h
  obtain ⟨a, b⟩ := maxI_spec ne
  have := b m h; have := k _ a; omega

section
variable {X : Cx} {c c1 c2 c3 : Cl} {pos p : Pos} {x : Str}
/-! ### built-ins -/
/-- one argument -/
def p1 (h : D → PV) (f : PF) : PF := fun δ N => ⟨(f δ N).ok ∧ (h (f δ N).val).ok, (h (f δ N).val).val⟩
theorem cb1 {a : Expr} {f : PF} {hf : D → PV} {r : List V → Hp → VK → Prop} {e : Expr} (k : ∀ {t : TA}, PA X [a] t → PE X e (tCB r t)) (ha : DP X c1 a f)
    (hr : ∀ (F : Addr → Prop) (H H1 : Hp) (d : D) (v : V) (fp : List Addr) (Q : VK), Ex H H1 → Rp H1 d v fp → c1.ok F H fp → (hf d).ok → (∀ u H' fp, Ex H1 H' → Rp H' (hf d).val u fp → c.ok F H fp → Q u H') → r [v] H1 Q)
    (hs : starEach [a] X.env = (false, eval a X.env) :: starEach [] X.env := by rfl) : DP X c e (p1 hf f) := by
  refine pe_imp (k (pa_cons ha pa_nil hs)) fun σ H Q h => ?_
  obtain ⟨δ, N, F, hS, hn, ok, q⟩ := h
  exact ⟨δ, N, F, hS, hn, ok.1, fun v H1 fp e1 r1 k1 => hr F H H1 _ v fp Q e1 r1 k1 ok.2 fun u H' fp' e r k => q u H' fp' (e1.trans e) r k⟩
def lenD (d : D) : PV := match d with
  | .lst xs => ⟨True, .int xs.length⟩
  | .tup xs => ⟨True, .int xs.length⟩
  | .str s => ⟨s.length ≤ SZ, .int s.length⟩
  | _ => ⟨False, .non⟩
theorem dp_len {a : Expr} {f : PF} (hg : Gl X "len") (hm : X.mg "len" = none) (ha : DP X c1 a f) (hs : starEach [a] X.env = (false, eval a X.env) :: starEach [] X.env := by rfl) : DP X c (.Call (.Name "len" p) [a] [] pos) (p1 lenD f) :=
  cb1 (hf := lenD) (fun h => pe_callB call_len hg hm boot_len h (he := hs) (hpl := by rfl)) ha (fun F H H1 d v fp Q e1 r k ok q => by
    cases d <;> first | (exact ok.elim) | skip
    · rename_i s
      obtain ⟨rfl, rfl⟩ := r
      exact ⟨_, s.length, rfl, ⟨sz ok, rfl⟩, q _ H1 [] (Ex.refl _) ⟨rfl, rfl⟩ Cl.nil⟩
    · obtain ⟨p, vs, rfl, hp, rl⟩ := r
      refine ⟨_, vs.length, rfl, .inr ⟨vs, SqT.of hp, rfl⟩, ?_⟩
      rw [← rl.length]
      exact q _ H1 [] (Ex.refl _) ⟨rfl, rfl⟩ Cl.nil
    · obtain ⟨p, vs, f, rfl, hp, rl, rfl⟩ := r
      refine ⟨_, vs.length, rfl, .inl ⟨vs, SqL.of hp, rfl⟩, ?_⟩
      rw [← rl.length]
      exact q _ H1 [] (Ex.refl _) ⟨rfl, rfl⟩ Cl.nil) hs
def Ints (d : D) : Prop := IsL d ∧ ∀ x ∈ toL d, IsI x
def toIs (d : D) : List Int := (toL d).map toI
theorem Rp.ints {H : Hp} {d : D} {v : V} {fp : List Addr} (h : Rp H d v fp) (k : Ints d) : ∃ p, v = .ref p ∧ H p = some (.lst ((toIs d).map V.int)) := by
  obtain ⟨p, vs, f, rfl, hp, rl, rfl⟩ := h.lst_ k.1
  obtain ⟨rfl, _⟩ := rl.ints_ k.2
  exact ⟨p, rfl, hp⟩
def sumD (d : D) : PV := ⟨Ints d, .int (toIs d).sum⟩
theorem dp_sum {a : Expr} {f : PF} (hc : X.calm = true) (hg : Gl X "sum") (hm : X.mg "sum" = none) (ha : DP X c1 a f) (hs : starEach [a] X.env = (false, eval a X.env) :: starEach [] X.env := by rfl) : DP X c (.Call (.Name "sum" p) [a] [] pos) (p1 sumD f) :=
  cb1 (hf := sumD) (fun h => pe_callB (cr_sum hc) hg hm (by decide +kernel) h (he := hs) (hpl := by rfl)) ha (fun F H H1 d v fp Q e1 r k ok q => by
    obtain ⟨p, rfl, hp⟩ := r.ints ok
    exact ⟨p, _, rfl, SqL.of hp, q _ H1 [] (Ex.refl _) ⟨rfl, rfl⟩ Cl.nil⟩) hs
def minD (d : D) : PV := ⟨Ints d ∧ toIs d ≠ [], .int (minI (toIs d))⟩
def maxD (d : D) : PV := ⟨Ints d ∧ toIs d ≠ [], .int (maxI (toIs d))⟩
theorem dp_min {a : Expr} {f : PF} (hc : X.calm = true) (hg : Gl X "min") (hm : X.mg "min" = none) (ha : DP X c1 a f) (hs : starEach [a] X.env = (false, eval a X.env) :: starEach [] X.env := by rfl) : DP X c (.Call (.Name "min" p) [a] [] pos) (p1 minD f) :=
  cb1 (hf := minD) (fun h => pe_callB (cr_min hc) hg hm (by decide +kernel) h (he := hs) (hpl := by rfl)) ha (fun F H H1 d v fp Q e1 r k ok q => by
    obtain ⟨p, rfl, hp⟩ := r.ints ok.1
    exact ⟨p, _, rfl, SqL.of hp, List.length_pos_iff.mpr ok.2, fun m h1 h2 => by rw [minI_of h1 h2]; exact q _ H1 [] (Ex.refl _) ⟨rfl, rfl⟩ Cl.nil⟩) hs
theorem dp_max {a : Expr} {f : PF} (hc : X.calm = true) (hg : Gl X "max") (hm : X.mg "max" = none) (ha : DP X c1 a f) (hs : starEach [a] X.env = (false, eval a X.env) :: starEach [] X.env := by rfl) : DP X c (.Call (.Name "max" p) [a] [] pos) (p1 maxD f) :=
  cb1 (hf := maxD) (fun h => pe_callB (cr_max hc) hg hm (by decide +kernel) h (he := hs) (hpl := by rfl)) ha (fun F H H1 d v fp Q e1 r k ok q => by
    obtain ⟨p, rfl, hp⟩ := r.ints ok.1
    exact ⟨p, _, rfl, SqL.of hp, List.length_pos_iff.mpr ok.2, fun m h1 h2 => by rw [maxI_of h1 h2]; exact q _ H1 [] (Ex.refl _) ⟨rfl, rfl⟩ Cl.nil⟩) hs
def sortD (d : D) : PV := ⟨Ints d, .lst ((sortI (toIs d)).map D.int)⟩
theorem dp_sorted {a : Expr} {f : PF} (hg : Gl X "sorted") (hm : X.mg "sorted" = none) (ha : DP X c1 a f) (hs : starEach [a] X.env = (false, eval a X.env) :: starEach [] X.env := by rfl) : DP X c (.Call (.Name "sorted" p) [a] [] pos) (p1 sortD f) :=
  cb1 (hf := sortD) (fun h => pe_callB cr_sortedI hg hm (by decide +kernel) h (he := hs) (hpl := by rfl)) ha (fun F H H1 d v fp Q e1 r k ok q => by
    obtain ⟨p, rfl, hp⟩ := r.ints ok
    exact ⟨p, _, rfl, SqL.of hp, fun ns' l h1 h2 hl => by
      rw [sortI_of h1 h2]
      exact new_lst (c := c) (F := F) e1 (RpL.of_ints _) Cl.nil hl q⟩) hs
def sortRD (d : D) : PV := ⟨Ints d, .lst ((sortI (toIs d)).reverse.map D.int)⟩
/-- sorted(xs, reverse=True) -/
theorem dp_sortedR {a : Expr} {f : PF} {j p3 kp} (hg : Gl X "sorted") (hm : X.mg "sorted" = none) (ha : DP X c1 a f) (hs : starEach [a] X.env = (false, eval a X.env) :: starEach [] X.env := by rfl)
    (hb : backTo pos (starEach [a] X.env) = (false, eval a X.env) :: backTo pos (starEach [] X.env) := by rfl) (hpl : (backTo pos (starEach [a] X.env)).any (·.1) = false := by rfl) : DP X c (.Call (.Name "sorted" p) [a] [⟨some "reverse", .Constant (.bool true) j p3, kp⟩] pos) (p1 sortRD f) := by
  refine pe_imp (pe_callBK (ks := [Str.ofString "reverse"]) (cr_sortedRev (b := true)) hg hm (by decide +kernel) (pa_cons ha pa_nil hs) (pk_cons pe_bl pk_nil) (he := hb) (hpl := hpl)) fun σ H Q h => ?_
  obtain ⟨δ, N, F, hS, hn, ok, q⟩ := h
  refine ⟨δ, N, F, hS, hn, ok.1, fun v H1 fp e1 r1 k1 => ?_⟩
  obtain ⟨p, rfl, hp⟩ := r1.ints ok.2
  refine ⟨p, _, rfl, rfl, SqL.of hp, fun ns' l h1 h2 hl => ?_⟩
  have e : ns' = (sortI (toIs (f δ N).val)).reverse := by
    have h3 : ns'.Pairwise (· ≥ ·) := h2
    have := sortI_of (xs := toIs (f δ N).val) (ys := ns'.reverse) ((List.reverse_perm ns').trans h1) (List.pairwise_reverse.mpr h3)
    rw [← this, List.reverse_reverse]
  subst e
  exact new_lst (c := c) (F := F) e1 (RpL.of_ints _) Cl.nil hl fun u H' fp e r k => q u H' fp (e1.trans e) r k
def lstD (d : D) : PV := ⟨IsQ d ∧ (toL d).length ≤ SZ, .lst (toL d)⟩
def lstDF (d : D) : PV := ⟨IsQ d ∧ (toL d).length ≤ SZ ∧ lfs (toL d), .lst (toL d)⟩
theorem dp_list {a : Expr} {f : PF} (hg : Gl X "list") (hm : X.mg "list" = none) (ha : DP X c a f) (hs : starEach [a] X.env = (false, eval a X.env) :: starEach [] X.env := by rfl) : DP X c (.Call (.Name "list" p) [a] [] pos) (p1 lstD f) :=
  cb1 (hf := lstD) (fun h => pe_callTy call_list_of hg hm (by decide +kernel) h (he := hs) (hpl := by rfl)) ha (fun F H H1 d v fp Q e1 r k ok q => by
    obtain ⟨p, vs, f, rfl, hp, rl, hs, hn⟩ := r.seq_ X.K ok.1
    exact ⟨p, vs, rfl, hp, fun l hl => new_lst e1 rl (Cl.sub k hs hn) hl q⟩) hs
theorem dp_listF {a : Expr} {f : PF} (hg : Gl X "list") (hm : X.mg "list" = none) (ha : DP X c1 a f) (hs : starEach [a] X.env = (false, eval a X.env) :: starEach [] X.env := by rfl) : DP X c (.Call (.Name "list" p) [a] [] pos) (p1 lstDF f) :=
  cb1 (hf := lstDF) (fun h => pe_callTy call_list_of hg hm (by decide +kernel) h (he := hs) (hpl := by rfl)) ha (fun F H H1 d v fp Q e1 r k ok q => by
    obtain ⟨p, vs, f, rfl, hp, rl, hs, hn⟩ := r.seq_ X.K ok.1
    have z := RpL.lf _ _ _ rl ok.2.2
    subst z
    exact ⟨p, vs, rfl, hp, fun l hl => new_lst (c := c) (F := F) e1 rl Cl.nil hl q⟩) hs
def tupD (d : D) : PV := ⟨IsL d, .tup (toL d)⟩
/-- tuple(xs) of a list -/
theorem dp_tuple {a : Expr} {f : PF} (hg : Gl X "tuple") (hm : X.mg "tuple" = none) (ha : DP X c a f) (hs : starEach [a] X.env = (false, eval a X.env) :: starEach [] X.env := by rfl) : DP X c (.Call (.Name "tuple" p) [a] [] pos) (p1 tupD f) :=
  cb1 (hf := tupD) (fun h => pe_callTy call_tuple_of hg hm (by decide +kernel) h (he := hs) (hpl := by rfl)) ha (fun F H H1 d v fp Q e1 r k ok q => by
    obtain ⟨p, vs, f, rfl, hp, rl, rfl⟩ := r.lst_ ok
    exact ⟨p, vs, rfl, .inl ⟨SqL.of hp, fun l hl => q _ _ f (Ex.new hl) ⟨l, vs, rfl, upd_same, rl.ex (Ex.new hl)⟩ (Cl.sub k (fun z hz => by simp [hz]) fun n => (List.nodup_cons.mp n).2)⟩⟩) hs
def intD (d : D) : PV := match d with
  | .int i => ⟨True, .int i⟩
  | .bl b => ⟨True, .int (if b then 1 else 0)⟩
  | _ => ⟨False, .non⟩
theorem dp_int1 {a : Expr} {f : PF} (hg : Gl X "int") (hm : X.mg "int" = none) (ha : DP X c1 a f) (hs : starEach [a] X.env = (false, eval a X.env) :: starEach [] X.env := by rfl) : DP X c (.Call (.Name "int" p) [a] [] pos) (p1 intD f) :=
  cb1 (hf := intD) (fun h => pe_callTy call_int1 hg hm (by decide +kernel) h (he := hs) (hpl := by rfl)) ha (fun F H H1 d v fp Q e1 r k ok q => by
    cases d <;> first | (exact ok.elim) | skip
    · obtain ⟨rfl, rfl⟩ := r
      exact .inr ⟨_, rfl, q _ H1 [] (Ex.refl _) ⟨rfl, rfl⟩ Cl.nil⟩
    · obtain ⟨rfl, rfl⟩ := r
      exact .inl ⟨_, rfl, q _ H1 [] (Ex.refl _) ⟨rfl, rfl⟩ Cl.nil⟩) hs
/-- max(a, b), min(a, b) of two ints -/
theorem dp_max2 {a b : Expr} {f g : PF} (hc : X.calm = true) (hg : Gl X "max") (hm : X.mg "max" = none) (ha : DP X c1 a f) (hb : DP X c2 b g) (hs : starEach [a, b] X.env = (false, eval a X.env) :: starEach [b] X.env := by rfl) (hs2 : starEach [b] X.env = (false, eval b X.env) :: starEach [] X.env := by rfl)
    (hpl : (backTo pos (starEach [b] X.env)).any (·.1) = false := by rfl) :
    DP X c (.Call (.Name "max" p) [a, b] [] pos) (p2 (bI (fun _ _ => True) fun i j => .int (max i j)) f g) := by
  refine pe_imp (pe_callB (call_max2 hc) hg hm (by decide +kernel) (pa_cons ha (pa_cons hb pa_nil hs2) hs) (he := hs) (hpl := hpl)) fun σ H Q h => ?_
  obtain ⟨δ, N, F, hS, hn, ⟨o1, o2, o3, o4, _⟩, q⟩ := h
  refine ⟨δ, N, F, hS, hn, o1, fun v H1 fa e1 r1 k1 => ⟨δ, N, F, hS.ex e1, hn.ex e1, o2, fun w H2 fb e2 r2 k2 => ?_⟩⟩
  have e := r1.int_ o3; have e' := r2.int_ o4
  subst e e'
  refine ⟨_, _, rfl, ?_⟩
  have z : (if toI (g δ N).val > toI (f δ N).val then toI (g δ N).val else toI (f δ N).val) = max (toI (f δ N).val) (toI (g δ N).val) := by split <;> omega
  rw [z]
  exact q _ H2 [] (e1.trans e2) ⟨rfl, rfl⟩ Cl.nil
theorem dp_min2 {a b : Expr} {f g : PF} (hc : X.calm = true) (hg : Gl X "min") (hm : X.mg "min" = none) (ha : DP X c1 a f) (hb : DP X c2 b g) (hs : starEach [a, b] X.env = (false, eval a X.env) :: starEach [b] X.env := by rfl) (hs2 : starEach [b] X.env = (false, eval b X.env) :: starEach [] X.env := by rfl)
    (hpl : (backTo pos (starEach [b] X.env)).any (·.1) = false := by rfl) :
    DP X c (.Call (.Name "min" p) [a, b] [] pos) (p2 (bI (fun _ _ => True) fun i j => .int (min i j)) f g) := by
  refine pe_imp (pe_callB (call_min2 hc) hg hm (by decide +kernel) (pa_cons ha (pa_cons hb pa_nil hs2) hs) (he := hs) (hpl := hpl)) fun σ H Q h => ?_
  obtain ⟨δ, N, F, hS, hn, ⟨o1, o2, o3, o4, _⟩, q⟩ := h
  refine ⟨δ, N, F, hS, hn, o1, fun v H1 fa e1 r1 k1 => ⟨δ, N, F, hS.ex e1, hn.ex e1, o2, fun w H2 fb e2 r2 k2 => ?_⟩⟩
  have e := r1.int_ o3; have e' := r2.int_ o4
  subst e e'
  refine ⟨_, _, rfl, ?_⟩
  have z : (if toI (g δ N).val < toI (f δ N).val then toI (g δ N).val else toI (f δ N).val) = min (toI (f δ N).val) (toI (g δ N).val) := by split <;> omega
  rw [z]
  exact q _ H2 [] (e1.trans e2) ⟨rfl, rfl⟩ Cl.nil

/-! ### isinstance against a built-in class -/
def tyN : D → String
  | .non => "NoneType" | .bl _ => "bool" | .int _ => "int" | .str _ => "str" | .tup _ => "tuple" | .lst _ => "list" | .dic _ _ => "dict" | _ => ""
def isiB (T : String) (d : D) : Bool := tyN d == T || (T == "int" && tyN d == "bool")
def Ty (d : D) : Prop := match d with | .obj _ _ _ _ => False | .ref _ => False | _ => True
theorem Rp.ty {H : Hp} {d : D} {v : V} {fp : List Addr} {K : PySem.W.Frag} (h : Rp H d v fp) (k : Ty d) : TyX K H v (.type (tyN d)) := by
  cases d <;> first
    | (exact k.elim)
    | skip
  · rw [h.1]; exact .base .non
  · rw [h.1]; exact .base (.bl _)
  · rw [h.1]; exact .base (.int _)
  · rw [h.1]; exact .base (.str _)
  · obtain ⟨p, vs, rfl, hp, _⟩ := h; exact .base (.tup hp)
  · obtain ⟨p, vs, f, rfl, hp, _⟩ := h; exact .base (.lst hp)
  · obtain ⟨p, vs, f, rfl, hp, _⟩ := h; exact .base (.dK hp)
def KitOk (T : String) : Prop := ∀ t, t = "NoneType" ∨ t = "bool" ∨ t = "int" ∨ t = "str" ∨ t = "tuple" ∨ t = "list" ∨ t = "dict" → kitB t T = some (t == T || (T == "int" && t == "bool"))
theorem kit_int : KitOk "int" := by intro t h; rcases h with rfl | rfl | rfl | rfl | rfl | rfl | rfl <;> decide +kernel
theorem kit_bool : KitOk "bool" := by intro t h; rcases h with rfl | rfl | rfl | rfl | rfl | rfl | rfl <;> decide +kernel
theorem kit_str : KitOk "str" := by intro t h; rcases h with rfl | rfl | rfl | rfl | rfl | rfl | rfl <;> decide +kernel
theorem kit_tuple : KitOk "tuple" := by intro t h; rcases h with rfl | rfl | rfl | rfl | rfl | rfl | rfl <;> decide +kernel
theorem kit_list : KitOk "list" := by intro t h; rcases h with rfl | rfl | rfl | rfl | rfl | rfl | rfl <;> decide +kernel
theorem Ty.kit {d : D} {T : String} (h : Ty d) (k : KitOk T) : kitB (tyN d) T = some (isiB T d) := by
  refine k (tyN d) ?_
  cases d <;> first | exact h.elim | simp [tyN]
def pIsi (T : String) (f : PF) : PF := fun δ N => ⟨(f δ N).ok ∧ Ty (f δ N).val, .bl (isiB T (f δ N).val)⟩
theorem dp_isi {a : Expr} {f : PF} {T : String} {xT : Str} {pT} (kt : KitOk T) (hg : Gl X "isinstance") (hm : X.mg "isinstance" = none) (hgT : Gl X xT) (hmT : X.mg xT = none) (hbT : bootBuiltins xT = some (.type T)) (ha : DP X c1 a f)
    (hs : starEach [a, .Name xT pT] X.env = (false, eval a X.env) :: starEach [.Name xT pT] X.env := by rfl) (hs2 : starEach [.Name xT pT] X.env = (false, eval (.Name xT pT) X.env) :: starEach [] X.env := by rfl)
    (hpl : (backTo pos (starEach [.Name xT pT] X.env)).any (·.1) = false := by rfl) (hn : xT ≠ "__name__" := by decide) (hd : (xT == ("__debug__" : Str)) = false := by decide) :
    DP X c (.Call (.Name "isinstance" p) [a, .Name xT pT] [] pos) (pIsi T f) := by
  refine pe_imp (pe_callB call_isi hg hm (by decide +kernel) (pa_cons ha (pa_cons (pe_bltn (v := .ty T) hgT hmT hbT rfl hn hd) pa_nil hs2) hs) (he := hs) (hpl := hpl)) fun σ H Q h => ?_
  obtain ⟨δ, N, F, hS, hn, ok, q⟩ := h
  refine ⟨δ, N, F, hS, hn, ok.1, fun v H1 fa e1 r1 k1 => ?_⟩
  exact ⟨v, .ty T, .type (tyN (f δ N).val), .type T, _, rfl, .ty T, r1.ty ok.2, kit_ty (ok.2.kit kt), q _ H1 [] e1 ⟨rfl, rfl⟩ Cl.nil⟩
end
end DL
set_option maxHeartbeats 4000000
/-! The data layer, 5: what is walked, targets, comprehensions, attributes, calls of pure defs. -/
namespace DL
open PySem L2

/-! ### what is walked -/
def Walk (J : It) (S : Hp → Prop) (items : List D) (fp : List Addr) : Prop := ∀ (i : Nat) (H : Hp), S H →
  (∀ d, items[i]? = some d → J.go i H ∧ ∀ x H', J.yld i H x H' → Ex H H' ∧ ∃ f, Rp H' d x f ∧ ∀ p ∈ f, p ∈ fp) ∧ (items.length ≤ i → J.stop i H)
def tI (c : Cl) (f : AF) : TI := fun σ H R => ∃ δ N F, SRep F H σ δ ∧ NRep N H ∧ (f δ N).ok ∧ ∀ J H' fp, Ex H H' → (∀ p ∈ fp, ∃ o, H' p = some o ∧ ∀ xs, o ≠ .tup xs) → c.ok F H fp → Walk J (fun H2 => Kp H' H2 fp) (f δ N).vals fp → R J H'
abbrev DI (X : Cx) (c : Cl) (tg iter : Expr) (f : AF) : Prop := PI X tg iter (tI c f)
theorem pi_imp {X : Cx} {tg e : Expr} {t t' : TI} (h : PI X tg e t) (k : ∀ σ H Q, t' σ H Q → t σ H Q) : PI X tg e t' := ⟨fun pins s σ H Q I q => h.run pins s σ H Q I (k σ H Q q)⟩
theorem Kp.ex {H H' : Hp} {fp : List Addr} (e : Ex H H') (h : ∀ p ∈ fp, ∃ o, H p = some o) : Kp H H' fp := ⟨fun p vs q => e p _ q, fun p hp => by
  obtain ⟨o, ho⟩ := h p hp
  rw [ho, e p o ho]⟩
theorem Rp.kp {H H' : Hp} {d : D} {v : V} {fp fq : List Addr} (h : Rp H d v fp) (k : Kp H H' fq) (hs : ∀ p ∈ fp, p ∈ fq) : Rp H' d v fp := Rp.keep k.tup d v fp h fun p hp => k.cell p (hs p hp)
theorem RpL.kp {H H' : Hp} {d : List D} {v : List V} {fp fq : List Addr} (h : RpL H d v fp) (k : Kp H H' fq) (hs : ∀ p ∈ fp, p ∈ fq) : RpL H' d v fp := RpL.keep k.tup d v fp h fun p hp => k.cell p (hs p hp)
section
variable {X : Cx} {c c1 c2 c3 : Cl} {pos p : Pos} {tg : Expr}
def iL (f : PF) : AF := fun δ N => ⟨(f δ N).ok ∧ IsL (f δ N).val, toL (f δ N).val⟩
def iU (f : PF) : AF := fun δ N => ⟨(f δ N).ok ∧ IsU (f δ N).val, toL (f δ N).val⟩
theorem get_none {ds : List D} {vs : List V} {H : Hp} {fp : List Addr} (h : RpL H ds vs fp) {i : Nat} (e : ds.length ≤ i) : vs.length ≤ i := by rw [← h.length]; exact e
theorem di_list {e : Expr} {f : PF} (h : DP X c e f) : DI X c tg e (iL f) := by
  refine pi_imp (pi_list h) fun σ H R h => ?_
  obtain ⟨δ, N, F, hs, hn, ok, q⟩ := h
  refine ⟨δ, N, F, hs, hn, ok.1, fun v H1 fp e1 r1 k1 => ?_⟩
  have tr := Rp.there _ _ _ r1
  obtain ⟨p, vs, f', rfl, hp, rl, rfl⟩ := r1.lst_ ok.2
  refine ⟨p, rfl, ⟨vs, SqL.of hp⟩, q _ H1 (p :: f') e1 tr k1 fun i H2 kp => ⟨fun d hd => ?_, fun hl => ?_⟩⟩
  · have rl2 := rl.kp kp fun z hz => by simp [hz]
    have hp2 : H2 p = some (.lst vs) := by rw [kp.cell p (by simp)]; exact hp
    obtain ⟨u, fu, h1, h2, h3, h4⟩ := rl2.get hd
    refine ⟨⟨vs, u, SqL.of hp2, h1⟩, fun x H' y => ?_⟩
    obtain ⟨e', y⟩ := y
    subst e'
    have := y vs (SqL.of hp2)
    rw [h1] at this; cases this
    exact ⟨Ex.refl _, fu, h2, fun z hz => by simp [h3 z hz]⟩
  · have hp2 : H2 p = some (.lst vs) := by rw [kp.cell p (by simp)]; exact hp
    exact ⟨vs, SqL.of hp2, get_none rl hl⟩
theorem di_tup {e : Expr} {f : PF} (h : DP X c e f) : DI X c tg e (iU f) := by
  refine pi_imp (pi_tup h) fun σ H R h => ?_
  obtain ⟨δ, N, F, hs, hn, ok, q⟩ := h
  refine ⟨δ, N, F, hs, hn, ok.1, fun v H1 fp e1 r1 k1 => ?_⟩
  have tr := Rp.there _ _ _ r1
  obtain ⟨p, vs, rfl, hp, rl⟩ := r1.tup_ ok.2
  refine ⟨p, rfl, ⟨vs, SqT.of hp⟩, q _ H1 fp e1 tr k1 fun i H2 kp => ⟨fun d hd => ?_, fun hl => ?_⟩⟩
  · have rl2 := rl.kp kp fun z hz => hz
    have hp2 : H2 p = some (.tup vs) := kp.tup _ _ hp
    obtain ⟨u, fu, h1, h2, h3, h4⟩ := rl2.get hd
    refine ⟨⟨vs, u, SqT.of hp2, h1⟩, fun x H' y => ?_⟩
    obtain ⟨e', y⟩ := y
    subst e'
    have := y vs (SqT.of hp2)
    rw [h1] at this; cases this
    exact ⟨Ex.refl _, fu, h2, h3⟩
  · exact ⟨vs, SqT.of (kp.tup _ _ hp), get_none rl hl⟩
/-- lo, lo + 1, .. n of them -/
def rng (lo : Int) : Nat → List Int
  | 0 => []
  | n + 1 => lo :: rng (lo + 1) n
theorem rng_length (lo : Int) : ∀ n, (rng lo n).length = n
  | 0 => rfl
  | n + 1 => by rw [rng, List.length_cons, rng_length]
theorem rng_get : ∀ (lo : Int) (n i : Nat), i < n → (rng lo n)[i]? = some (lo + i)
  | lo, n + 1, 0, _ => by simp [rng]
  | lo, n + 1, i + 1, h => by
    rw [rng, List.getElem?_cons_succ, rng_get (lo + 1) n i (by omega)]
    congr 1; omega
theorem walk_rng {S : Hp → Prop} {lo : Int} {n : Nat} : Walk (Itr lo n) S ((rng lo n).map D.int) [] := fun i H _ => by
  refine ⟨fun d hd => ?_, fun hl => ?_⟩
  · have hi : i < n := by
      have := (List.getElem?_eq_some_iff.mp hd).1
      simpa [rng_length] using this
    rw [List.getElem?_map, rng_get lo n i hi] at hd
    cases hd
    refine ⟨hi, fun x H' y => ?_⟩
    obtain ⟨e1, e2⟩ := y
    subst e1 e2
    exact ⟨Ex.refl _, [], ⟨rfl, rfl⟩, fun z hz => hz⟩
  · have : n ≤ i := by simpa [rng_length] using hl
    exact this
def iR1 (f : PF) : AF := fun δ N => ⟨(f δ N).ok ∧ IsI (f δ N).val ∧ -(2 ^ 62) ≤ toI (f δ N).val ∧ toI (f δ N).val < 2 ^ 62, (rng 0 (toI (f δ N).val).toNat).map D.int⟩
def iR2 (f g : PF) : AF := fun δ N => ⟨(f δ N).ok ∧ (g δ N).ok ∧ IsI (f δ N).val ∧ IsI (g δ N).val ∧ (-(2 ^ 62) ≤ toI (f δ N).val ∧ toI (f δ N).val < 2 ^ 62 ∧ -(2 ^ 62) ≤ toI (g δ N).val ∧ toI (g δ N).val < 2 ^ 62), (rng (toI (f δ N).val) (toI (g δ N).val - toI (f δ N).val).toNat).map D.int⟩
theorem di_range1 {a : Expr} {f : PF} (hg : Gl X "range") (hm : X.mg "range" = none) (ha : DP X c1 a f) (hs : starEach [a] X.env = (false, eval a X.env) :: starEach [] X.env := by rfl) (hs' : starEach [a] X.env = [(false, eval a X.env)] := by rfl) : DI X c tg (.Call (.Name "range" p) [a] [] pos) (iR1 f) := by
  refine pi_imp (pi_range1 hg hm (pa_cons ha pa_nil hs) hs') fun σ H R h => ?_
  obtain ⟨δ, N, F, hS, hn, ⟨o1, o2, o3, o4⟩, q⟩ := h
  refine ⟨δ, N, F, hS, hn, o1, fun v H1 fp e1 r1 k1 => ⟨_, by rw [r1.int_ o2], o3, o4, ?_⟩⟩
  exact q _ H1 [] e1 (fun _ z => by cases z) Cl.nil walk_rng
theorem di_range2 {a b : Expr} {f g : PF} (hg : Gl X "range") (hm : X.mg "range" = none) (ha : DP X c1 a f) (hb : DP X c2 b g) (hs : starEach [a, b] X.env = (false, eval a X.env) :: starEach [b] X.env := by rfl) (hs2 : starEach [b] X.env = (false, eval b X.env) :: starEach [] X.env := by rfl)
    (h1 : starEach [a, b] X.env = [(false, eval a X.env), (false, eval b X.env)] := by rfl) (h2 : starEach [b] X.env = [(false, eval b X.env)] := by rfl) : DI X c tg (.Call (.Name "range" p) [a, b] [] pos) (iR2 f g) := by
  refine pi_imp (pi_range2 hg hm (pa_cons ha (pa_cons hb pa_nil hs2) hs) h1 h2) fun σ H R h => ?_
  obtain ⟨δ, N, F, hS, hn, ⟨o1, o2, o3, o4, o5⟩, q⟩ := h
  refine ⟨δ, N, F, hS, hn, o1, fun v H1 fp e1 r1 k1 => ⟨δ, N, F, hS.ex e1, hn.ex e1, o2, fun w H2 fp2 e2 r2 k2 => ⟨_, _, by rw [r1.int_ o3, r2.int_ o4], o5, ?_⟩⟩⟩
  exact q _ H2 [] (e1.trans e2) (fun _ z => by cases z) Cl.nil walk_rng

/-! ### targets -/
structure GV where
  ok : Prop
  loc : Loc
abbrev GF := D → Loc → GV
/-- what a target does with a datum; sl: the slots that it sets -/
def tG (sl : List Nat) (G : GF) : TG := fun v σ H Q => ∃ δ F d fp, SRep F H σ δ ∧ Rp H d v fp ∧ (∀ p ∈ fp, F p) ∧ (G d δ).ok ∧ ∀ σ', SRep F H σ' (G d δ).loc → σ'.length = σ.length → (∀ i, i ∉ sl → σ'[i]? = σ[i]?) → Q σ' H
abbrev DG (X : Cx) (tg : Expr) (sl : List Nat) (G : GF) : Prop := PG X tg (tG sl G)
theorem pg_imp {X : Cx} {tg : Expr} {t t' : TG} (h : PG X tg t) (k : ∀ v σ H Q, t' v σ H Q → t v σ H Q) : PG X tg t' := ⟨fun pins s σ H v u Q I r q => h.run pins s σ H v u Q I r (k v σ H Q q)⟩
def gN (i : Nat) : GF := fun d δ => ⟨i < δ.length, δ.set i (some d)⟩
theorem SRep.set {F : Addr → Prop} {H : Hp} {σ : St} {δ : Loc} {i : Nat} {d : D} {v : V} {fp : List Addr} (h : SRep F H σ δ) (r : Rp H d v fp) (hf : ∀ p ∈ fp, F p) : SRep F H (σ.set i (some v)) (δ.set i (some d)) :=
  ⟨by simp [h.len], h.fr, fun j e q => by
    by_cases hj : i = j
    · subst hj
      have hi : i < δ.length := by
        have := (List.getElem?_eq_some_iff.mp q).1
        simpa using this
      rw [List.getElem?_set_self hi] at q
      cases q
      exact ⟨v, fp, by rw [List.getElem?_set_self (by rw [← h.len]; exact hi)], r, hf⟩
    · rw [List.getElem?_set_ne hj] at q
      obtain ⟨u, f, h1, h2, h3⟩ := h.at_ j e q
      exact ⟨u, f, by rw [List.getElem?_set_ne hj]; exact h1, h2, h3⟩⟩
theorem dg_name {i : Nat} {x : Str} (hN : X.N.Nodup) (hi : X.N[i]? = some x) (hx : L2.Loc X.env.scope x) (hf : X.fn x = true ∨ X.env.scope.names.lookup x = some .local := by first | exact .inl rfl | exact .inr rfl | assumption) : DG X (.Name x pos) [i] (gN i) := by
  refine pg_imp (pg_name hN hi hx hf) fun v σ H Q h => ?_
  obtain ⟨δ, F, d, fp, hs, r, hF, ok, q⟩ := h
  exact q _ (hs.set r hF) (by simp) fun j hj => by rw [List.getElem?_set_ne (fun z => hj (by simp [z]))]
end
end DL
set_option maxHeartbeats 4000000
/-! The data layer, 6: targets of several names, comprehensions, attributes, calls of pure defs. -/
namespace DL
open PySem L2
section
variable {X : Cx} {c c1 c2 c3 : Cl} {pos p : Pos} {tg : Expr}
abbrev GFs := List D → Loc → GV
def tGs (sl : List Nat) (G : GFs) : TGs := fun vs σ H Q => ∃ δ F ds fp, SRep F H σ δ ∧ RpL H ds vs fp ∧ (∀ p ∈ fp, F p) ∧ (G ds δ).ok ∧ ∀ σ', SRep F H σ' (G ds δ).loc → σ'.length = σ.length → (∀ i, i ∉ sl → σ'[i]? = σ[i]?) → Q σ' H
abbrev DGs (X : Cx) (tgs : List Expr) (sl : List Nat) (G : GFs) : Prop := PGs X tgs (tGs sl G)
theorem pgs_imp {X : Cx} {tg : List Expr} {t t' : TGs} (h : PGs X tg t) (k : ∀ v σ H Q, t' v σ H Q → t v σ H Q) : PGs X tg t' := ⟨fun pins s σ H v u Q I r q => h.run pins s σ H v u Q I r (k v σ H Q q)⟩
def gNl : GFs := fun ds δ => ⟨ds = [], δ⟩
def gC (G : GF) (Gs : GFs) : GFs := fun ds δ => match ds with
  | [] => ⟨False, δ⟩
  | d :: dr => ⟨(G d δ).ok ∧ (Gs dr (G d δ).loc).ok, (Gs dr (G d δ).loc).loc⟩
theorem dgs_nil : DGs X [] [] gNl := by
  refine pgs_imp pgs_nil fun vs σ H Q h => ?_
  obtain ⟨δ, F, ds, fp, hs, r, hF, ok, q⟩ := h
  have ok : ds = [] := ok
  subst ok
  exact ⟨r.1, q σ hs rfl fun _ _ => rfl⟩
theorem dgs_cons {e : Expr} {es : List Expr} {sl sl' : List Nat} {G : GF} {Gs : GFs} (h : DG X e sl G) (k : DGs X es sl' Gs) (hs : (assignEach (e :: es) X.env).map (·.2) = assign e X.env :: (assignEach es X.env).map (·.2) := by rfl) : DGs X (e :: es) (sl ++ sl') (gC G Gs) := by
  refine pgs_imp (pgs_cons h k hs) fun vs σ H Q h => ?_
  obtain ⟨δ, F, ds, fp, hs, r, hF, ok, q⟩ := h
  cases ds with
  | nil => exact ok.elim
  | cons d dr =>
    obtain ⟨v, vr, f, g, rfl, h1, h2, rfl⟩ := r
    refine ⟨v, vr, rfl, δ, F, d, f, hs, h1, fun p hp => hF p (by simp [hp]), ok.1, fun σ' hs' hl ks => ?_⟩
    refine ⟨_, F, dr, g, hs', h2, fun p hp => hF p (by simp [hp]), ok.2, fun σ2 hs2 hl2 ks2 => q σ2 hs2 (hl2.trans hl) fun i hi => ?_⟩
    rw [ks2 i fun z => hi (by simp [z]), ks i fun z => hi (by simp [z])]
def gT (n : Nat) (Gs : GFs) : GF := fun d δ => ⟨IsU d ∧ (toL d).length = n ∧ (Gs (toL d) δ).ok, (Gs (toL d) δ).loc⟩
theorem dg_tup {es : List Expr} {k : Nat} {sl : List Nat} {Gs : GFs} {n : Nat} (hc : X.calm = true) (h : DGs X es sl Gs) (hn : (assignEach es X.env).length = n := by rfl) (hst : (assignEach es X.env).findIdx? (·.1) = none := by rfl) :
    DG X (.Tuple es k pos) sl (gT n Gs) := by
  refine pg_imp (pg_tup hc h hn hst) fun v σ H Q h => ?_
  obtain ⟨δ, F, d, fp, hs, r, hF, ok, q⟩ := h
  obtain ⟨p, vs, rfl, hp, rl⟩ := r.tup_ ok.1
  exact ⟨p, vs, rfl, SqT.of hp, by rw [← rl.length]; exact ok.2.1, δ, F, _, fp, hs, rl, hF, ok.2.2, q⟩

/-! ### comprehensions -/
def wipeD (δ : Loc) : List Nat → Loc
  | [] => δ
  | v :: vs => (wipeD δ vs).set v none
theorem wipeD_length (δ : Loc) : ∀ vs, (wipeD δ vs).length = δ.length
  | [] => rfl
  | v :: vs => by unfold wipeD; rw [List.length_set, wipeD_length δ vs]
theorem wipeD_out {δ : Loc} {i : Nat} {d : D} : ∀ {vs : List Nat}, (wipeD δ vs)[i]? = some (some d) → δ[i]? = some (some d) ∧ i ∉ vs
  | [], h => ⟨h, by simp⟩
  | v :: vs, h => by
    unfold wipeD at h
    by_cases hi : v = i
    · subst hi
      by_cases hv : v < (wipeD δ vs).length
      · rw [List.getElem?_set_self hv] at h; cases h
      · rw [List.getElem?_eq_none (by simpa using hv)] at h; cases h
    · rw [List.getElem?_set_ne hi] at h
      obtain ⟨h1, h2⟩ := wipeD_out h
      exact ⟨h1, by simp only [List.mem_cons, not_or]; exact ⟨fun e => hi e.symm, h2⟩⟩
theorem SRep.wipe {F : Addr → Prop} {H : Hp} {σ : St} {δ : Loc} (h : SRep F H σ δ) (vs : List Nat) : SRep F H (L2.wipe σ vs) (wipeD δ vs) :=
  ⟨by rw [wipeD_length, wipe_length]; exact h.len, h.fr, fun i d q => by
    obtain ⟨q1, q2⟩ := wipeD_out q
    obtain ⟨v, fp, h1, h2, h3⟩ := h.at_ i d q1
    exact ⟨v, fp, by rw [wipe_out q2]; exact h1, h2, h3⟩⟩
theorem wipe_get (σ : St) (i : Nat) : ∀ vs : List Nat, (wipe σ vs)[i]? = if i ∈ vs then (if i < σ.length then some none else none) else σ[i]?
  | [] => by simp [wipe]
  | v :: vs => by
    unfold wipe
    by_cases hi : v = i
    · subst hi
      by_cases hv : v < σ.length
      · rw [List.getElem?_set_self (by rw [wipe_length]; exact hv)]; simp [hv]
      · rw [List.getElem?_eq_none (by rw [List.length_set, wipe_length]; omega)]; simp [hv]
    · rw [List.getElem?_set_ne hi, wipe_get σ i vs]
      have hne : i ≠ v := fun z => hi z.symm
      by_cases hm : i ∈ vs
      · rw [if_pos hm, if_pos (List.mem_cons_of_mem _ hm)]
      · rw [if_neg hm, if_neg (by simp [hne, hm])]
theorem wipe_eq {σ σ' : St} {sl vs : List Nat} (hl : σ'.length = σ.length) (h : ∀ i, i ∉ sl → σ'[i]? = σ[i]?) (hs : ∀ i ∈ sl, i ∈ vs) : wipe σ' vs = wipe σ vs := by
  apply List.ext_getElem?
  intro i
  rw [wipe_get, wipe_get, hl]
  by_cases hi : i ∈ vs
  · rw [if_pos hi, if_pos hi]
  · rw [if_neg hi, if_neg hi, h i fun z => hi (hs i z)]
theorem wipe_wipe (σ : St) (vs : List Nat) : wipe (wipe σ vs) vs = wipe σ vs := by
  apply List.ext_getElem?
  intro i
  rw [wipe_get, wipe_get, wipe_length]
  by_cases hi : i ∈ vs
  · rw [if_pos hi, if_pos hi]
  · rw [if_neg hi, if_neg hi]

def lcRes (G : GF) (ft : TF) (fe : PF) (δ0 : Loc) (N : Nm) (items : List D) : List D := (items.filter fun d => (ft (G d δ0).loc N).b).map fun d => (fe (G d δ0).loc N).val
def pLc (fi : AF) (G : GF) (ft : TF) (fe : PF) (vs : List Nat) : PF := fun δ N =>
  ⟨(fi δ N).ok ∧ (fi δ N).vals.length ≤ SZ ∧ ∀ d ∈ (fi δ N).vals, (G d (wipeD δ vs)).ok ∧ (ft (G d (wipeD δ vs)).loc N).ok ∧ ((ft (G d (wipeD δ vs)).loc N).b = true → (fe (G d (wipeD δ vs)).loc N).ok), .lst (lcRes G ft fe (wipeD δ vs) N (fi δ N).vals)⟩
def pLcF (fi : AF) (G : GF) (ft : TF) (fe : PF) (vs : List Nat) : PF := fun δ N =>
  ⟨(pLc fi G ft fe vs δ N).ok ∧ lfs (lcRes G ft fe (wipeD δ vs) N (fi δ N).vals), .lst (lcRes G ft fe (wipeD δ vs) N (fi δ N).vals)⟩
theorem lcRes_nil {G : GF} {ft : TF} {fe : PF} {δ0 : Loc} {N : Nm} : lcRes G ft fe δ0 N [] = [] := rfl
theorem lcRes_snoc {G : GF} {ft : TF} {fe : PF} {δ0 : Loc} {N : Nm} {xs : List D} {d : D} : lcRes G ft fe δ0 N (xs ++ [d]) = lcRes G ft fe δ0 N xs ++ (if (ft (G d δ0).loc N).b = true then [(fe (G d δ0).loc N).val] else []) := by
  unfold lcRes
  rw [List.filter_append, List.map_append]
  congr 1
  cases e : (ft (G d δ0).loc N).b <;> simp [e]
theorem lcRes_length {G : GF} {ft : TF} {fe : PF} {δ0 : Loc} {N : Nm} {xs : List D} : (lcRes G ft fe δ0 N xs).length ≤ xs.length := by
  unfold lcRes; rw [List.length_map]; exact List.length_filter_le _ _
theorem take_snoc {α : Type} {xs : List α} {i : Nat} {d : α} (h : xs[i]? = some d) : xs.take (i + 1) = xs.take i ++ [d] := by
  obtain ⟨hi, e⟩ := List.getElem?_eq_some_iff.mp h
  rw [List.take_succ, h]; rfl
/-- the heart: the new list at D, its items' cells: of frozen ones, the source's, or new; each once and new where the elements are -/
theorem lc_rd {vs0 : List Nat} {cs ce : Cl} {fi : AF} {sl : List Nat} {G : GF} {ft : TF} {fe : PF} (hsl : ∀ i ∈ sl, i ∈ vs0) (hce : ce = .cln ∨ ce = .frs) (σ : St) (H : Hp) (Q : VK)
    (h : ∃ δ N F, SRep F H σ δ ∧ NRep N H ∧ (pLc fi G ft fe vs0 δ N).ok ∧
      ∀ D H1 H2 vs fp fs, Ex H H1 → Ex H1 H2 → H1 D = none → H2 D = some (.lst vs) → RpL H2 (lcRes G ft fe (wipeD δ vs0) N (fi δ N).vals) vs fp → D ∉ fp → cs.ok F H fs → (ce = .frs → fp.Nodup ∧ ∀ p ∈ fp, H p = none) → (∀ p ∈ fp, F p ∨ p ∈ fs ∨ H p = none) → Q (.ref D) H2) :
    tLc (tI cs fi) (tG sl G) (tT ft) (tP ce fe) vs0 σ H Q := by
  obtain ⟨δ, N, F, hS, hn, ⟨o1, o2, o3⟩, q⟩ := h
  refine ⟨δ, N, F, hS, hn, o1, fun J H1 fs e1 tr k1 wk => ?_⟩
  intro D hD
  -- what is known of a turn
  generalize hit : (fi δ N).vals = items at *
  generalize hδ0 : wipeD δ vs0 = δ0 at *
  have F'ex : ∀ p, (F p ∨ p ∈ fs) → ∃ o, H1 p = some o := fun p hp => hp.elim (fun z => let ⟨o, ho⟩ := hS.fr p z; ⟨o, e1 p o ho⟩) fun z => let ⟨o, ho, _⟩ := tr p z; ⟨o, ho⟩
  refine ⟨fun i m H3 => m = items.length - i ∧ i ≤ items.length ∧ ∃ vs fp, H3 D = some (.lst vs) ∧ Ex H1 H3 ∧ RpL H3 (lcRes G ft fe δ0 N (items.take i)) vs fp ∧ D ∉ fp ∧ (ce = .frs → fp.Nodup ∧ ∀ p ∈ fp, H p = none) ∧ (∀ p ∈ fp, F p ∨ p ∈ fs ∨ H p = none),
    ⟨items.length, by simp, Nat.zero_le _, [], [], upd_same, Ex.new hD, RpL.nil, by simp, fun _ => ⟨List.nodup_nil, by simp⟩, by simp⟩, ?_⟩
  rintro i m H3 ⟨rfl, hi', vs, fp, hD3, e3, rl, nD, kf, kc⟩
  have kp3 : Kp H1 H3 fs := Kp.ex e3 fun p hp => let ⟨o, ho, _⟩ := tr p hp; ⟨o, ho⟩
  obtain ⟨wgo, wstop⟩ := wk i H3 kp3
  by_cases hlt : i < items.length
  · obtain ⟨d, hd⟩ : ∃ d, items[i]? = some d := ⟨items[i], by simp [hlt]⟩
    obtain ⟨go, yl⟩ := wgo d hd
    have dm : d ∈ items := List.mem_of_getElem? hd
    obtain ⟨og, ot, oe⟩ := o3 d dm
    refine .inr ⟨go, fun H' => ∃ vs fp, H' D = some (.lst vs) ∧ Ex H1 H' ∧ RpL H' (lcRes G ft fe δ0 N (items.take (i + 1))) vs fp ∧ D ∉ fp ∧ (ce = .frs → fp.Nodup ∧ ∀ p ∈ fp, H p = none) ∧ (∀ p ∈ fp, F p ∨ p ∈ fs ∨ H p = none),
      fun H' hh => ⟨items.length - (i + 1), by omega, rfl, hlt, hh⟩, fun x H' y => ?_⟩
    obtain ⟨e4, f, rx, fsub⟩ := yl x H' y
    have S0 : SRep (fun p => F p ∨ p ∈ fs) H' (wipe σ vs0) δ0 := by
      rw [← hδ0]
      exact ((SRep.mk hS.len (fun p hp => let ⟨o, ho⟩ := F'ex p hp; ⟨o, e4 p o (e3 p o ho)⟩) (fun i d q => let ⟨v, fp, h1, h2, h3⟩ := hS.at_ i d q; ⟨v, fp, h1, h2.ex ((e1.trans e3).trans e4), fun p hp => .inl (h3 p hp)⟩)).wipe _)
    refine ⟨δ0, _, d, f, S0, rx, fun p hp => .inr (fsub p hp), og, fun σ2 S2 hl2 ks => ⟨?_, ?_⟩⟩
    · rw [wipe_eq hl2 ks hsl, wipe_wipe]
    refine ⟨_, N, _, S2, ((hn.ex e1).ex e3).ex e4, ot, fun H5 e5 => ?_⟩
    have hD5 : H5 D = some (.lst vs) := e5 D _ (e4 D _ hD3)
    have E5 : Ex H1 H5 := (e3.trans e4).trans e5
    cases eb : (ft (G d δ0).loc N).b with
    | false =>
      refine (if_neg Bool.false_ne_true).mpr ⟨vs, fp, hD5, E5, ?_, nD, kf, kc⟩
      rw [take_snoc hd, lcRes_snoc, eb, if_neg Bool.false_ne_true, List.append_nil]
      exact (rl.ex e4).ex e5
    | true =>
      refine (if_pos rfl).mpr ?_
      refine ⟨_, N, _, S2.ex e5, (((hn.ex e1).ex e3).ex e4).ex e5, oe eb, fun y H6 fy e6 ry ky => ?_⟩
      have hD6 : H6 D = some (.lst vs) := e6 D _ hD5
      have rl6 := ((rl.ex e4).ex e5).ex e6
      have hlen : vs.length ≤ i := by
        rw [← rl.length]
        exact Nat.le_trans lcRes_length (by rw [List.length_take]; exact Nat.min_le_left _ _)
      refine ⟨vs, hD6, Nat.lt_of_lt_of_le (Nat.lt_of_le_of_lt hlen hlt) (sz o2), vs ++ [y], fp ++ fy, upd_same, fun p o hp => ?_, ?_, ?_, ?_, ?_⟩
      · have pD : p ≠ D := fun z => by rw [z, hD] at hp; cases hp
        rw [upd_ne pD]; exact (E5.trans e6) p o hp
      · have nDy : D ∉ fy := fun z => by
          rcases hce with rfl | rfl
          · rcases ky D z with (a | a) | a
            · obtain ⟨o, ho⟩ := F'ex D (.inl a); rw [hD] at ho; cases ho
            · obtain ⟨o, ho⟩ := F'ex D (.inr a); rw [hD] at ho; cases ho
            · rw [hD5] at a; cases a
          · have := ky.2 D z
            rw [hD5] at this; cases this
        rw [take_snoc hd, lcRes_snoc, eb, if_pos rfl]
        exact RpL.append (RpL.keep (fun p vs' q => by rw [upd_ne (fun z => by rw [z, hD6] at q; cases q)]; exact q) _ _ _ rl6 fun p hp => upd_ne fun z => nD (z ▸ hp))
          (RpL.one (Rp.keep (fun p vs' q => by rw [upd_ne (fun z => by rw [z, hD6] at q; cases q)]; exact q) _ _ _ ry fun p hp => upd_ne fun z => nDy (z ▸ hp)))
      · intro z
        rcases List.mem_append.mp z with z | z
        · exact nD z
        · rcases hce with rfl | rfl
          · rcases ky D z with (a | a) | a
            · obtain ⟨o, ho⟩ := F'ex D (.inl a); rw [hD] at ho; cases ho
            · obtain ⟨o, ho⟩ := F'ex D (.inr a); rw [hD] at ho; cases ho
            · rw [hD5] at a; cases a
          · have := ky.2 D z
            rw [hD5] at this; cases this
      · intro ef
        subst ef
        obtain ⟨k1, k2⟩ := kf rfl
        refine ⟨List.nodup_append.mpr ⟨k1, ky.1, fun a ha b hb z => ?_⟩, fun p hp => ?_⟩
        · subst z
          obtain ⟨o, ho, _⟩ := RpL.there _ _ _ ((rl.ex e4).ex e5) a ha
          rw [ky.2 a hb] at ho; cases ho
        · rcases List.mem_append.mp hp with hp | hp
          · exact k2 p hp
          · exact e1.free (E5.free (ky.2 p hp))
      · intro p hp
        rcases List.mem_append.mp hp with hp | hp
        · exact kc p hp
        · rcases hce with rfl | rfl
          · rcases ky p hp with (a | a) | a
            · exact .inl a
            · exact .inr (.inl a)
            · exact .inr (.inr (e1.free (E5.free a)))
          · exact .inr (.inr (e1.free (E5.free (ky.2 p hp))))
  · have ei : i = items.length := by omega
    subst ei
    rw [List.take_length] at rl
    exact .inl ⟨wstop (Nat.le_refl _), q D H1 H3 vs fp fs e1 e3 hD hD3 rl nD k1 kf kc⟩
section
variable {vs0 : List Nat} {cs ce : Cl} {fi : AF} {sl : List Nat} {G : GF} {ft : TF} {fe : PF}
/-- elements new: the list is one's own -/
theorem lcN_rd (hsl : ∀ i ∈ sl, i ∈ vs0) (σ : St) (H : Hp) (Q : VK) (h : tP c (pLc fi G ft fe vs0) σ H Q) : tLc (tI cs fi) (tG sl G) (tT ft) (tP .frs fe) vs0 σ H Q := by
  obtain ⟨δ, N, F, hS, hn, ok, q⟩ := h
  refine lc_rd hsl (.inr rfl) σ H Q ⟨δ, N, F, hS, hn, ok, fun D H1 H2 vs fp fs e1 e2 hD hD2 rl nD k kf kc => ?_⟩
  refine q _ H2 (D :: fp) (e1.trans e2) ⟨D, vs, fp, rfl, hD2, rl, rfl⟩ (Cl.frs_ ⟨List.nodup_cons.mpr ⟨nD, (kf rfl).1⟩, fun p hp => ?_⟩)
  rcases List.mem_cons.mp hp with rfl | hp
  · exact e1.free hD
  · exact (kf rfl).2 p hp
/-- elements of frozen cells, the source too: so is the list -/
theorem lcC_rd (hcs : cs ≠ .any) (hsl : ∀ i ∈ sl, i ∈ vs0) (σ : St) (H : Hp) (Q : VK) (h : tP .cln (pLc fi G ft fe vs0) σ H Q) : tLc (tI cs fi) (tG sl G) (tT ft) (tP .cln fe) vs0 σ H Q := by
  obtain ⟨δ, N, F, hS, hn, ok, q⟩ := h
  refine lc_rd hsl (.inl rfl) σ H Q ⟨δ, N, F, hS, hn, ok, fun D H1 H2 vs fp fs e1 e2 hD hD2 rl nD k kf kc => ?_⟩
  refine q _ H2 (D :: fp) (e1.trans e2) ⟨D, vs, fp, rfl, hD2, rl, rfl⟩ fun p hp => ?_
  rcases List.mem_cons.mp hp with rfl | hp
  · exact .inr (e1.free hD)
  · rcases kc p hp with z | z | z
    · exact .inl z
    · cases cs with
      | any => exact absurd rfl hcs
      | cln => exact k p z
      | frs => exact .inr (k.2 p z)
    · exact .inr z
theorem lcA_rd (hsl : ∀ i ∈ sl, i ∈ vs0) (σ : St) (H : Hp) (Q : VK) (h : tP .any (pLc fi G ft fe vs0) σ H Q) : tLc (tI cs fi) (tG sl G) (tT ft) (tP .cln fe) vs0 σ H Q := by
  obtain ⟨δ, N, F, hS, hn, ok, q⟩ := h
  exact lc_rd hsl (.inl rfl) σ H Q ⟨δ, N, F, hS, hn, ok, fun D H1 H2 vs fp fs e1 e2 hD hD2 rl nD k kf kc =>
    q _ H2 (D :: fp) (e1.trans e2) ⟨D, vs, fp, rfl, hD2, rl, rfl⟩ trivial⟩
/-- listless elements: the list is anyone's -/
theorem lcF_rd (hsl : ∀ i ∈ sl, i ∈ vs0) (σ : St) (H : Hp) (Q : VK) (h : tP c (pLcF fi G ft fe vs0) σ H Q) : tLc (tI cs fi) (tG sl G) (tT ft) (tP .cln fe) vs0 σ H Q := by
  obtain ⟨δ, N, F, hS, hn, ok, q⟩ := h
  refine lc_rd hsl (.inl rfl) σ H Q ⟨δ, N, F, hS, hn, ok.1, fun D H1 H2 vs fp fs e1 e2 hD hD2 rl nD k kf kc => ?_⟩
  have z := RpL.lf _ _ _ rl ok.2
  subst z
  exact q _ H2 [D] (e1.trans e2) ⟨D, vs, [], rfl, hD2, rl, rfl⟩ (Cl.frs_ ⟨by simp, fun p hp => by
    rcases List.mem_singleton.mp hp with rfl
    exact e1.free hD⟩)
variable {iter elt : Expr} {ifs : List Expr} {scope : Scope} {own : List (Str × Nat)}
theorem dp_lc (hc : X.calm = true) (hN : X.N.Nodup) (hi : DI X cs tg iter fi) (ok : BlkOk X.N X.env.scope scope own) (hsl : ∀ i ∈ sl, i ∈ own.map (·.2))
    (hg : ∀ (s : Shared) (H : Hp) (C : Addr) (cl : List (Str × Addr)) (fp : List Addr), DG (X.blk s H scope (compEnvC scope cl C X.env) fp) tg sl G)
    (ht : ∀ (s : Shared) (H : Hp) (C : Addr) (cl : List (Str × Addr)) (fp : List Addr), PTs (X.blk s H scope (compEnvC scope cl C X.env) fp) ifs (tT ft))
    (he : ∀ (s : Shared) (H : Hp) (C : Addr) (cl : List (Str × Addr)) (fp : List Addr), DP (X.blk s H scope (compEnvC scope cl C X.env) fp) .frs elt fe) (hs : ∀ x, foldedSetIterable iter X.env x = pure x := by intro _; rfl) :
    DP X c (.ListComp elt [⟨tg, iter, ifs, 0⟩] scope pos) (pLc fi G ft fe (own.map (·.2))) := pe_imp (pe_lc hc hN hi ok hg ht he hs) (lcN_rd hsl)
theorem dp_lcC (hcs : cs ≠ .any) (hc : X.calm = true) (hN : X.N.Nodup) (hi : DI X cs tg iter fi) (ok : BlkOk X.N X.env.scope scope own) (hsl : ∀ i ∈ sl, i ∈ own.map (·.2))
    (hg : ∀ (s : Shared) (H : Hp) (C : Addr) (cl : List (Str × Addr)) (fp : List Addr), DG (X.blk s H scope (compEnvC scope cl C X.env) fp) tg sl G)
    (ht : ∀ (s : Shared) (H : Hp) (C : Addr) (cl : List (Str × Addr)) (fp : List Addr), PTs (X.blk s H scope (compEnvC scope cl C X.env) fp) ifs (tT ft))
    (he : ∀ (s : Shared) (H : Hp) (C : Addr) (cl : List (Str × Addr)) (fp : List Addr), DP (X.blk s H scope (compEnvC scope cl C X.env) fp) .cln elt fe) (hs : ∀ x, foldedSetIterable iter X.env x = pure x := by intro _; rfl) :
    DP X .cln (.ListComp elt [⟨tg, iter, ifs, 0⟩] scope pos) (pLc fi G ft fe (own.map (·.2))) := pe_imp (pe_lc hc hN hi ok hg ht he hs) (lcC_rd hcs hsl)
theorem dp_lcA (hc : X.calm = true) (hN : X.N.Nodup) (hi : DI X cs tg iter fi) (ok : BlkOk X.N X.env.scope scope own) (hsl : ∀ i ∈ sl, i ∈ own.map (·.2))
    (hg : ∀ (s : Shared) (H : Hp) (C : Addr) (cl : List (Str × Addr)) (fp : List Addr), DG (X.blk s H scope (compEnvC scope cl C X.env) fp) tg sl G)
    (ht : ∀ (s : Shared) (H : Hp) (C : Addr) (cl : List (Str × Addr)) (fp : List Addr), PTs (X.blk s H scope (compEnvC scope cl C X.env) fp) ifs (tT ft))
    (he : ∀ (s : Shared) (H : Hp) (C : Addr) (cl : List (Str × Addr)) (fp : List Addr), DP (X.blk s H scope (compEnvC scope cl C X.env) fp) .cln elt fe) (hs : ∀ x, foldedSetIterable iter X.env x = pure x := by intro _; rfl) :
    DP X .any (.ListComp elt [⟨tg, iter, ifs, 0⟩] scope pos) (pLc fi G ft fe (own.map (·.2))) := pe_imp (pe_lc hc hN hi ok hg ht he hs) (lcA_rd hsl)
theorem dp_lcF (hc : X.calm = true) (hN : X.N.Nodup) (hi : DI X cs tg iter fi) (ok : BlkOk X.N X.env.scope scope own) (hsl : ∀ i ∈ sl, i ∈ own.map (·.2))
    (hg : ∀ (s : Shared) (H : Hp) (C : Addr) (cl : List (Str × Addr)) (fp : List Addr), DG (X.blk s H scope (compEnvC scope cl C X.env) fp) tg sl G)
    (ht : ∀ (s : Shared) (H : Hp) (C : Addr) (cl : List (Str × Addr)) (fp : List Addr), PTs (X.blk s H scope (compEnvC scope cl C X.env) fp) ifs (tT ft))
    (he : ∀ (s : Shared) (H : Hp) (C : Addr) (cl : List (Str × Addr)) (fp : List Addr), DP (X.blk s H scope (compEnvC scope cl C X.env) fp) .cln elt fe) (hs : ∀ x, foldedSetIterable iter X.env x = pure x := by intro _; rfl) :
    DP X c (.ListComp elt [⟨tg, iter, ifs, 0⟩] scope pos) (pLcF fi G ft fe (own.map (·.2))) := pe_imp (pe_lc hc hN hi ok hg ht he hs) (lcF_rd hsl)
end
def tYesF : TF := fun _ _ => ⟨True, true⟩
theorem dts_nil : PTs X [] (tT tYesF) := ⟨fun pins s σ H Q I h => by
  obtain ⟨δ, N, F, hs, hn, ok, q⟩ := h
  exact pts_nil.run pins s σ H Q I (q H (Ex.refl H))⟩
theorem dts_one {e : Expr} {f : TF} (h : DT X e f) : PTs X [e] (tT f) := pts_one h
end
end DL
set_option maxHeartbeats 4000000
/-! The data layer, 7: calls of pure defs; the state, impure expressions. -/
namespace DL
open PySem L2

/-! ### calls of one's own pure defs -/
/-- what a pure def promises: φ's condition and datum, all new; what stood stands -/
def spP (n : Nat) (φ : List D → Nm → PV) : Sp := fun vs H Q _ => ∃ ds N fps, RpL H ds vs fps ∧ NRep N H ∧ ds.length = n ∧ (φ ds N).ok ∧ ∀ v H' fp, Ex H H' → Rp H' (φ ds N).val v fp → Cl.frs.ok (fun _ => False) H fp → Q v H'
/-- a def of the module that keeps a promise -/
structure Has (P : Program) (w : World) (K : PySem.W.Frag) (mg : Str → Option Value) (base : Heap) (x : Str) (k : Nat) (ps : List Str) (sp : Sp) : Prop where
  ex : ∃ f fd, FnOk P w K mg base (L2.CX P w) k f fd ps sp ∧ mg x = some (.ref f) ∧ PySem.W.keepIn K (.ref f) = true ∧ Binds K fd ps []
abbrev HasX (X : Cx) (x : Str) (k : Nat) (ps : List Str) (sp : Sp) : Prop := Has X.prog X.w X.K X.mg X.base x k ps sp
theorem Cl.frs_any {F F' : Addr → Prop} {H : Hp} {fp : List Addr} (h : Cl.frs.ok F H fp) : Cl.frs.ok F' H fp := h
section
variable {X : Cx} {c c1 c2 c3 : Cl} {pos p : Pos} {x : Str} {k n : Nat} {ps : List Str} {φ : List D → Nm → PV}
def pCall (n : Nat) (φ : List D → Nm → PV) (f : AF) : PF := fun δ N => ⟨(f δ N).ok ∧ (f δ N).vals.length = n ∧ (φ (f δ N).vals N).ok, (φ (f δ N).vals N).val⟩
theorem dp_call {e : Expr} {es : List Expr} {f : AF} (h : HasX X x k ps (spP n φ)) (hr : Room k X.A) (hg : Gl X x) (ha : DA X .any (e :: es) f) (hdb : (x == ("__debug__" : Str)) = false := by decide)
    (he : starEach (e :: es) X.env = (false, eval e X.env) :: starEach es X.env := by rfl) (hpl : (backTo pos (starEach es X.env)).any (·.1) = false := by rfl) : DP X c (.Call (.Name x p) (e :: es) [] pos) (pCall n φ f) := by
  obtain ⟨f', fd, F, hm, hk, hb⟩ := h.ex
  refine pe_imp (pe_call F hr hg hm hk hb .nil (passL) ha hdb he hpl) fun σ H Q h => ?_
  obtain ⟨δ, N, F, hs, hn, ⟨o1, o2, o3⟩, q⟩ := h
  refine ⟨δ, N, F, hs, hn, o1, fun vs H1 fp e1 r1 k1 => ?_⟩
  show spP n φ (vs ++ []) H1 Q E0
  rw [List.append_nil]
  exact ⟨_, N, fp, r1, hn.ex e1, o2, o3, fun v H' fq e2 r2 k2 => q v H' fq (e1.trans e2) r2 (Cl.frs_ ⟨k2.1, fun p hp => e1.free (k2.2 p hp)⟩)⟩
/-- what stands behind a reference -/
def drf (N : Nm) : D → D
  | .ref a => match N a with
    | some c => c.d
    | none => .ref a
  | d => d
def pDr (f : PF) : PF := fun δ N => ⟨(f δ N).ok, drf N (f δ N).val⟩
theorem dp_dr {e : Expr} {f : PF} (h : DP X c e f) : DP X .any e (pDr f) := by
  refine pe_imp h fun σ H Q h => ?_
  obtain ⟨δ, N, F, hs, hn, ok, q⟩ := h
  refine ⟨δ, N, F, hs, hn, ok, fun v H' fp e r k => ?_⟩
  cases hv : (f δ N).val with
  | ref a =>
    cases hN : N a with
    | none => exact q v H' fp e (by simp only [pDr, hv, drf, hN]; rw [hv] at r; exact r) trivial
    | some c =>
      obtain ⟨fq, hq, _⟩ := hn.ex e a c hN
      rw [hv] at r
      have ev : v = .ref a := r.1
      subst ev
      exact q _ H' fq e (by simp only [pDr, hv, drf, hN]; exact hq) trivial
  | _ => exact q v H' fp e (by simp only [pDr, hv, drf]; rw [hv] at r; exact r) trivial
end

/-! ### the state -/
structure Wf (N : Nm) (F P : Addr → Prop) (H : Hp) (fpm : Addr → List Addr) : Prop where
  cell : ∀ a c, N a = some c → Rp H c.d (.ref a) (fpm a) ∧ a ∈ fpm a
  own : ∀ a c, N a = some c → c.w = true → (fpm a).Nodup ∧ ∀ p ∈ fpm a, P p
  sep : ∀ a b c e, a ≠ b → N a = some c → c.w = true → N b = some e → ∀ p ∈ fpm a, p ∉ fpm b
  fr : ∀ p, F p → ¬ P p ∧ ∃ o, H p = some o
  pr : ∀ p, P p → ∃ o, H p = some o ∧ ∀ xs, o ≠ .tup xs
structure Tr (F P : Addr → Prop) (H : Hp) (F' P' : Addr → Prop) (H' : Hp) : Prop where
  fr : ∀ p, F p → F' p
  st : ∀ p o, H p = some o → ¬ P p → H' p = some o
  th : ∀ p o, H p = some o → ∃ o', H' p = some o'
  pw : ∀ p, P' p → P p ∨ H p = none
  fw : ∀ p, F' p → F p ∨ P p ∨ H p = none
theorem Tr.refl {F P : Addr → Prop} {H : Hp} : Tr F P H F P H := ⟨fun _ h => h, fun _ _ h _ => h, fun _ o h => ⟨o, h⟩, fun _ h => .inl h, fun _ h => .inl h⟩
theorem Tr.trans {F P F1 P1 F2 P2 : Addr → Prop} {H H1 H2 : Hp} (a : Tr F P H F1 P1 H1) (b : Tr F1 P1 H1 F2 P2 H2) : Tr F P H F2 P2 H2 := by
  have back : ∀ p, H1 p = none → H p = none := fun p h => by
    cases q : H p with
    | none => rfl
    | some o => obtain ⟨o', h'⟩ := a.th p o q; rw [h] at h'; cases h'
  refine ⟨fun p h => b.fr p (a.fr p h), fun p o h n => b.st p o (a.st p o h n) fun z => ?_, fun p o h => let ⟨o', h'⟩ := a.th p o h; b.th p o' h', fun p h => ?_, fun p h => ?_⟩
  · rcases a.pw p z with z | z
    · exact n z
    · rw [h] at z; cases z
  · rcases b.pw p h with z | z
    · exact a.pw p z
    · exact .inr (back p z)
  · rcases b.fw p h with z | z | z
    · exact a.fw p z
    · exact .inr (a.pw p z)
    · exact .inr (.inr (back p z))
structure Ok (δ : Loc) (N : Nm) (F P : Addr → Prop) (σ : St) (H : Hp) : Prop where
  wf : ∃ fpm, Wf N F P H fpm
  sr : SRep F H σ δ
theorem Ok.nr {δ : Loc} {N : Nm} {F P : Addr → Prop} {σ : St} {H : Hp} (o : Ok δ N F P σ H) : NRep N H := fun a c h => by
  obtain ⟨fpm, w⟩ := o.wf
  exact ⟨_, w.cell a c h⟩
theorem Ok.fr {δ : Loc} {N : Nm} {F P : Addr → Prop} {σ : St} {H : Hp} (o : Ok δ N F P σ H) : ∀ p, F p → ¬ P p ∧ ∃ o, H p = some o := let ⟨_, w⟩ := o.wf; w.fr
theorem Ok.pr {δ : Loc} {N : Nm} {F P : Addr → Prop} {σ : St} {H : Hp} (o : Ok δ N F P σ H) : ∀ p, P p → ∃ o, H p = some o ∧ ∀ xs, o ≠ .tup xs := let ⟨_, w⟩ := o.wf; w.pr
theorem Ok.keep {δ : Loc} {N : Nm} {F P F' P' : Addr → Prop} {σ : St} {H H' : Hp} (o : Ok δ N F P σ H) (t : Tr F P H F' P' H') {d : D} {v : V} {fp : List Addr} (r : Rp H d v fp) (h : ∀ p ∈ fp, F p) : Rp H' d v fp :=
  Rp.keep (fun p vs q => t.st p _ q fun z => by obtain ⟨ob, h1, h2⟩ := o.pr p z; rw [q] at h1; cases h1; exact h2 _ rfl) d v fp r fun p hp => by
    obtain ⟨n, ob, ho⟩ := o.fr p (h p hp)
    rw [ho, t.st p ob ho n]
theorem Ok.keepL {δ : Loc} {N : Nm} {F P F' P' : Addr → Prop} {σ : St} {H H' : Hp} (o : Ok δ N F P σ H) (t : Tr F P H F' P' H') {d : List D} {v : List V} {fp : List Addr} (r : RpL H d v fp) (h : ∀ p ∈ fp, F p) : RpL H' d v fp :=
  RpL.keep (fun p vs q => t.st p _ q fun z => by obtain ⟨ob, h1, h2⟩ := o.pr p z; rw [q] at h1; cases h1; exact h2 _ rfl) d v fp r fun p hp => by
    obtain ⟨n, ob, ho⟩ := o.fr p (h p hp)
    rw [ho, t.st p ob ho n]
theorem SRep.tr {δ δ1 : Loc} {N : Nm} {F P F' P' : Addr → Prop} {σ σ1 : St} {H H' : Hp} (o : Ok δ1 N F P σ1 H) (t : Tr F P H F' P' H') (s : SRep F H σ δ) (f' : ∀ p, F' p → ∃ ob, H' p = some ob) : SRep F' H' σ δ :=
  ⟨s.len, f', fun i d q => by
    obtain ⟨v, fp, h1, h2, h3⟩ := s.at_ i d q
    exact ⟨v, fp, h1, o.keep t h2 h3, fun p hp => t.fr p (h3 p hp)⟩⟩
/-- more is frozen, the heap grew -/
theorem Ok.grow {δ : Loc} {N : Nm} {F P : Addr → Prop} {σ : St} {H H' : Hp} (o : Ok δ N F P σ H) (e : Ex H H') (g : Addr → Prop) (hg : ∀ p, g p → (F p ∨ H p = none) ∧ ∃ ob, H' p = some ob) :
    Ok δ N (fun p => F p ∨ g p) P σ H' ∧ Tr F P H (fun p => F p ∨ g p) P H' := by
  obtain ⟨fpm, w⟩ := o.wf
  have notP : ∀ p, H p = none → ¬ P p := fun p h z => by obtain ⟨ob, h1, _⟩ := w.pr p z; rw [h] at h1; cases h1
  refine ⟨⟨⟨fpm, fun a c h => ⟨(w.cell a c h).1.ex e, (w.cell a c h).2⟩, w.own, w.sep, fun p h => ?_, fun p h => ?_⟩, ⟨o.sr.len, fun p h => ?_, fun i d q => ?_⟩⟩, ⟨fun p h => .inl h, fun p ob h _ => e p ob h, fun p ob h => ⟨ob, e p ob h⟩, fun p h => .inl h, fun p h => ?_⟩⟩
  · rcases h with h | h
    · obtain ⟨a, ob, b⟩ := w.fr p h
      exact ⟨a, ob, e p ob b⟩
    · obtain ⟨a, b⟩ := hg p h
      rcases a with a | a
      · exact ⟨(w.fr p a).1, b⟩
      · exact ⟨notP p a, b⟩
  · obtain ⟨ob, h1, h2⟩ := w.pr p h
    exact ⟨ob, e p ob h1, h2⟩
  · rcases h with h | h
    · obtain ⟨a, ob, b⟩ := w.fr p h
      exact ⟨ob, e p ob b⟩
    · exact (hg p h).2
  · obtain ⟨v, fp, h1, h2, h3⟩ := o.sr.at_ i d q
    exact ⟨v, fp, h1, h2.ex e, fun p hp => .inl (h3 p hp)⟩
  · rcases h with h | h
    · exact .inl h
    · rcases (hg p h).1 with a | a
      · exact .inl a
      · exact .inr (.inr a)
theorem Ok.ex {δ : Loc} {N : Nm} {F P : Addr → Prop} {σ : St} {H H' : Hp} (o : Ok δ N F P σ H) (e : Ex H H') : Ok δ N F P σ H' ∧ Tr F P H F P H' := by
  obtain ⟨a, b⟩ := o.grow e (fun _ => False) (fun _ h => h.elim)
  have : (fun p => F p ∨ False) = F := by funext p; simp
  rw [this] at a b
  exact ⟨a, b⟩

/-! ### impure expressions -/
/-- an exception: its class, its own datum -/
structure Exc where
  cls : Addr
  arg : Option (Str × Int)
abbrev ED := Exc → Nm → Prop
def ExR (H : Hp) (x : Exc) (cls : Value) (d : Option Addr) : Prop := cls = .ref x.cls ∧ match x.arg with
  | none => d = none
  | some (f, i) => ∃ a, d = some a ∧ H a = some (.xd [(f, .int i)])
/-- what is known of an exception is enough for what is wanted of it -/
def EC (E : XK) (E' : ED) (F P : Addr → Prop) (H : Hp) : Prop := ∀ x cls dd H' F' P' N', Tr F P H F' P' H' → (∃ fpm, Wf N' F' P' H' fpm) → ExR H' x cls dd → E' x N' → E cls dd H'
theorem EC.tr {E : XK} {E' : ED} {F P F1 P1 : Addr → Prop} {H H1 : Hp} (h : EC E E' F P H) (t : Tr F P H F1 P1 H1) : EC E E' F1 P1 H1 := fun x cls dd H' F' P' N' t' w r e => h x cls dd H' F' P' N' (t.trans t') w r e
abbrev E9 : ED := fun _ _ => False
theorem EC.no {E : XK} {F P : Addr → Prop} {H : Hp} : EC E E9 F P H := fun _ _ _ _ _ _ _ _ _ _ e => e.elim
abbrev WE := Loc → Nm → (D → Nm → Prop) → ED → Prop
abbrev WT := Loc → Nm → (Bool → Nm → Prop) → ED → Prop
abbrev WA := Loc → Nm → (List D → Nm → Prop) → ED → Prop
def tDE (E : XK) (w : WE) : TE := fun σ H Q => ∃ δ N F P Q' E', Ok δ N F P σ H ∧ w δ N Q' E' ∧ (∀ v H' F' P' d N' fp, Tr F P H F' P' H' → Ok δ N' F' P' σ H' → Rp H' d v fp → (∀ p ∈ fp, F' p) → Q' d N' → Q v H') ∧ EC E E' F P H
def tDT (E : XK) (w : WT) : TT := fun σ H Q => ∃ δ N F P Q' E', Ok δ N F P σ H ∧ w δ N Q' E' ∧ (∀ b H' F' P' N', Tr F P H F' P' H' → Ok δ N' F' P' σ H' → Q' b N' → Q b H') ∧ EC E E' F P H
def tDA (E : XK) (w : WA) : TA := fun σ H Q => ∃ δ N F P Q' E', Ok δ N F P σ H ∧ w δ N Q' E' ∧ (∀ vs H' F' P' ds N' fp, Tr F P H F' P' H' → Ok δ N' F' P' σ H' → RpL H' ds vs fp → (∀ p ∈ fp, F' p) → Q' ds N' → Q vs H') ∧ EC E E' F P H
abbrev DE (X : Cx) (E : XK) (e : Expr) (w : WE) : Prop := PE X e (tDE E w)
abbrev DTE (X : Cx) (E : XK) (e : Expr) (w : WT) : Prop := PT X e (tDT E w)
abbrev DAE (X : Cx) (E : XK) (es : List Expr) (w : WA) : Prop := PA X es (tDA E w)
section
variable {X : Cx} {E : XK} {c c1 c2 c3 : Cl} {pos p : Pos} {x : Str}
def wP (f : PF) : WE := fun δ N Q _ => (f δ N).ok ∧ Q (f δ N).val N
def wT (f : TF) : WT := fun δ N Q _ => (f δ N).ok ∧ Q (f δ N).b N
def wA (f : AF) : WA := fun δ N Q _ => (f δ N).ok ∧ Q (f δ N).vals N
theorem cln_grow {δ : Loc} {N : Nm} {F P : Addr → Prop} {σ : St} {H H' : Hp} {fp : List Addr} (o : Ok δ N F P σ H) (e : Ex H H') (k : Cl.cln.ok F H fp) (t : ∀ p ∈ fp, ∃ ob, H' p = some ob ∧ ∀ xs, ob ≠ .tup xs) :
    Ok δ N (fun p => F p ∨ p ∈ fp) P σ H' ∧ Tr F P H (fun p => F p ∨ p ∈ fp) P H' := o.grow e (fun p => p ∈ fp) fun p hp => ⟨k p hp, let ⟨ob, h, _⟩ := t p hp; ⟨ob, h⟩⟩
theorem de_p {e : Expr} {f : PF} (h : DP X .cln e f) : DE X E e (wP f) := by
  refine pe_imp h fun σ H Q h => ?_
  obtain ⟨δ, N, F, P, Q', E', o, ⟨ok, q'⟩, q, qe⟩ := h
  refine ⟨δ, N, F, o.sr, o.nr, ok, fun v H' fp e r k => ?_⟩
  obtain ⟨o2, t⟩ := cln_grow o e k (Rp.there _ _ _ r)
  exact q v H' _ P _ N fp t o2 r (fun p hp => .inr hp) q'
theorem dte_t {e : Expr} {f : TF} (h : DT X e f) : DTE X E e (wT f) := by
  refine pt_imp h fun σ H Q h => ?_
  obtain ⟨δ, N, F, P, Q', E', o, ⟨ok, q'⟩, q, qe⟩ := h
  refine ⟨δ, N, F, o.sr, o.nr, ok, fun H' e => ?_⟩
  obtain ⟨o2, t⟩ := o.ex e
  exact q _ H' F P N t o2 q'
def wANil : WA := fun _ N Q _ => Q [] N
def wACons (w : WE) (u : WA) : WA := fun δ N Q E => w δ N (fun d N1 => u δ N1 (fun ds N2 => Q (d :: ds) N2) E) E
theorem dae_nil : DAE X E [] wANil := by
  refine pa_imp pa_nil fun σ H Q h => ?_
  obtain ⟨δ, N, F, P, Q', E', o, q', q, qe⟩ := h
  exact q [] H F P [] N [] Tr.refl o RpL.nil (by simp) q'
theorem dae_cons {e : Expr} {es : List Expr} {w : WE} {u : WA} (h : DE X E e w) (k : DAE X E es u) (hs : starEach (e :: es) X.env = (false, eval e X.env) :: starEach es X.env := by rfl) : DAE X E (e :: es) (wACons w u) := by
  refine pa_imp (pa_cons h k hs) fun σ H Q h => ?_
  obtain ⟨δ, N, F, P, Q', E', o, q', q, qe⟩ := h
  refine ⟨δ, N, F, P, _, E', o, q', fun v H1 F1 P1 d N1 fp t1 o1 r1 k1 q1 => ⟨δ, N1, F1, P1, _, E', o1, q1, fun vs H2 F2 P2 ds N2 fq t2 o2 r2 k2 q2 => ?_, qe.tr t1⟩, qe⟩
  exact q _ H2 F2 P2 _ N2 (fp ++ fq) (t1.trans t2) o2 (RpL.cons (o1.keep t2 r1 k1) r2) (fun p hp => (List.mem_append.mp hp).elim (fun z => t2.fr p (k1 p z)) (k2 p)) q2
theorem dae_a {es : List Expr} {f : AF} (h : DA X .cln es f) : DAE X E es (wA f) := by
  refine pa_imp h fun σ H Q h => ?_
  obtain ⟨δ, N, F, P, Q', E', o, ⟨ok, q'⟩, q, qe⟩ := h
  refine ⟨δ, N, F, o.sr, o.nr, ok, fun v H' fp e r k => ?_⟩
  obtain ⟨o2, t⟩ := cln_grow o e k (RpL.there _ _ _ r)
  exact q v H' _ P _ N fp t o2 r (fun p hp => .inr hp) q'
/-- two values, then an operation upon them -/
def w2 (h : D → D → PV) (w u : WE) : WE := fun δ N Q E => w δ N (fun x N1 => u δ N1 (fun y N2 => (h x y).ok ∧ Q (h x y).val N2) E) E
/-- what an operation of values does -/
def OpD (r : R2) (h : D → D → PV) : Prop := ∀ (F : Addr → Prop) (H : Hp) (x y : D) (v w : V) (fa fb : List Addr) (Q : VK), Rp H x v fa → Rp H y w fb → (∀ p ∈ fa, F p) → (∀ p ∈ fb, F p) → (h x y).ok →
  (∀ u H' fp, Ex H H' → Rp H' (h x y).val u fp → Cl.cln.ok F H fp → Q u H') → r v w H Q
theorem de_bin {a b : Expr} {op : Operator} {r : R2} {h : D → D → PV} {w u : WE} (ho : OpR X (binaryOp op) r) (hd : OpD r h) (ha : DE X E a w) (hb : DE X E b u) : DE X E (.BinOp a op b pos) (w2 h w u) := by
  refine pe_imp (pe_op ho ha hb) fun σ H Q h => ?_
  obtain ⟨δ, N, F, P, Q', E', o, q', q, qe⟩ := h
  refine ⟨δ, N, F, P, _, E', o, q', fun v H1 F1 P1 d N1 fp t1 o1 r1 k1 q1 => ⟨δ, N1, F1, P1, _, E', o1, q1, fun v2 H2 F2 P2 d2 N2 fq t2 o2 r2 k2 q2 => ?_, qe.tr t1⟩, qe⟩
  refine hd F2 H2 d d2 v v2 fp fq Q (o1.keep t2 r1 k1) r2 (fun p hp => t2.fr p (k1 p hp)) k2 q2.1 fun z H3 fz e3 r3 k3 => ?_
  obtain ⟨o3, t3⟩ := cln_grow o2 e3 k3 (Rp.there _ _ _ r3)
  exact q z H3 _ _ _ N2 fz ((t1.trans t2).trans t3) o3 r3 (fun p hp => .inr hp) q2.2
theorem opd_int {C : Int → Int → Prop} {g : Int → Int → Int} : OpD (rI C fun i j => .int (g i j)) (bI C fun i j => .int (g i j)) :=
  fun F H x y v w fa fb Q rx ry _ _ ok q => ⟨toI x, toI y, rx.int_ ok.1, ry.int_ ok.2.1, ok.2.2, q _ H [] (Ex.refl _) ⟨rfl, rfl⟩ Cl.nil⟩
theorem de_addI {a b : Expr} {w u : WE} (ha : DE X E a w) (hb : DE X E b u) : DE X E (.BinOp a .Add b pos) (w2 (bI (fun _ _ => True) fun i j => .int (i + j)) w u) := de_bin (rI_of op_add) opd_int ha hb
theorem de_sub {a b : Expr} {w u : WE} (ha : DE X E a w) (hb : DE X E b u) : DE X E (.BinOp a .Sub b pos) (w2 (bI (fun _ _ => True) fun i j => .int (i - j)) w u) := de_bin (rI_of op_sub) opd_int ha hb
theorem de_mul {a b : Expr} {w u : WE} (ha : DE X E a w) (hb : DE X E b u) : DE X E (.BinOp a .Mult b pos) (w2 (bI CMul fun i j => .int (i * j)) w u) := de_bin op_mul opd_int ha hb
theorem de_mod {a b : Expr} {w u : WE} (ha : DE X E a w) (hb : DE X E b u) : DE X E (.BinOp a .Mod b pos) (w2 (bI (fun _ j => 0 < j) fun i j => .int (i % j)) w u) := de_bin op_mod opd_int ha hb
/-- comparisons -/
def w2c (h : D → D → TV) (w u : WE) : WE := fun δ N Q E => w δ N (fun x N1 => u δ N1 (fun y N2 => (h x y).ok ∧ Q (.bl (h x y).b) N2) E) E
def w2t (h : D → D → TV) (w u : WE) : WT := fun δ N Q E => w δ N (fun x N1 => u δ N1 (fun y N2 => (h x y).ok ∧ Q (h x y).b N2) E) E
def CmpD (r : R2) (h : D → D → TV) : Prop := ∀ (H : Hp) (x y : D) (v w : V) (fa fb : List Addr) (Q : VK), Rp H x v fa → Rp H y w fb → (h x y).ok → Q (.bl (h x y).b) H → r v w H Q
theorem de_cmp {a b : Expr} {op : CmpOp} {r : R2} {h : D → D → TV} {w u : WE} (ho : OpR X (compareOp op) r) (hd : CmpD r h) (ha : DE X E a w) (hb : DE X E b u) (hm : behindInMarks op b = false) : DE X E (.Compare a [op] [b] pos) (w2c h w u) := by
  refine pe_imp (pe_cmpR ho ha hb hm) fun σ H Q hh => ?_
  obtain ⟨δ, N, F, P, Q', E', o, q', q, qe⟩ := hh
  refine ⟨δ, N, F, P, _, E', o, q', fun v H1 F1 P1 d N1 fp t1 o1 r1 k1 q1 => ⟨δ, N1, F1, P1, _, E', o1, q1, fun v2 H2 F2 P2 d2 N2 fq t2 o2 r2 k2 q2 => ?_, qe.tr t1⟩, qe⟩
  exact hd H2 d d2 v v2 fp fq Q (o1.keep t2 r1 k1) r2 q2.1 (q _ H2 F2 P2 (.bl (h d d2).b) N2 [] (t1.trans t2) o2 ⟨rfl, rfl⟩ (by simp) q2.2)
theorem dte_cmp {a b : Expr} {op : CmpOp} {r : R2} {h : D → D → TV} {w u : WE} (ho : OpR X (compareOp op) r) (hd : CmpD r h) (ha : DE X E a w) (hb : DE X E b u) (hm : behindInMarks op b = false) : DTE X E (.Compare a [op] [b] pos) (w2t h w u) := by
  refine pt_imp (pt_cmpR ho ha hb hm) fun σ H Q hh => ?_
  obtain ⟨δ, N, F, P, Q', E', o, q', q, qe⟩ := hh
  refine ⟨δ, N, F, P, _, E', o, q', fun v H1 F1 P1 d N1 fp t1 o1 r1 k1 q1 => ⟨δ, N1, F1, P1, _, E', o1, q1, fun v2 H2 F2 P2 d2 N2 fq t2 o2 r2 k2 q2 => ?_, qe.tr t1⟩, qe⟩
  exact hd H2 d d2 v v2 fp fq _ (o1.keep t2 r1 k1) r2 q2.1 ⟨_, rfl, q _ H2 F2 P2 N2 (t1.trans t2) o2 q2.2⟩
theorem cmpd_int {g : Int → Int → Bool} : CmpD (rI0 fun i j => .bl (g i j)) (cI g) := fun H x y v w fa fb Q rx ry ok q => ⟨_, _, rx.int_ ok.1, ry.int_ ok.2, q⟩
theorem cmpd_eq {K : PySem.W.Frag} : CmpD (rEqD K) (eqT 8) := fun H x y v w fa fb Q rx ry ok q => ⟨toPy x, toPy y, Rp.dp 8 _ _ _ rx ok.1, Rp.dp 8 _ _ _ ry ok.2, ok.1.shaped (by decide), ok.2.shaped (by decide), q⟩
theorem cmpd_ne {K : PySem.W.Frag} : CmpD (rNeD K) (neT 8) := fun H x y v w fa fb Q rx ry ok q => ⟨toPy x, toPy y, Rp.dp 8 _ _ _ rx ok.1, Rp.dp 8 _ _ _ ry ok.2, ok.1.shaped (by decide), ok.2.shaped (by decide), q⟩
theorem dte_lt {a b : Expr} {w u : WE} (ha : DE X E a w) (hb : DE X E b u) : DTE X E (.Compare a [.Lt] [b] pos) (w2t (cI fun i j => decide (i < j)) w u) := dte_cmp op_lt cmpd_int ha hb (nomark _)
theorem dte_le {a b : Expr} {w u : WE} (ha : DE X E a w) (hb : DE X E b u) : DTE X E (.Compare a [.LtE] [b] pos) (w2t (cI fun i j => decide (i ≤ j)) w u) := dte_cmp op_le cmpd_int ha hb (nomark _)
theorem dte_gt {a b : Expr} {w u : WE} (ha : DE X E a w) (hb : DE X E b u) : DTE X E (.Compare a [.Gt] [b] pos) (w2t (cI fun i j => decide (j < i)) w u) := dte_cmp op_gt cmpd_int ha hb (nomark _)
theorem dte_ge {a b : Expr} {w u : WE} (ha : DE X E a w) (hb : DE X E b u) : DTE X E (.Compare a [.GtE] [b] pos) (w2t (cI fun i j => decide (j ≤ i)) w u) := dte_cmp op_ge cmpd_int ha hb (nomark _)
theorem dte_eq {a b : Expr} {w u : WE} (hu : X.A.units + 64 < cLine) (ha : DE X E a w) (hb : DE X E b u) : DTE X E (.Compare a [.Eq] [b] pos) (w2t (eqT 8) w u) := dte_cmp (op_eqD hu) cmpd_eq ha hb (nomark _)
theorem dte_ne {a b : Expr} {w u : WE} (hu : X.A.units + 64 < cLine) (ha : DE X E a w) (hb : DE X E b u) : DTE X E (.Compare a [.NotEq] [b] pos) (w2t (neT 8) w u) := dte_cmp (op_neD hu) cmpd_ne ha hb (nomark _)
theorem de_lt {a b : Expr} {w u : WE} (ha : DE X E a w) (hb : DE X E b u) : DE X E (.Compare a [.Lt] [b] pos) (w2c (cI fun i j => decide (i < j)) w u) := de_cmp op_lt cmpd_int ha hb (nomark _)
theorem de_gt {a b : Expr} {w u : WE} (ha : DE X E a w) (hb : DE X E b u) : DE X E (.Compare a [.Gt] [b] pos) (w2c (cI fun i j => decide (j < i)) w u) := de_cmp op_gt cmpd_int ha hb (nomark _)
theorem de_eq {a b : Expr} {w u : WE} (hu : X.A.units + 64 < cLine) (ha : DE X E a w) (hb : DE X E b u) : DE X E (.Compare a [.Eq] [b] pos) (w2c (eqT 8) w u) := de_cmp (op_eqD hu) cmpd_eq ha hb (nomark _)
/-- and, or, not as tests -/
abbrev DWE (X : Cx) (E : XK) (e : Expr) (w : WT) : Prop := PW X e (tDT E w)
def wAnd (t u : WT) : WT := fun δ N Q E => t δ N (fun b N1 => if b = true then u δ N1 Q E else Q false N1) E
def wOr (t u : WT) : WT := fun δ N Q E => t δ N (fun b N1 => if b = true then Q true N1 else u δ N1 Q E) E
def wNot (t : WT) : WT := fun δ N Q E => t δ N (fun b N1 => Q (!b) N1) E
theorem dwe_and1 {a : Expr} {w : WT} (h : DTE X E a w) : DWE X E (.BoolOp .And [a] pos) w := pw_and1 h
theorem dwe_or1 {a : Expr} {w : WT} (h : DTE X E a w) : DWE X E (.BoolOp .Or [a] pos) w := pw_or1 h
theorem dwe_and {a b : Expr} {rest : List Expr} {w u : WT} (ha : DTE X E a w) (hb : DWE X E (.BoolOp .And (b :: rest) pos) u) : DWE X E (.BoolOp .And (a :: b :: rest) pos) (wAnd w u) := by
  refine pw_imp (pw_and ha hb) fun σ H Q h => ?_
  obtain ⟨δ, N, F, P, Q', E', o, q', q, qe⟩ := h
  refine ⟨δ, N, F, P, _, E', o, q', fun b H1 F1 P1 N1 t1 o1 q1 => ?_, qe⟩
  cases b with
  | true =>
    refine (if_pos rfl).mpr ?_
    exact ⟨δ, N1, F1, P1, Q', E', o1, by simpa using q1, fun b2 H2 F2 P2 N2 t2 o2 q2 => q b2 H2 F2 P2 N2 (t1.trans t2) o2 q2, qe.tr t1⟩
  | false =>
    refine (if_neg Bool.false_ne_true).mpr ?_
    exact q false H1 F1 P1 N1 t1 o1 (by simpa using q1)
theorem dwe_or {a b : Expr} {rest : List Expr} {w u : WT} (ha : DTE X E a w) (hb : DWE X E (.BoolOp .Or (b :: rest) pos) u) : DWE X E (.BoolOp .Or (a :: b :: rest) pos) (wOr w u) := by
  refine pw_imp (pw_or ha hb) fun σ H Q h => ?_
  obtain ⟨δ, N, F, P, Q', E', o, q', q, qe⟩ := h
  refine ⟨δ, N, F, P, _, E', o, q', fun b H1 F1 P1 N1 t1 o1 q1 => ?_, qe⟩
  cases b with
  | false =>
    refine (if_neg Bool.false_ne_true).mpr ?_
    exact ⟨δ, N1, F1, P1, Q', E', o1, by simpa using q1, fun b2 H2 F2 P2 N2 t2 o2 q2 => q b2 H2 F2 P2 N2 (t1.trans t2) o2 q2, qe.tr t1⟩
  | true =>
    refine (if_pos rfl).mpr ?_
    exact q true H1 F1 P1 N1 t1 o1 (by simpa using q1)
theorem dte_not {a : Expr} {w : WT} (h : DTE X E a w) : DTE X E (.UnaryOp .Not a pos) (wNot w) := by
  refine pt_imp (pt_not h) fun σ H Q h => ?_
  obtain ⟨δ, N, F, P, Q', E', o, q', q, qe⟩ := h
  exact ⟨δ, N, F, P, _, E', o, q', fun b H1 F1 P1 N1 t1 o1 q1 => q (!b) H1 F1 P1 N1 t1 o1 q1, qe⟩
/-- an impure value True or False as a test -/
def wTV (w : WE) : WT := fun δ N Q E => w δ N (fun d N1 => IsB d ∧ Q (toB d) N1) E
theorem dte_val {e : Expr} {w : WE} (h : DE X E e w) (he : ∀ whole, isTrue e X.env whole = (do let v ← whole; standAt e.pos; holding [v] (truthy v)) := by intro _; rfl) : DTE X E e (wTV w) := by
  refine pt_imp (pt_val h he) fun σ H Q h => ?_
  obtain ⟨δ, N, F, P, Q', E', o, q', q, qe⟩ := h
  exact ⟨δ, N, F, P, _, E', o, q', fun v H1 F1 P1 d N1 fp t1 o1 r1 k1 q1 => ⟨_, r1.bl_ q1.1, q _ H1 F1 P1 N1 t1 o1 q1.2⟩, qe⟩
/-- a if t else b -/
def wIf (t : WT) (w u : WE) : WE := fun δ N Q E => t δ N (fun b N1 => if b = true then w δ N1 Q E else u δ N1 Q E) E
theorem de_if {e a b : Expr} {t : WT} {w u : WE} (ht : DTE X E e t) (ha : DE X E a w) (hb : DE X E b u) : DE X E (.IfExp e a b pos) (wIf t w u) := by
  refine pe_imp (pe_ifExp ht ha hb) fun σ H Q h => ?_
  obtain ⟨δ, N, F, P, Q', E', o, q', q, qe⟩ := h
  refine ⟨δ, N, F, P, _, E', o, q', fun b H1 F1 P1 N1 t1 o1 q1 => ?_, qe⟩
  cases b with
  | true =>
    refine (if_pos rfl).mpr ?_
    exact ⟨δ, N1, F1, P1, Q', E', o1, by simpa using q1, fun v H2 F2 P2 d N2 fp t2 o2 r k q2 => q v H2 F2 P2 d N2 fp (t1.trans t2) o2 r k q2, qe.tr t1⟩
  | false =>
    refine (if_neg Bool.false_ne_true).mpr ?_
    exact ⟨δ, N1, F1, P1, Q', E', o1, by simpa using q1, fun v H2 F2 P2 d N2 fp t2 o2 r k q2 => q v H2 F2 P2 d N2 fp (t1.trans t2) o2 r k q2, qe.tr t1⟩
/-- a place -/
theorem opd_ix {K : PySem.W.Frag} : OpD (fun x y H Q => rIxL K x y H Q ∨ rIxT K x y H Q) ixQ := fun F H x y v w fa fb Q rx ry ka kb ⟨o3, o4, o5⟩ q => by
  obtain ⟨d, ed⟩ := Option.isSome_iff_exists.mp o5
  have q' : ∀ u H' fp, Ex H H' → Rp H' d u fp → Cl.cln.ok F H fp → Q u H' := fun u H' fp e r k => q u H' fp e (by simp only [ixQ, ed]; exact r) k
  have hw := ry.int_ o4
  subst hw
  rcases o3.eq with e | e
  · rw [e] at rx
    obtain ⟨p, vs, f, rfl, hp, rl, rfl⟩ := rx
    obtain ⟨u, fu, h1, h2, h3, h4⟩ := rl.at ed
    exact .inl ⟨p, vs, _, u, rfl, rfl, SqL.of hp, h1, q' u H fu (Ex.refl _) h2 fun z hz => .inl (ka z (by simp [h3 z hz]))⟩
  · rw [e] at rx
    obtain ⟨p, vs, rfl, hp, rl⟩ := rx
    obtain ⟨u, fu, h1, h2, h3, h4⟩ := rl.at ed
    exact .inr ⟨p, vs, _, u, rfl, rfl, SqT.of hp, h1, q' u H fu (Ex.refl _) h2 fun z hz => .inl (ka z (h3 z hz))⟩
theorem de_ix {a b : Expr} {w u : WE} (ha : DE X E a w) (hb : DE X E b u) (hs : PlainIx b := by exact fun _ _ => rfl) : DE X E (.Subscript a b pos) (w2 ixQ w u) := by
  refine pe_imp (pe_ix (ix_list.or ix_tup) ha hb hs) fun σ H Q h => ?_
  obtain ⟨δ, N, F, P, Q', E', o, q', q, qe⟩ := h
  refine ⟨δ, N, F, P, _, E', o, q', fun v H1 F1 P1 d N1 fp t1 o1 r1 k1 q1 => ⟨δ, N1, F1, P1, _, E', o1, q1, fun v2 H2 F2 P2 d2 N2 fq t2 o2 r2 k2 q2 => ?_, qe.tr t1⟩, qe⟩
  refine opd_ix F2 H2 d d2 v v2 fp fq Q (o1.keep t2 r1 k1) r2 (fun p hp => t2.fr p (k1 p hp)) k2 q2.1 fun z H3 fz e3 r3 k3 => ?_
  obtain ⟨o3, t3⟩ := cln_grow o2 e3 k3 (Rp.there _ _ _ r3)
  exact q z H3 _ _ _ N2 fz ((t1.trans t2).trans t3) o3 r3 (fun p hp => .inr hp) q2.2
/-- displays -/
def wTup (w : WA) : WE := fun δ N Q E => w δ N (fun ds N1 => ds.length ≤ SZ ∧ Q (.tup ds) N1) E
def wLst (w : WA) : WE := fun δ N Q E => w δ N (fun ds N1 => ds.length ≤ SZ ∧ Q (.lst ds) N1) E
theorem de_tup {es : List Expr} {w : WA} {x1} (h : DAE X E es w) : DE X E (.Tuple es x1 pos) (wTup w) := by
  refine pe_imp (pe_tup h) fun σ H Q h => ?_
  obtain ⟨δ, N, F, P, Q', E', o, q', q, qe⟩ := h
  refine ⟨δ, N, F, P, _, E', o, q', fun vs H1 F1 P1 ds N1 fp t1 o1 r1 k1 q1 => ⟨sz (by rw [← r1.length]; exact q1.1), fun p hp => ?_⟩, qe⟩
  obtain ⟨o2, t2⟩ := o1.ex (Ex.new (o := .tup vs) hp)
  exact q _ _ F1 P1 (.tup ds) N1 fp (t1.trans t2) o2 ⟨p, vs, rfl, upd_same, r1.ex (Ex.new hp)⟩ k1 q1.2
theorem de_lst {es : List Expr} {w : WA} (h : DAE X E es w) : DE X E (.List es pos) (wLst w) := by
  refine pe_imp (pe_lst h) fun σ H Q h => ?_
  obtain ⟨δ, N, F, P, Q', E', o, q', q, qe⟩ := h
  refine ⟨δ, N, F, P, _, E', o, q', fun vs H1 F1 P1 ds N1 fp t1 o1 r1 k1 q1 => ⟨sz (by rw [← r1.length]; exact q1.1), fun p hp => ?_⟩, qe⟩
  obtain ⟨o2, t2⟩ := o1.grow (Ex.new (o := .lst vs) hp) (fun z => z = p) fun z hz => by subst hz; exact ⟨.inr hp, _, upd_same⟩
  exact q _ _ _ P1 (.lst ds) N1 (p :: fp) (t1.trans t2) o2 ⟨p, vs, fp, rfl, upd_same, r1.ex (Ex.new hp), rfl⟩ (fun z hz => (List.mem_cons.mp hz).elim (fun e => .inr e) fun hz => .inl (k1 z hz)) q1.2
end
end DL
set_option maxHeartbeats 4000000
/-! The data layer, 8: calls of impure defs, statements, defs. -/
namespace DL
open PySem L2

/-! ### what an impure def promises -/
abbrev SpD := List D → Nm → (D → Nm → Prop) → ED → Prop
def spM (n : Nat) (sp : SpD) : Sp := fun vs H Q E => ∃ ds N F P Q' E' fps, ds.length = n ∧ (∃ fpm, Wf N F P H fpm) ∧ RpL H ds vs fps ∧ (∀ p ∈ fps, F p) ∧ sp ds N Q' E' ∧
  (∀ v H' F' P' d N' fp, Tr F P H F' P' H' → (∃ fpm, Wf N' F' P' H' fpm) → Rp H' d v fp → (∀ p ∈ fp, F' p) → Q' d N' → Q v H') ∧ EC E E' F P H
section
variable {X : Cx} {E : XK} {c c1 c2 c3 : Cl} {pos p : Pos} {x : Str} {k n : Nat} {ps : List Str} {sp : SpD} {φ : List D → Nm → PV}
theorem Ok.after {δ : Loc} {N N' : Nm} {F P F' P' : Addr → Prop} {σ : St} {H H' : Hp} (o : Ok δ N F P σ H) (t : Tr F P H F' P' H') (w : ∃ fpm, Wf N' F' P' H' fpm) : Ok δ N' F' P' σ H' :=
  ⟨w, o.sr.tr o t fun p hp => let ⟨_, w⟩ := w; (w.fr p hp).2⟩
def wCall (n : Nat) (sp : SpD) (w : WA) : WE := fun δ N Q E => w δ N (fun ds N1 => ds.length = n ∧ sp ds N1 Q E) E
theorem de_call {e : Expr} {es : List Expr} {w : WA} (h : HasX X x k ps (spM n sp)) (hr : Room k X.A) (hg : Gl X x) (hx : Passes (L2.CX X.prog X.w) X E) (ha : DAE X E (e :: es) w) (hdb : (x == ("__debug__" : Str)) = false := by decide)
    (he : starEach (e :: es) X.env = (false, eval e X.env) :: starEach es X.env := by rfl) (hpl : (backTo pos (starEach es X.env)).any (·.1) = false := by rfl) : DE X E (.Call (.Name x p) (e :: es) [] pos) (wCall n sp w) := by
  obtain ⟨f', fd, Fn, hm, hk, hb⟩ := h.ex
  refine pe_imp (pe_call Fn hr hg hm hk hb .nil hx ha hdb he hpl) fun σ H Q h => ?_
  obtain ⟨δ, N, F, P, Q', E', o, q', q, qe⟩ := h
  refine ⟨δ, N, F, P, _, E', o, q', fun vs H1 F1 P1 ds N1 fp t1 o1 r1 k1 q1 => ?_, qe⟩
  show spM n sp (vs ++ []) H1 Q E
  rw [List.append_nil]
  refine ⟨ds, N1, F1, P1, Q', E', fp, q1.1, o1.wf, r1, k1, q1.2, fun v H2 F2 P2 d N2 fq t2 w2 r2 k2 q2 => ?_, qe.tr t1⟩
  exact q v H2 F2 P2 d N2 fq (t1.trans t2) (o1.after t2 w2) r2 k2 q2
/-- a pure def called with impure arguments -/
def wCallP (n : Nat) (φ : List D → Nm → PV) (w : WA) : WE := fun δ N Q E => w δ N (fun ds N1 => ds.length = n ∧ (φ ds N1).ok ∧ Q (φ ds N1).val N1) E
theorem de_callP {e : Expr} {es : List Expr} {w : WA} (h : HasX X x k ps (spP n φ)) (hr : Room k X.A) (hg : Gl X x) (ha : DAE X E (e :: es) w) (hdb : (x == ("__debug__" : Str)) = false := by decide)
    (he : starEach (e :: es) X.env = (false, eval e X.env) :: starEach es X.env := by rfl) (hpl : (backTo pos (starEach es X.env)).any (·.1) = false := by rfl) : DE X E (.Call (.Name x p) (e :: es) [] pos) (wCallP n φ w) := by
  obtain ⟨f', fd, Fn, hm, hk, hb⟩ := h.ex
  refine pe_imp (pe_call Fn hr hg hm hk hb .nil passL ha hdb he hpl) fun σ H Q h => ?_
  obtain ⟨δ, N, F, P, Q', E', o, q', q, qe⟩ := h
  refine ⟨δ, N, F, P, _, E', o, q', fun vs H1 F1 P1 ds N1 fp t1 o1 r1 k1 q1 => ?_, qe⟩
  show spP n φ (vs ++ []) H1 Q E0
  rw [List.append_nil]
  refine ⟨ds, N1, fp, r1, o1.nr, q1.1, q1.2.1, fun v H2 fq e2 r2 k2 => ?_⟩
  obtain ⟨o2, t2⟩ := cln_grow (F := F1) o1 e2 (Cl.frs_ (c := .cln) ⟨k2.1, k2.2⟩) (Rp.there _ _ _ r2)
  exact q v H2 _ P1 _ N1 fq (t1.trans t2) o2 r2 (fun p hp => .inr hp) q1.2.2

/-! ### statements -/
structure EndD where
  nx : Loc → Nm → Prop
  rt : D → Nm → Prop
  bk : Loc → Nm → Prop := fun _ _ => False
  ct : Loc → Nm → Prop := fun _ _ => False
  ex : ED := E9
abbrev WS := EndD → Loc → Nm → Prop
def SC (K : Loc → Nm → Prop) (k : St → Hp → Prop) (F P : Addr → Prop) (H : Hp) : Prop := ∀ σ' H' F' P' δ' N', Tr F P H F' P' H' → Ok δ' N' F' P' σ' H' → K δ' N' → k σ' H'
/-- a returned value's cells: new, each once (rc); or frozen -/
def RtC (rc : Bool) (F' P' : Addr → Prop) (H : Hp) (fp : List Addr) : Prop := if rc = true then fp.Nodup ∧ ∀ p ∈ fp, H p = none ∧ ¬ P' p else ∀ p ∈ fp, F' p
def RC (rc : Bool) (K : D → Nm → Prop) (k : VK) (F P : Addr → Prop) (H : Hp) : Prop := ∀ v H' F' P' d N' fp, Tr F P H F' P' H' → (∃ fpm, Wf N' F' P' H' fpm) → Rp H' d v fp → RtC rc F' P' H fp → K d N' → k v H'
theorem SC.tr {K : Loc → Nm → Prop} {k : St → Hp → Prop} {F P F1 P1 : Addr → Prop} {H H1 : Hp} (h : SC K k F P H) (t : Tr F P H F1 P1 H1) : SC K k F1 P1 H1 := fun σ' H' F' P' δ' N' t' o q => h σ' H' F' P' δ' N' (t.trans t') o q
theorem Tr.back {F P F1 P1 : Addr → Prop} {H H1 : Hp} (t : Tr F P H F1 P1 H1) {p : Addr} (h : H1 p = none) : H p = none := by
  cases q : H p with
  | none => rfl
  | some o => obtain ⟨o', h'⟩ := t.th p o q; rw [h] at h'; cases h'
theorem RC.tr {rc : Bool} {K : D → Nm → Prop} {k : VK} {F P F1 P1 : Addr → Prop} {H H1 : Hp} (h : RC rc K k F P H) (t : Tr F P H F1 P1 H1) : RC rc K k F1 P1 H1 := fun v H' F' P' d N' fp t' w r rt q => h v H' F' P' d N' fp (t.trans t') w r (by
  cases rc with
  | true =>
    have rt : fp.Nodup ∧ ∀ p ∈ fp, H1 p = none ∧ ¬ P' p := by simpa [RtC] using rt
    show RtC true F' P' H fp
    unfold RtC
    rw [if_pos rfl]
    exact ⟨rt.1, fun p hp => ⟨t.back (rt.2 p hp).1, (rt.2 p hp).2⟩⟩
  | false =>
    have rt : ∀ p ∈ fp, F' p := by simpa [RtC] using rt
    show RtC false F' P' H fp
    unfold RtC
    rw [if_neg Bool.false_ne_true]
    exact rt) q
structure SEnds (E : XK) (rc : Bool) (ED_ : EndD) (D : Ends) (F P : Addr → Prop) (H : Hp) : Prop where
  nx : SC ED_.nx D.nx F P H
  bk : SC ED_.bk D.bk F P H
  ct : SC ED_.ct D.ct F P H
  rt : RC rc ED_.rt D.rt F P H
  ex : EC E ED_.ex F P H
theorem SEnds.tr {rc : Bool} {K : EndD} {D : Ends} {F P F1 P1 : Addr → Prop} {H H1 : Hp} (h : SEnds E rc K D F P H) (t : Tr F P H F1 P1 H1) : SEnds E rc K D F1 P1 H1 := ⟨h.nx.tr t, h.bk.tr t, h.ct.tr t, h.rt.tr t, h.ex.tr t⟩
def tDS (E : XK) (rc : Bool) (w : WS) : TS := fun D σ H => ∃ δ N F P K, Ok δ N F P σ H ∧ w K δ N ∧ SEnds E rc K D F P H
abbrev DS (X : Cx) (E : XK) (rc : Bool) (s : Stmt) (w : WS) : Prop := PS X s (tDS E rc w)
abbrev DSs (X : Cx) (E : XK) (rc : Bool) (s : List Stmt) (w : WS) : Prop := PSs X s (tDS E rc w)
variable {rc : Bool} {s : Stmt} {ss : List Stmt} {w u : WS}
def sNext : WS := fun K δ N => K.nx δ N
def sSeq (w u : WS) : WS := fun K δ N => w { K with nx := u K } δ N
theorem dss_nil : DSs X E rc [] sNext := pss_imp pss_nil fun D σ H h => by
  obtain ⟨δ, N, F, P, K, o, q, e⟩ := h
  exact e.nx σ H F P δ N Tr.refl o q
theorem dss_cons (h : DS X E rc s w) (k : DSs X E rc ss u) : DSs X E rc (s :: ss) (sSeq w u) := pss_imp (pss_cons h k) fun D σ H h => by
  obtain ⟨δ, N, F, P, K, o, q, e⟩ := h
  exact ⟨δ, N, F, P, { K with nx := u K }, o, q, fun σ' H' F' P' δ' N' t o' q' => ⟨δ', N', F', P', K, o', q', e.tr t⟩, e.bk, e.ct, e.rt, e.ex⟩
theorem dss_one (h : DS X E rc s w) : DSs X E rc [s] w := pss_one h
theorem ds_pass : DS X E rc (.Pass pos) sNext := ps_imp ps_pass fun D σ H h => by
  obtain ⟨δ, N, F, P, K, o, q, e⟩ := h
  exact e.nx σ H F P δ N Tr.refl o q
theorem ds_never {s : Stmt} : DS X E rc s (fun _ _ _ => False) := ps_imp ps_never fun D σ H h => by
  obtain ⟨δ, N, F, P, K, o, q, e⟩ := h
  exact q.elim
theorem dss_never {s : List Stmt} : DSs X E rc s (fun _ _ _ => False) := pss_imp pss_never fun D σ H h => by
  obtain ⟨δ, N, F, P, K, o, q, e⟩ := h
  exact q.elim
theorem ds_break : DS X E rc (.Break pos) (fun K δ N => K.bk δ N) := ps_imp ps_break fun D σ H h => by
  obtain ⟨δ, N, F, P, K, o, q, e⟩ := h
  exact e.bk σ H F P δ N Tr.refl o q
theorem ds_continue : DS X E rc (.Continue pos) (fun K δ N => K.ct δ N) := ps_imp ps_continue fun D σ H h => by
  obtain ⟨δ, N, F, P, K, o, q, e⟩ := h
  exact e.ct σ H F P δ N Tr.refl o q
/-- an impure expression, dropped -/
def sDrop (w : WE) : WS := fun K δ N => w δ N (fun _ N1 => K.nx δ N1) K.ex
theorem ds_expr {e : Expr} {w : WE} (h : DE X E e w) (hs : swapsWith e none pos.line X.env = pure false := by rfl) : DS X E rc (.Expr e pos) (sDrop w) := ps_imp (ps_expr h hs) fun D σ H h => by
  obtain ⟨δ, N, F, P, K, o, q, e⟩ := h
  exact ⟨δ, N, F, P, _, K.ex, o, q, fun v H1 F1 P1 d N1 fp t1 o1 r1 k1 q1 => e.nx σ H1 F1 P1 δ N1 t1 o1 q1, e.ex⟩
/-- a target takes a value -/
def sAsg (w : WE) (G : GF) : WS := fun K δ N => w δ N (fun d N1 => (G d δ).ok ∧ K.nx (G d δ).loc N1) K.ex
theorem ds_asg {tg e : Expr} {sl : List Nat} {w : WE} {G : GF} (he : DE X E e w) (hg : DG X tg sl G) (hs : swapsWithSole [tg] e pos.line X.env = pure false := by rfl) (hw : swappedStores [tg] e X.env = pure none := by rfl)
    (h1 : (assignEach [tg] X.env).map (·.2) = [assign tg X.env] := by rfl) : DS X E rc (.Assign [tg] e pos) (sAsg w G) := ps_imp (ps_asg he hg hs hw h1) fun D σ H h => by
  obtain ⟨δ, N, F, P, K, o, q, e⟩ := h
  exact ⟨δ, N, F, P, _, K.ex, o, q, fun v H1 F1 P1 d N1 fp t1 o1 r1 k1 q1 => ⟨δ, F1, d, fp, o1.sr, r1, k1, q1.1, fun σ' s' _ _ => e.nx σ' H1 F1 P1 _ N1 t1 ⟨o1.wf, s'⟩ q1.2⟩, e.ex⟩
def sSet (i : Nat) (w : WE) : WS := fun K δ N => w δ N (fun d N1 => K.nx (δ.set i (some d)) N1) K.ex
theorem ds_set {i : Nat} {y : Str} {e : Expr} {w : WE} {pos' : Pos} (hN : X.N.Nodup) (hi : X.N[i]? = some y) (hx : L2.Loc X.env.scope y) (he : DE X E e w) (hs : swapsWith e (some (.Name y pos')) pos.line X.env = pure false := by rfl)
    (hf : X.fn y = true ∨ X.env.scope.names.lookup y = some .local := by first | exact .inl rfl | exact .inr rfl | assumption) : DS X E rc (.Assign [.Name y pos'] e pos) (sSet i w) := ps_imp (ps_set hN hi hx he hs hf) fun D σ H h => by
  obtain ⟨δ, N, F, P, K, o, q, e⟩ := h
  exact ⟨δ, N, F, P, _, K.ex, o, q, fun v H1 F1 P1 d N1 fp t1 o1 r1 k1 q1 => e.nx _ H1 F1 P1 _ N1 t1 ⟨o1.wf, o1.sr.set r1 k1⟩ q1, e.ex⟩
def sIf (t : WT) (w u : WS) : WS := fun K δ N => t δ N (fun b N1 => if b = true then w K δ N1 else u K δ N1) K.ex
theorem ds_if {e : Expr} {a b : List Stmt} {t : WT} (ht : DTE X E e t) (ha : DSs X E rc a w) (hb : DSs X E rc b u) : DS X E rc (.If e a b pos) (sIf t w u) := ps_imp (ps_if ht ha hb) fun D σ H h => by
  obtain ⟨δ, N, F, P, K, o, q, e⟩ := h
  refine ⟨δ, N, F, P, _, K.ex, o, q, fun b H1 F1 P1 N1 t1 o1 q1 => ?_, e.ex⟩
  cases b with
  | true =>
    refine (if_pos rfl).mpr ?_
    exact ⟨δ, N1, F1, P1, K, o1, by simpa using q1, e.tr t1⟩
  | false =>
    refine (if_neg Bool.false_ne_true).mpr ?_
    exact ⟨δ, N1, F1, P1, K, o1, by simpa using q1, e.tr t1⟩
/-- return -/
def sRet (w : WE) : WS := fun K δ N => w δ N (fun d N1 => K.rt d N1) K.ex
theorem ds_ret {e : Expr} {w : WE} (h : DE X E e w) : DS X E false (.Return (some e) pos) (sRet w) := ps_imp (ps_ret h) fun D σ H h => by
  obtain ⟨δ, N, F, P, K, o, q, e⟩ := h
  exact ⟨δ, N, F, P, _, K.ex, o, q, fun v H1 F1 P1 d N1 fp t1 o1 r1 k1 q1 => e.rt v H1 F1 P1 d N1 fp t1 o1.wf r1 (by unfold RtC; rw [if_neg Bool.false_ne_true]; exact k1) q1, e.ex⟩
def sRetF (f : PF) : WS := fun K δ N => (f δ N).ok ∧ K.rt (f δ N).val N
theorem ds_retF {e : Expr} {f : PF} (h : DP X .frs e f) : DS X E true (.Return (some e) pos) (sRetF f) := ps_imp (ps_ret h) fun D σ H h => by
  obtain ⟨δ, N, F, P, K, o, ⟨ok, q⟩, e⟩ := h
  refine ⟨δ, N, F, o.sr, o.nr, ok, fun v H1 fp e1 r1 k1 => ?_⟩
  obtain ⟨o1, t1⟩ := o.ex e1
  refine e.rt v H1 F P _ N fp t1 o1.wf r1 ?_ q
  unfold RtC
  rw [if_pos rfl]
  exact ⟨k1.1, fun p hp => ⟨k1.2 p hp, fun z => by obtain ⟨ob, h1, _⟩ := o.pr p z; rw [k1.2 p hp] at h1; cases h1⟩⟩
def sRetN : WS := fun K _ N => K.rt .non N
theorem ds_retN : DS X E rc (.Return none pos) sRetN := ps_imp ps_retN fun D σ H h => by
  obtain ⟨δ, N, F, P, K, o, q, e⟩ := h
  exact e.rt .non H F P .non N [] Tr.refl o.wf ⟨rfl, rfl⟩ (by unfold RtC; split <;> simp) q
end
end DL
set_option maxHeartbeats 4000000
/-! The data layer, 9: loops, new objects, the rules for defs. -/
namespace DL
open PySem L2
section
variable {X : Cx} {E : XK} {c c1 c2 c3 : Cl} {pos p : Pos} {x : Str} {rc : Bool} {s : Stmt} {ss : List Stmt} {w u : WS} {tg : Expr}
/-! ### while -/
def sWhile (t : TF) (w : WS) : WS := fun K δ N => ∃ I : Nat → Loc → Nm → Prop, (∃ m, I m δ N) ∧ ∀ m δ N, I m δ N → (t δ N).ok ∧
  ((t δ N).b = true → w { K with nx := fun δ' N' => ∃ m', m' < m ∧ I m' δ' N', ct := fun δ' N' => ∃ m', m' < m ∧ I m' δ' N', bk := K.nx } δ N) ∧ ((t δ N).b = false → K.nx δ N)
theorem ds_while {e : Expr} {body : List Stmt} {t : TF} (hp : PassesOwn (model X.prog X.w) X.A X.env X.xe) (ht : DT X e t) (hb : DSs X E rc body w) : DS X E rc (.While e body [] pos) (sWhile t w) := ps_imp (ps_while hp ht hb) fun D σ H h => by
  obtain ⟨δ, N, F, P, K, o, ⟨I, ⟨m0, i0⟩, turn⟩, e⟩ := h
  refine ⟨fun m σ1 H1 => ∃ δ1 N1 F1 P1, Tr F P H F1 P1 H1 ∧ Ok δ1 N1 F1 P1 σ1 H1 ∧ I m δ1 N1, ⟨m0, δ, N, F, P, Tr.refl, o, i0⟩, ?_⟩
  rintro m σ1 H1 ⟨δ1, N1, F1, P1, t1, o1, i1⟩
  obtain ⟨ok, hT, hF⟩ := turn m δ1 N1 i1
  refine ⟨δ1, N1, F1, o1.sr, o1.nr, ok, fun H2 e2 => ?_⟩
  obtain ⟨o2, t2⟩ := o1.ex e2
  cases eb : (t δ1 N1).b with
  | true =>
    refine (if_pos rfl).mpr ⟨fun σ' H' => ∃ m', m' < m ∧ ∃ δ1 N1 F1 P1, Tr F P H F1 P1 H' ∧ Ok δ1 N1 F1 P1 σ' H' ∧ I m' δ1 N1, fun σ' H' h => h, ?_⟩
    have again : ∀ {K' : Loc → Nm → Prop}, (∀ δ' N', K' δ' N' → ∃ m', m' < m ∧ I m' δ' N') → SC K' (fun σ' H' => ∃ m', m' < m ∧ ∃ δ1 N1 F1 P1, Tr F P H F1 P1 H' ∧ Ok δ1 N1 F1 P1 σ' H' ∧ I m' δ1 N1) F1 P1 H2 := fun {K'} hk σ' H' F' P' δ' N' t' o' q => by
      obtain ⟨m', hm, i'⟩ := hk δ' N' q
      exact ⟨m', hm, δ', N', F', P', (t1.trans t2).trans t', o', i'⟩
    exact ⟨δ1, N1, F1, P1, _, o2, hT eb, again (fun _ _ h => h), (e.nx.tr t1).tr t2, again (fun _ _ h => h), (e.rt.tr t1).tr t2, (e.ex.tr t1).tr t2⟩
  | false =>
    refine (if_neg Bool.false_ne_true).mpr ?_
    exact e.nx σ1 H2 F1 P1 δ1 N1 (t1.trans t2) o2 (hF eb)

/-! ### for -/
def tIE (E : XK) (w : WA) : TI := fun σ H R => ∃ δ N F P Q' E', Ok δ N F P σ H ∧ w δ N Q' E' ∧ (∀ J H' F' P' items N' fs, Tr F P H F' P' H' → Ok δ N' F' P' σ H' → Walk J (fun H2 => Kp H' H2 fs) items fs → (∀ p ∈ fs, F' p) → Q' items N' → R J H') ∧ EC E E' F P H
abbrev DIE (X : Cx) (E : XK) (tg iter : Expr) (w : WA) : Prop := PI X tg iter (tIE E w)
theorem die_p {iter : Expr} {f : AF} (h : DI X .cln tg iter f) : DIE X E tg iter (wA f) := by
  refine pi_imp h fun σ H R h => ?_
  obtain ⟨δ, N, F, P, Q', E', o, ⟨ok, q'⟩, q, qe⟩ := h
  refine ⟨δ, N, F, o.sr, o.nr, ok, fun J H' fs e t k wk => ?_⟩
  obtain ⟨o2, t2⟩ := cln_grow o e k t
  exact q J H' _ P _ N fs t2 o2 wk (fun p hp => .inr hp) q'
def wR1 (w : WE) : WA := fun δ N Q E => w δ N (fun d N1 => IsI d ∧ -(2 ^ 62) ≤ toI d ∧ toI d < 2 ^ 62 ∧ Q ((rng 0 (toI d).toNat).map D.int) N1) E
theorem die_range1 {a : Expr} {w : WE} (hg : Gl X "range") (hm : X.mg "range" = none) (ha : DE X E a w) (hs : starEach [a] X.env = (false, eval a X.env) :: starEach [] X.env := by rfl) (hs' : starEach [a] X.env = [(false, eval a X.env)] := by rfl) : DIE X E tg (.Call (.Name "range" p) [a] [] pos) (wR1 w) := by
  refine pi_imp (pi_range1 hg hm (pa_cons ha pa_nil hs) hs') fun σ H R h => ?_
  obtain ⟨δ, N, F, P, Q', E', o, q', q, qe⟩ := h
  refine ⟨δ, N, F, P, _, E', o, q', fun v H1 F1 P1 d N1 fp t1 o1 r1 k1 q1 => ⟨_, by rw [r1.int_ q1.1], q1.2.1, q1.2.2.1, ?_⟩, qe⟩
  exact q _ H1 F1 P1 _ N1 [] t1 o1 walk_rng (by simp) q1.2.2.2
def loopD (G : GF) (w : WS) (K : EndD) : List D → Loc → Nm → Prop
  | [], δ, N => K.nx δ N
  | d :: ds, δ, N => (G d δ).ok ∧ w { K with nx := loopD G w K ds, ct := loopD G w K ds, bk := K.nx } (G d δ).loc N
def sFor (wi : WA) (G : GF) (w : WS) : WS := fun K δ N => wi δ N (fun items N1 => loopD G w K items δ N1) K.ex
theorem Ok.kp {δ : Loc} {N : Nm} {F P F' P' : Addr → Prop} {σ : St} {H H' : Hp} (o : Ok δ N F P σ H) (t : Tr F P H F' P' H') {fs : List Addr} (h : ∀ p ∈ fs, F p) : Kp H H' fs :=
  ⟨fun p vs q => t.st p _ q fun z => by obtain ⟨ob, h1, h2⟩ := o.pr p z; rw [q] at h1; cases h1; exact h2 _ rfl, fun p hp => by
    obtain ⟨n, ob, ho⟩ := o.fr p (h p hp)
    rw [ho, t.st p ob ho n]⟩
theorem ds_for {iter : Expr} {body : List Stmt} {wi : WA} {sl : List Nat} {G : GF} (hp : PassesOwn (model X.prog X.w) X.A X.env X.xe) (hc : X.calm = true) (hi : DIE X E tg iter wi) (hg : DG X tg sl G) (hb : DSs X E rc body w)
    (hs : ∀ x, foldedSetIterable iter X.env x = pure x := by intro _; rfl) : DS X E rc (.For tg iter body [] pos) (sFor wi G w) := ps_imp (ps_for hp hc hi hg hb hs) fun D σ H h => by
  obtain ⟨δ, N, F, P, K, o, q, e⟩ := h
  refine ⟨δ, N, F, P, _, K.ex, o, q, fun J H1 F1 P1 items N1 fs t1 o1 wk kf q1 => ?_, e.ex⟩
  refine ⟨fun i m σ' H' => m = items.length - i ∧ i ≤ items.length ∧ ∃ δ' N' F' P', Tr F1 P1 H1 F' P' H' ∧ Ok δ' N' F' P' σ' H' ∧ loopD G w K (items.drop i) δ' N', ⟨items.length, by simp, Nat.zero_le _, δ, N1, F1, P1, Tr.refl, o1, q1⟩, ?_⟩
  rintro i m σ' H' ⟨rfl, hi', δ', N', F', P', t', o', q'⟩
  obtain ⟨wgo, wstop⟩ := wk i H' (o1.kp t' kf)
  by_cases hlt : i < items.length
  · obtain ⟨d, hd⟩ : ∃ d, items[i]? = some d := ⟨items[i], by simp [hlt]⟩
    have edrop : items.drop i = d :: items.drop (i + 1) := by
      rw [List.drop_eq_getElem_cons hlt]
      congr 1
      have := List.getElem?_eq_getElem hlt
      rw [hd] at this; exact (Option.some.inj this).symm
    rw [edrop] at q'
    obtain ⟨og, qb⟩ := q'
    obtain ⟨go, yl⟩ := wgo d hd
    refine .inr ⟨go, fun σ2 H2 => ∃ δ' N' F' P', Tr F1 P1 H1 F' P' H2 ∧ Ok δ' N' F' P' σ2 H2 ∧ loopD G w K (items.drop (i + 1)) δ' N', fun σ2 H2 h => ⟨items.length - (i + 1), by omega, rfl, hlt, h⟩, fun v H2 y => ?_⟩
    obtain ⟨e2, f, rv, fsub⟩ := yl v H2 y
    obtain ⟨o2, t2⟩ := o'.ex e2
    refine ⟨δ', F', d, f, o2.sr, rv, fun p hp => t'.fr p (kf p (fsub p hp)), og, fun σ3 s3 _ _ => ?_⟩
    have o3 : Ok (G d δ').loc N' F' P' σ3 H2 := ⟨o2.wf, s3⟩
    have again : SC (loopD G w K (items.drop (i + 1))) (fun σ2 H2 => ∃ δ' N' F' P', Tr F1 P1 H1 F' P' H2 ∧ Ok δ' N' F' P' σ2 H2 ∧ loopD G w K (items.drop (i + 1)) δ' N') F' P' H2 := fun σ4 H4 F4 P4 δ4 N4 t4 o4 q4 =>
      ⟨δ4, N4, F4, P4, (t'.trans t2).trans t4, o4, q4⟩
    have e4 := ((e.tr t1).tr t').tr t2
    exact ⟨_, N', F', P', _, o3, qb, again, e4.nx, again, e4.rt, e4.ex⟩
  · have ei : i = items.length := by omega
    subst ei
    rw [List.drop_length] at q'
    exact .inl ⟨wstop (Nat.le_refl _), e.nx σ' H' F' P' δ' N' (t1.trans t') o' q'⟩

/-! ### new objects -/
def updN (N : Nm) (a : Addr) (c : Cell) : Nm := fun b => if b = a then some c else N b
theorem updN_same {N : Nm} {a : Addr} {c : Cell} : updN N a c a = some c := by unfold updN; rw [if_pos rfl]
theorem updN_ne {N : Nm} {a b : Addr} {c : Cell} (h : b ≠ a) : updN N a c b = N b := by unfold updN; rw [if_neg h]
theorem updN_updN {N : Nm} {a : Addr} {c e : Cell} : updN (updN N a c) a e = updN N a e := by
  funext b; unfold updN; split <;> rfl
theorem updN_comm {N : Nm} {a b : Addr} {c e : Cell} (h : a ≠ b) : updN (updN N a c) b e = updN (updN N b e) a c := by
  funext z; unfold updN
  by_cases h1 : z = a
  · by_cases h2 : z = b
    · exact absurd (h1.symm.trans h2) h
    · rw [if_neg h2, if_pos h1, if_pos h1]
  · by_cases h2 : z = b
    · rw [if_pos h2, if_neg h1, if_pos h2]
    · rw [if_neg h2, if_neg h1, if_neg h1, if_neg h2]
theorem Wf.alloc {N : Nm} {F P : Addr → Prop} {H : Hp} {fpm : Addr → List Addr} {d : D} {a : Addr} {fp : List Addr} (w : Wf N F P H fpm) (r : Rp H d (.ref a) fp) (ha : a ∈ fp) (nd : fp.Nodup) (f1 : ∀ q ∈ fp, ¬ F q) (f2 : ∀ q ∈ fp, ∀ b c, N b = some c → q ∉ fpm b) :
    N a = none ∧ Wf (updN N a ⟨true, d⟩) F (fun q => P q ∨ q ∈ fp) H (fun b => if b = a then fp else fpm b) := by
  have hN : N a = none := by
    cases q : N a with
    | none => rfl
    | some c => exact absurd (w.cell a c q).2 (f2 a ha a c q)
  refine ⟨hN, ⟨fun b c h => ?_, fun b c h hw => ?_, fun b b' c e hne h hw h' p hp => ?_, fun p h => ⟨fun z => z.elim (w.fr p h).1 fun z => f1 p z h, (w.fr p h).2⟩, fun p h => h.elim (w.pr p) fun z => Rp.there _ _ _ r p z⟩⟩
  · by_cases hb : b = a
    · subst hb
      rw [updN_same] at h; cases h
      rw [if_pos rfl]
      exact ⟨r, ha⟩
    · rw [updN_ne hb] at h
      rw [if_neg hb]
      exact w.cell b c h
  · by_cases hb : b = a
    · subst hb
      rw [if_pos rfl]
      exact ⟨nd, fun p hp => .inr hp⟩
    · rw [updN_ne hb] at h
      rw [if_neg hb]
      exact ⟨(w.own b c h hw).1, fun p hp => .inl ((w.own b c h hw).2 p hp)⟩
  · by_cases hb : b = a
    · subst hb
      have hb' : b' ≠ b := fun z => hne z.symm
      rw [if_pos rfl] at hp
      rw [updN_ne hb'] at h'
      rw [if_neg hb']
      exact f2 p hp b' e h'
    · rw [updN_ne hb] at h
      rw [if_neg hb] at hp
      by_cases hb' : b' = a
      · subst hb'
        rw [if_pos rfl]
        exact fun z => f2 p z b c h hp
      · rw [updN_ne hb'] at h'
        rw [if_neg hb']
        exact w.sep b b' c e hne h hw h' p hp
/-- a list, a dict, an instance -/
def IsC : D → Prop | .lst _ => True | .dic _ _ => True | .obj _ _ _ _ => True | _ => False
theorem Rp.cell {H : Hp} {d : D} {v : V} {fp : List Addr} (h : Rp H d v fp) (k : IsC d) : ∃ a, v = .ref a ∧ a ∈ fp := by
  cases d <;> first
    | exact k.elim
    | (obtain ⟨p, vs, f, rfl, _⟩ := h; first | (obtain ⟨_, _, rfl⟩ := ‹_ ∧ _ ∧ _›; exact ⟨_, rfl, by simp⟩) | (obtain ⟨_, _, _, rfl⟩ := ‹_ ∧ _ ∧ _ ∧ _›; exact ⟨_, rfl, by simp⟩))
theorem Tr.alloc {F P : Addr → Prop} {H H1 : Hp} {fp : List Addr} (e : Ex H H1) (n : ∀ q ∈ fp, H q = none) : Tr F P H F (fun q => P q ∨ q ∈ fp) H1 :=
  ⟨fun _ h => h, fun p o h _ => e p o h, fun p o h => ⟨o, e p o h⟩, fun p h => h.imp id (n p), fun _ h => .inl h⟩
theorem Ok.alloc {δ : Loc} {N : Nm} {F P : Addr → Prop} {σ : St} {H H1 : Hp} {d : D} {a : Addr} {fp : List Addr} (o : Ok δ N F P σ H) (e : Ex H H1) (r : Rp H1 d (.ref a) fp) (ha : a ∈ fp) (nd : fp.Nodup) (new : ∀ q ∈ fp, H q = none) :
    N a = none ∧ Ok δ (updN N a ⟨true, d⟩) F (fun q => P q ∨ q ∈ fp) σ H1 ∧ Tr F P H F (fun q => P q ∨ q ∈ fp) H1 := by
  obtain ⟨fpm, w⟩ := o.wf
  have f2 : ∀ q ∈ fp, ∀ b c, N b = some c → q ∉ fpm b := fun q hq b c h z => by
    obtain ⟨ob, ho, _⟩ := Rp.there _ _ _ (w.cell b c h).1 q z
    rw [new q hq] at ho; cases ho
  have f1 : ∀ q ∈ fp, ¬ F q := fun q hq z => by
    obtain ⟨_, ob, ho⟩ := w.fr q z
    rw [new q hq] at ho; cases ho
  have w1 : Wf N F P H1 fpm := ⟨fun a c h => ⟨(w.cell a c h).1.ex e, (w.cell a c h).2⟩, w.own, w.sep, fun p h => ⟨(w.fr p h).1, let ⟨_, ob, ho⟩ := w.fr p h; ⟨ob, e p ob ho⟩⟩, fun p h => let ⟨ob, h1, h2⟩ := w.pr p h; ⟨ob, e p ob h1, h2⟩⟩
  obtain ⟨a1, a2⟩ := w1.alloc r ha nd f1 f2
  exact ⟨a1, ⟨⟨_, a2⟩, o.sr.ex e⟩, Tr.alloc e new⟩
def sSetM (i : Nat) (f : PF) : WS := fun K δ N => (f δ N).ok ∧ IsC (f δ N).val ∧ ∀ a, N a = none → K.nx (δ.set i (some (.ref a))) (updN N a ⟨true, (f δ N).val⟩)
/-- x = a new list (dict) that will be changed -/
theorem ds_setM {i : Nat} {y : Str} {e : Expr} {f : PF} {pos' : Pos} (hN : X.N.Nodup) (hi : X.N[i]? = some y) (hx : L2.Loc X.env.scope y) (he : DP X .frs e f) (hs : swapsWith e (some (.Name y pos')) pos.line X.env = pure false := by rfl)
    (hf : X.fn y = true ∨ X.env.scope.names.lookup y = some .local := by first | exact .inl rfl | exact .inr rfl | assumption) : DS X E rc (.Assign [.Name y pos'] e pos) (sSetM i f) := ps_imp (ps_set hN hi hx he hs hf) fun D σ H h => by
  obtain ⟨δ, N, F, P, K, o, ⟨ok, kc, q⟩, e⟩ := h
  refine ⟨δ, N, F, o.sr, o.nr, ok, fun v H1 fp e1 r1 k1 => ?_⟩
  obtain ⟨a, rfl, ha⟩ := r1.cell kc
  obtain ⟨h1, o1, t1⟩ := o.alloc e1 r1 ha k1.1 k1.2
  exact e.nx _ H1 F _ _ _ t1 ⟨o1.wf, o1.sr.set (d := .ref a) (fp := []) ⟨rfl, rfl⟩ (by simp)⟩ (q a h1)
/-- x, y = two new ones -/
def sParM (i j : Nat) (g : AF) : WS := fun K δ N => (g δ N).ok ∧ ∃ d1 d2, (g δ N).vals = [d1, d2] ∧ IsC d1 ∧ IsC d2 ∧ ∀ a b, a ≠ b → N a = none → N b = none → K.nx ((δ.set i (some (.ref a))).set j (some (.ref b))) (updN (updN N a ⟨true, d1⟩) b ⟨true, d2⟩)
theorem ds_parM {i j : Nat} {y z : Str} {a b : Expr} {g : AF} {px py pt : Pos} {kt k2 pt2} (hc : X.calm = true) (hN : X.N.Nodup) (hi : X.N[i]? = some y) (hj : X.N[j]? = some z) (hij : i ≠ j)
    (hx : X.env.scope.names.lookup y = some .local) (hy : X.env.scope.names.lookup z = some .local) (ha : DA X .frs [a, b] g)
    (hw : swappedStores [.Tuple [.Name y px, .Name z py] kt pt] (.Tuple [a, b] k2 pt2) X.env = pure (some [y, z]))
    (hs : swapsWithSole [.Tuple [.Name y px, .Name z py] kt pt] (.Tuple [a, b] k2 pt2) pos.line X.env = pure false := by rfl) :
    DS X E rc (.Assign [.Tuple [.Name y px, .Name z py] kt pt] (.Tuple [a, b] k2 pt2) pos) (sParM i j g) := ps_imp (ps_par hc hN hi hj hij hx hy ha hw hs) fun D σ H h => by
  obtain ⟨δ, N, F, P, K, o, ⟨ok, d1, d2, ev, k1, k2, q⟩, e⟩ := h
  refine ⟨δ, N, F, o.sr, o.nr, ok, fun vs H1 fp e1 r1 kk => ?_⟩
  rw [ev] at r1
  obtain ⟨v, vr, f, f', rfl, ra, rb, rfl⟩ := r1
  obtain ⟨v2, vr2, g1, g2, rfl, rb, rn, rfl⟩ := rb
  obtain ⟨rfl, rfl⟩ := rn
  rw [List.append_nil] at kk
  obtain ⟨nd1, nd2, nd3⟩ := List.nodup_append.mp kk.1
  obtain ⟨A, rfl, hA⟩ := ra.cell k1
  obtain ⟨B, rfl, hB⟩ := rb.cell k2
  obtain ⟨h1, o1, t1⟩ := o.alloc e1 ra hA nd1 fun p hp => kk.2 p (by simp [hp])
  obtain ⟨fpm, w1⟩ := o.wf
  have f1 : ∀ q ∈ f, ∀ b c, N b = some c → q ∉ fpm b := fun q hq b c h z => by
    obtain ⟨ob, ho, _⟩ := Rp.there _ _ _ (w1.cell b c h).1 q z
    rw [kk.2 q (by simp [hq])] at ho; cases ho
  have f2 : ∀ q ∈ g1, ∀ b c, N b = some c → q ∉ fpm b := fun q hq b c h z => by
    obtain ⟨ob, ho, _⟩ := Rp.there _ _ _ (w1.cell b c h).1 q z
    rw [kk.2 q (by simp [hq])] at ho; cases ho
  have nF : ∀ q, q ∈ f ∨ q ∈ g1 → ¬ F q := fun q hq z => by
    obtain ⟨_, ob, ho⟩ := w1.fr q z
    rw [kk.2 q (by rcases hq with h | h <;> simp [h])] at ho; cases ho
  have w1' : Wf N F P H1 fpm := ⟨fun a c h => ⟨(w1.cell a c h).1.ex e1, (w1.cell a c h).2⟩, w1.own, w1.sep, fun p h => ⟨(w1.fr p h).1, let ⟨_, ob, ho⟩ := w1.fr p h; ⟨ob, e1 p ob ho⟩⟩, fun p h => let ⟨ob, h1, h2⟩ := w1.pr p h; ⟨ob, e1 p ob h1, h2⟩⟩
  obtain ⟨_, w2⟩ := w1'.alloc ra hA nd1 (fun q hq => nF q (.inl hq)) f1
  obtain ⟨h3, w3⟩ := w2.alloc rb hB nd2 (fun q hq => nF q (.inr hq)) fun q hq b c h z => by
    by_cases hb : b = A
    · subst hb
      rw [if_pos rfl] at z
      exact nd3 q z q hq rfl
    · rw [updN_ne hb] at h
      rw [if_neg hb] at z
      exact f2 q hq b c h z
  have hAB : A ≠ B := fun z => nd3 A hA B hB z
  have hNB : N B = none := by rw [updN_ne (fun z => hAB z.symm)] at h3; exact h3
  have t3 : Tr F P H F (fun q => (P q ∨ q ∈ f) ∨ q ∈ g1) H1 := ⟨fun _ h => h, fun p o h _ => e1 p o h, fun p o h => ⟨o, e1 p o h⟩, fun p h => by
    rcases h with (h | h) | h
    · exact .inl h
    · exact .inr (kk.2 p (by simp [h]))
    · exact .inr (kk.2 p (by simp [h])), fun _ h => .inl h⟩
  refine ⟨_, _, rfl, e.nx _ H1 F _ _ _ t3 ⟨⟨_, w3⟩, ?_⟩ (q A B hAB h1 hNB)⟩
  exact ((o.sr.ex e1).set (d := .ref A) (fp := []) ⟨rfl, rfl⟩ (by simp)).set (d := .ref B) (fp := []) ⟨rfl, rfl⟩ (by simp)
/-- x, y = two values -/
def sPar (i j : Nat) (w : WA) : WS := fun K δ N => w δ N (fun ds N1 => ∃ d1 d2, ds = [d1, d2] ∧ K.nx ((δ.set i (some d1)).set j (some d2)) N1) K.ex
theorem ds_par {i j : Nat} {y z : Str} {a b : Expr} {g : WA} {px py pt : Pos} {kt k2 pt2} (hc : X.calm = true) (hN : X.N.Nodup) (hi : X.N[i]? = some y) (hj : X.N[j]? = some z) (hij : i ≠ j)
    (hx : X.env.scope.names.lookup y = some .local) (hy : X.env.scope.names.lookup z = some .local) (ha : DAE X E [a, b] g)
    (hw : swappedStores [.Tuple [.Name y px, .Name z py] kt pt] (.Tuple [a, b] k2 pt2) X.env = pure (some [y, z]))
    (hs : swapsWithSole [.Tuple [.Name y px, .Name z py] kt pt] (.Tuple [a, b] k2 pt2) pos.line X.env = pure false := by rfl) :
    DS X E rc (.Assign [.Tuple [.Name y px, .Name z py] kt pt] (.Tuple [a, b] k2 pt2) pos) (sPar i j g) := ps_imp (ps_par hc hN hi hj hij hx hy ha hw hs) fun D σ H h => by
  obtain ⟨δ, N, F, P, K, o, q, e⟩ := h
  refine ⟨δ, N, F, P, _, K.ex, o, q, fun vs H1 F1 P1 ds N1 fp t1 o1 r1 kk q1 => ?_, e.ex⟩
  obtain ⟨d1, d2, rfl, q1⟩ := q1
  obtain ⟨v, vr, f, f', rfl, ra, rb, rfl⟩ := r1
  obtain ⟨v2, vr2, g1, g2, rfl, rb, rn, rfl⟩ := rb
  obtain ⟨rfl, rfl⟩ := rn
  exact ⟨_, _, rfl, e.nx _ H1 F1 P1 _ _ t1 ⟨o1.wf, (o1.sr.set ra fun p hp => kk p (by simp [hp])).set rb fun p hp => kk p (by simp [hp])⟩ q1⟩
end

/-! ### what is handed back, its new lists told -/
mutual
def refsW (N : Nm) : D → List Addr
  | .ref a => match N a with
    | some ⟨true, _⟩ => [a]
    | _ => []
  | .tup ds => refsWs N ds
  | _ => []
def refsWs (N : Nm) : List D → List Addr
  | [] => []
  | d :: ds => refsW N d ++ refsWs N ds
end
mutual
def res (N : Nm) : D → D
  | .ref a => match N a with
    | some ⟨true, t⟩ => t
    | _ => .ref a
  | .tup ds => .tup (ress N ds)
  | d => d
def ress (N : Nm) : List D → List D
  | [] => []
  | d :: ds => res N d :: ress N ds
end
def RES (N : Nm) (d d' : D) : Prop := (refsW N d).Nodup ∧ res N d = d'
mutual
theorem Wf.res {N : Nm} {F P : Addr → Prop} {H : Hp} {fpm : Addr → List Addr} (w : Wf N F P H fpm) : ∀ (d : D) (v : V) (fp : List Addr), Rp H d v fp → fp.Nodup → (∀ p ∈ fp, ¬ P p) → (refsW N d).Nodup →
    ∃ fp', Rp H (DL.res N d) v fp' ∧ fp'.Nodup ∧ ∀ p ∈ fp', p ∈ fp ∨ ∃ a ∈ refsW N d, p ∈ fpm a ∧ P p
  | .ref a, v, fp, r, nd, np, nr => by
    cases h : N a with
    | none => exact ⟨fp, by simp only [DL.res, h]; exact r, nd, fun p hp => .inl hp⟩
    | some c =>
      obtain ⟨b, t⟩ := c
      cases b with
      | false => exact ⟨fp, by simp only [DL.res, h]; exact r, nd, fun p hp => .inl hp⟩
      | true =>
        have ev : v = .ref a := r.1
        subst ev
        obtain ⟨o1, o2⟩ := w.own a _ h rfl
        exact ⟨fpm a, by simp only [DL.res, h]; exact (w.cell a _ h).1, o1, fun p hp => .inr ⟨a, by simp [refsW, h], hp, o2 p hp⟩⟩
  | .tup ds, v, fp, r, nd, np, nr => by
    obtain ⟨p, vs, rfl, hp, rl⟩ := r
    obtain ⟨fp', h1, h2, h3⟩ := w.ress ds vs fp rl nd np (by simpa [refsW] using nr)
    exact ⟨fp', by simp only [DL.res]; exact ⟨p, vs, rfl, hp, h1⟩, h2, fun q hq => by simpa [refsW] using h3 q hq⟩
  | .non, v, fp, r, nd, _, _ => ⟨fp, r, nd, fun p hp => .inl hp⟩
  | .bl _, v, fp, r, nd, _, _ => ⟨fp, r, nd, fun p hp => .inl hp⟩
  | .int _, v, fp, r, nd, _, _ => ⟨fp, r, nd, fun p hp => .inl hp⟩
  | .str _, v, fp, r, nd, _, _ => ⟨fp, r, nd, fun p hp => .inl hp⟩
  | .lst _, v, fp, r, nd, _, _ => ⟨fp, r, nd, fun p hp => .inl hp⟩
  | .dic _ _, v, fp, r, nd, _, _ => ⟨fp, r, nd, fun p hp => .inl hp⟩
  | .obj _ _ _ _, v, fp, r, nd, _, _ => ⟨fp, r, nd, fun p hp => .inl hp⟩
theorem Wf.ress {N : Nm} {F P : Addr → Prop} {H : Hp} {fpm : Addr → List Addr} (w : Wf N F P H fpm) : ∀ (ds : List D) (vs : List V) (fp : List Addr), RpL H ds vs fp → fp.Nodup → (∀ p ∈ fp, ¬ P p) → (refsWs N ds).Nodup →
    ∃ fp', RpL H (DL.ress N ds) vs fp' ∧ fp'.Nodup ∧ ∀ p ∈ fp', p ∈ fp ∨ ∃ a ∈ refsWs N ds, p ∈ fpm a ∧ P p
  | [], vs, fp, r, nd, _, _ => ⟨fp, r, nd, fun p hp => .inl hp⟩
  | d :: ds, vs, fp, r, nd, np, nr => by
    obtain ⟨v, vr, f, g, rfl, h1, h2, rfl⟩ := r
    obtain ⟨n1, n2, n3⟩ := List.nodup_append.mp nd
    obtain ⟨m1, m2, m3⟩ := List.nodup_append.mp (show (refsW N d ++ refsWs N ds).Nodup from nr)
    obtain ⟨f', a1, a2, a3⟩ := w.res d v f h1 n1 (fun p hp => np p (by simp [hp])) m1
    obtain ⟨g', b1, b2, b3⟩ := w.ress ds vr g h2 n2 (fun p hp => np p (by simp [hp])) m2
    refine ⟨f' ++ g', ⟨v, vr, f', g', rfl, a1, b1, rfl⟩, List.nodup_append.mpr ⟨a2, b2, fun x hx y hy z => ?_⟩, fun p hp => ?_⟩
    · subst z
      rcases a3 x hx with h | ⟨a, ha, h, hP⟩
      · rcases b3 x hy with k | ⟨b, hb, k, hP⟩
        · exact n3 x h x k rfl
        · exact np x (by simp [h]) hP
      · rcases b3 x hy with k | ⟨b, hb, k, _⟩
        · exact np x (by simp [k]) hP
        · have hab : a ≠ b := m3 a ha b hb
          obtain ⟨ca, hca, hwa⟩ := refs_cell d a ha
          obtain ⟨cb, hcb, hwb⟩ := refs_cells ds b hb
          exact w.sep a b ca cb hab hca hwa hcb x h k
    · rcases List.mem_append.mp hp with hp | hp
      · rcases a3 p hp with h | ⟨a, ha, h⟩
        · exact .inl (by simp [h])
        · exact .inr ⟨a, by simp [refsWs, ha], h⟩
      · rcases b3 p hp with h | ⟨a, ha, h⟩
        · exact .inl (by simp [h])
        · exact .inr ⟨a, by simp [refsWs, ha], h⟩
theorem refs_cell {N : Nm} : ∀ (d : D) (a : Addr), a ∈ refsW N d → ∃ c, N a = some c ∧ c.w = true
  | .ref b, a, h => by
    simp only [refsW] at h
    split at h
    · rename_i t hb
      rcases List.mem_singleton.mp h with rfl
      exact ⟨_, hb, rfl⟩
    · cases h
  | .tup ds, a, h => refs_cells ds a (by simpa [refsW] using h)
  | .non, a, h => by simp [refsW] at h
  | .bl _, a, h => by simp [refsW] at h
  | .int _, a, h => by simp [refsW] at h
  | .str _, a, h => by simp [refsW] at h
  | .lst _, a, h => by simp [refsW] at h
  | .dic _ _, a, h => by simp [refsW] at h
  | .obj _ _ _ _, a, h => by simp [refsW] at h
theorem refs_cells {N : Nm} : ∀ (ds : List D) (a : Addr), a ∈ refsWs N ds → ∃ c, N a = some c ∧ c.w = true
  | [], a, h => by simp [refsWs] at h
  | d :: ds, a, h => by
    rcases List.mem_append.mp (show a ∈ refsW N d ++ refsWs N ds from h) with h | h
    · exact refs_cell d a h
    · exact refs_cells ds a h
end
end DL
set_option maxHeartbeats 4000000
/-! The data layer, 10: places within one's own objects, what changes them. -/
namespace DL
open PySem L2

inductive Stp | ix (i : Int) | fld (f : Str) | key (k : Key)
abbrev Pth := List Stp
def kids : D → List D
  | .lst xs => xs
  | .dic _ xs => xs
  | .obj _ _ _ xs => xs
  | _ => []
def setKid : D → Nat → D → D
  | .lst xs, n, d => .lst (xs.set n d)
  | .dic ks xs, n, d => .dic ks (xs.set n d)
  | .obj C dx ns xs, n, d => .obj C dx ns (xs.set n d)
  | e, _, _ => e
def idxOf_ {α : Type} [DecidableEq α] (a : α) : List α → Option Nat
  | [] => none
  | b :: bs => if b = a then some 0 else (idxOf_ a bs).map (· + 1)
def stpIx : D → Stp → Option Nat
  | .lst xs, .ix i => ixN xs.length i
  | .dic ks _, .key k => idxOf_ k ks
  | .obj _ _ ns _, .fld f => idxOf_ f ns
  | _, _ => none
def sub : D → Pth → Option D
  | d, [] => some d
  | d, s :: π => match stpIx d s with
    | none => none
    | some n => match (kids d)[n]? with
      | none => none
      | some e => sub e π
def put : D → Pth → D → D
  | _, [], e => e
  | d, s :: π, e => match stpIx d s with
    | none => d
    | some n => match (kids d)[n]? with
      | none => d
      | some x => setKid d n (put x π e)
/-- what an object holds, in order -/
def hvals : HO → List V
  | .lst xs => xs
  | .dK kvs => kvs.map (·.2)
  | .ins _ _ fs => fs.map (·.2)
  | _ => []
/-- u stands at the place π of d, borne at v -/
inductive AtV (H : Hp) : D → V → Pth → D → V → Prop
  | nil {d : D} {v : V} : AtV H d v [] d v
  | cons {d e s : D} {st : Stp} {π : Pth} {p : Addr} {o : HO} {n : Nat} {ve u : V} : stpIx d st = some n → (kids d)[n]? = some e → H p = some o → (hvals o)[n]? = some ve → AtV H e ve π s u → AtV H d (.ref p) (st :: π) s u
theorem AtV.sub_ {H : Hp} {d s : D} {v u : V} {π : Pth} (h : AtV H d v π s u) : sub d π = some s := by
  induction h with
  | nil => rfl
  | cons a b c d' e ih => simp only [sub, a, b]; exact ih
theorem AtV.ex {H H' : Hp} {d s : D} {v u : V} {π : Pth} (h : AtV H d v π s u) (e : Ex H H') : AtV H' d v π s u := by
  induction h with
  | nil => exact .nil
  | cons a b c d' _ ih => exact .cons a b (e _ _ c) d' ih
theorem AtV.snoc {H : Hp} {d s e : D} {v ve : V} {π : Pth} {p : Addr} {st : Stp} {o : HO} {n : Nat} (h : AtV H d v π s (.ref p)) (a : stpIx s st = some n) (b : (kids s)[n]? = some e) (c : H p = some o) (f : (hvals o)[n]? = some ve) : AtV H d v (π ++ [st]) e ve := by
  generalize hu : V.ref p = u at h
  induction h with
  | nil => subst hu; exact .cons a b c f .nil
  | cons a' b' c' d' _ ih => exact .cons a' b' c' d' (ih a b hu)
/-- an item in its place, put anew -/
theorem RpL.zip {H : Hp} : ∀ {ds : List D} {vs : List V} {fp : List Addr} {n : Nat} {d : D} {v : V}, RpL H ds vs fp → ds[n]? = some d → vs[n]? = some v →
    ∃ f1 f f2, Rp H d v f ∧ fp = f1 ++ f ++ f2 ∧ ∀ (H' : Hp) (d' : D) (v' : V) (f' : List Addr), (∀ p vs, H p = some (.tup vs) → H' p = some (.tup vs)) → (∀ p, p ∈ f1 ∨ p ∈ f2 → H' p = H p) → Rp H' d' v' f' → RpL H' (ds.set n d') (vs.set n v') (f1 ++ f' ++ f2)
  | [], vs, fp, n, d, v, h, e, _ => by simp at e
  | x :: ds, vs, fp, n, d, v, h, e, ev => by
    obtain ⟨w, vr, f, g, rfl, h1, h2, rfl⟩ := h
    cases n with
    | zero =>
      simp at e ev; subst e ev
      refine ⟨[], f, g, h1, by simp, fun H' d' v' f' ht hk r => ?_⟩
      exact ⟨v', vr, f', g, rfl, r, RpL.keep ht _ _ _ h2 fun p hp => hk p (.inr hp), by simp⟩
    | succ n =>
      obtain ⟨f1, f0, f2, a1, a2, a3⟩ := RpL.zip h2 (n := n) (d := d) (v := v) (by simpa using e) (by simpa using ev)
      subst a2
      refine ⟨f ++ f1, f0, f2, a1, by simp, fun H' d' v' f' ht hk r => ?_⟩
      have := a3 H' d' v' f' ht (fun p hp => hk p (hp.imp (fun z => by simp [z]) id)) r
      exact ⟨w, vr.set n v', f, f1 ++ f' ++ f2, by simp, Rp.keep ht _ _ _ h1 fun p hp => hk p (.inl (by simp [hp])), this, by simp⟩
theorem list_set_self {α : Type} {xs : List α} {n : Nat} {x : α} (h : xs[n]? = some x) : xs.set n x = xs := by
  apply List.ext_getElem?
  intro i
  by_cases hi : n = i
  · subst hi
    have hlt := (List.getElem?_eq_some_iff.mp h).1
    rw [List.getElem?_set_self hlt, h]
  · rw [List.getElem?_set_ne hi]
theorem zip_snd {α β : Type} : ∀ {as : List α} {bs : List β}, as.length = bs.length → (as.zip bs).map (·.2) = bs
  | [], [], _ => rfl
  | [], _ :: _, h => by simp at h
  | _ :: _, [], h => by simp at h
  | a :: as, b :: bs, h => by simp [zip_snd (as := as) (bs := bs) (by simpa using h)]
/-- what stands at a place, put anew -/
theorem AtV.zip {H : Hp} {d s : D} {v u : V} {π : Pth} (h : AtV H d v π s u) : ∀ {fp : List Addr}, Rp H d v fp →
    ∃ f1 f f2, Rp H s u f ∧ fp = f1 ++ f ++ f2 ∧ ∀ (H' : Hp) (s' : D) (f' : List Addr), (∀ p vs, H p = some (.tup vs) → H' p = some (.tup vs)) → (∀ p, p ∈ f1 ∨ p ∈ f2 → H' p = H p) → Rp H' s' u f' → Rp H' (put d π s') v (f1 ++ f' ++ f2) := by
  induction h with
  | nil => exact fun {fp} r => ⟨[], fp, [], r, by simp, fun H' s' f' _ _ r' => by simpa [put] using r'⟩
  | @cons d e s st π p o n ve u a b c d' h ih =>
    intro fp r
    have key : ∃ vs f, fp = p :: f ∧ hvals o = vs ∧ RpL H (kids d) vs f ∧ ∀ (H' : Hp) (x : D) (g : List Addr), H' p = H p → RpL H' ((kids d).set n x) vs g → Rp H' (setKid d n x) (.ref p) (p :: g) := by
      cases d with
      | lst xs =>
        obtain ⟨q, vs, f, e1, e2, e3, rfl⟩ := r
        cases e1
        rw [c] at e2; cases e2
        exact ⟨vs, f, rfl, rfl, e3, fun H' x g hp hl => ⟨p, vs, g, rfl, by rw [hp]; exact c, hl, rfl⟩⟩
      | dic ks xs =>
        obtain ⟨q, vs, f, e1, e2, e3, e4, rfl⟩ := r
        cases e1
        rw [c] at e2; cases e2
        exact ⟨vs, f, rfl, zip_snd e4, e3, fun H' x g hp hl => ⟨p, vs, g, rfl, by rw [hp]; exact c, hl, e4, rfl⟩⟩
      | obj C dx ns xs =>
        obtain ⟨q, vs, f, e1, e2, e3, e4, rfl⟩ := r
        cases e1
        rw [c] at e2; cases e2
        exact ⟨vs, f, rfl, zip_snd e4, e3, fun H' x g hp hl => ⟨p, vs, g, rfl, by rw [hp]; exact c, hl, e4, rfl⟩⟩
      | _ => simp [stpIx] at a
    obtain ⟨vs, f, rfl, ev, rl, back⟩ := key
    rw [ev] at d'
    obtain ⟨f1, f0, f2, a1, rfl, a3⟩ := rl.zip b d'
    obtain ⟨g1, g0, g2, b1, rfl, b3⟩ := ih a1
    refine ⟨p :: (f1 ++ g1), g0, g2 ++ f2, b1, by simp, fun H' s' f' ht hk r' => ?_⟩
    have r2 := b3 H' s' f' ht (fun q hq => hk q (hq.imp (fun z => by simp [z]) (fun z => by simp [z]))) r'
    have r3 := a3 H' _ ve _ ht (fun q hq => hk q (hq.imp (fun z => by simp [z]) (fun z => by simp [z]))) r2
    rw [list_set_self d'] at r3
    have r4 := back H' _ _ (hk p (.inl (by simp))) r3
    have ep : put d (st :: π) s' = setKid d n (put e π s') := by simp only [put, a, b]
    rw [ep]
    have el : p :: (f1 ++ (g1 ++ f' ++ g2) ++ f2) = p :: (f1 ++ g1) ++ f' ++ (g2 ++ f2) := by simp
    rw [← el]
    exact r4
/-- THE WRITE: the object at a place of an own root is changed -/
theorem Ok.write {δ : Loc} {N : Nm} {F P : Addr → Prop} {σ : St} {H0 H : Hp} {a p : Addr} {t s s' : D} {π : Pth} {o' : HO} {g : List Addr} (o : Ok δ N F P σ H0) (e : Ex H0 H) (hN : N a = some ⟨true, t⟩)
    (at_ : AtV H t (.ref a) π s (.ref p)) (hs : ∃ ob, H p = some ob ∧ ∀ xs, ob ≠ .tup xs) (hp : ∀ f, Rp H s (.ref p) f → p ∈ f) (gn : ∀ q ∈ g, H0 q = none) (gd : g.Nodup)
    (hr : ∀ f, Rp H s (.ref p) f → f.Nodup → (∀ q ∈ f, q ∉ g) → ∃ f', Rp (upd H p o') s' (.ref p) f' ∧ f'.Nodup ∧ ∀ q ∈ f', q ∈ f ∨ q ∈ g) (hrt : π = [] → a = p) (hra : ∀ f, Rp (upd H p o') (put t π s') (.ref a) f → a ∈ f) (ho : ∀ xs, o' ≠ .tup xs) :
    Ok δ (updN N a ⟨true, put t π s'⟩) F (fun q => P q ∨ q ∈ g ∧ (upd H p o' q).isSome = true ∧ ∀ xs, upd H p o' q ≠ some (.tup xs)) σ (upd H p o') ∧ Tr F P H0 F (fun q => P q ∨ q ∈ g ∧ (upd H p o' q).isSome = true ∧ ∀ xs, upd H p o' q ≠ some (.tup xs)) (upd H p o') := by
  obtain ⟨fpm, w⟩ := o.wf
  obtain ⟨ra, haa⟩ := w.cell a _ hN
  obtain ⟨nda, Pa⟩ := w.own a _ hN rfl
  obtain ⟨f1, f, f2, rs, efp, back⟩ := at_.zip (ra.ex e)
  rw [efp] at nda Pa
  have pf : p ∈ f := hp f rs
  have nd1 := List.nodup_append.mp nda
  have nd2 := List.nodup_append.mp nd1.1
  have old : ∀ b c, N b = some c → ∀ q ∈ fpm b, ∃ ob, H0 q = some ob := fun b c h q hq => let ⟨ob, h1, _⟩ := Rp.there _ _ _ (w.cell b c h).1 q hq; ⟨ob, h1⟩
  have fg : ∀ q, q ∈ f1 ∨ q ∈ f ∨ q ∈ f2 → q ∉ g := fun q hq z => by
    obtain ⟨ob, h1⟩ := old a _ hN q (by rw [efp]; rcases hq with h | h | h <;> simp [h])
    rw [gn q z] at h1; cases h1
  obtain ⟨f', r', nd', sub'⟩ := hr f rs nd2.2.1 fun q hq => fg q (.inr (.inl hq))
  have pne : ∀ q, q ∈ f1 ∨ q ∈ f2 → q ≠ p := fun q hq z => by
    subst z
    rcases hq with h | h
    · exact nd2.2.2 q h q pf rfl
    · exact nd1.2.2 q (by simp [pf]) q h rfl
  have ht : ∀ q vs, H q = some (.tup vs) → upd H p o' q = some (.tup vs) := fun q vs h => by
    rw [upd_ne]
    · exact h
    · intro z
      subst z
      obtain ⟨ob, h1, h2⟩ := hs
      rw [h] at h1; cases h1; exact h2 _ rfl
  have rn := back (upd H p o') s' f' ht (fun q hq => upd_ne (pne q hq)) r'
  have Pp : P p := Pa p (by simp [pf])
  have keepR : ∀ (d : D) (v : V) (fp : List Addr), Rp H0 d v fp → (∀ q ∈ fp, q ≠ p) → Rp (upd H p o') d v fp := fun d v fp r n => Rp.keep ht d v fp (r.ex e) fun q hq => upd_ne (n q hq)
  have cellP : ∀ q, q ∈ f' → ∃ ob, upd H p o' q = some ob ∧ ∀ xs, ob ≠ .tup xs := fun q hq => Rp.there _ _ _ r' q hq
  have upn : ∀ {q : Addr} {ob : HO}, H0 q = some ob → ∃ ob', upd H p o' q = some ob' := fun {q ob} h => by
    by_cases z : q = p
    · subst z; exact ⟨_, upd_same⟩
    · exact ⟨ob, by rw [upd_ne z]; exact e q ob h⟩
  refine ⟨⟨⟨fun b => if b = a then f1 ++ f' ++ f2 else fpm b, fun b c h => ?_, fun b c h hw => ?_, fun b b' c c' hne h hw h' q hq => ?_, fun q h => ?_, fun q h => ?_⟩, ⟨o.sr.len, fun q h => ?_, fun i d q => ?_⟩⟩, ⟨fun q h => h, fun q ob h n => ?_, fun q ob h => upn h, fun q h => ?_, fun q h => .inl h⟩⟩
  · by_cases hb : b = a
    · subst hb
      rw [updN_same] at h; cases h
      rw [if_pos rfl]
      exact ⟨rn, hra _ rn⟩
    · rw [updN_ne hb] at h
      rw [if_neg hb]
      obtain ⟨r1, r2⟩ := w.cell b c h
      exact ⟨keepR _ _ _ r1 fun q hq z => w.sep a b _ c (Ne.symm hb) hN rfl h p (by rw [efp]; simp [pf]) (z ▸ hq), r2⟩
  · by_cases hb : b = a
    · subst hb
      rw [if_pos rfl]
      refine ⟨List.nodup_append.mpr ⟨List.nodup_append.mpr ⟨nd2.1, nd', fun x hx y hy z => ?_⟩, nd1.2.1, fun x hx y hy z => ?_⟩, fun q hq => ?_⟩
      · subst z
        rcases sub' x hy with h | h
        · exact nd2.2.2 x hx x h rfl
        · exact fg x (.inl hx) h
      · subst z
        rcases List.mem_append.mp hx with hx | hx
        · exact nd1.2.2 x (by simp [hx]) x hy rfl
        · rcases sub' x hx with h | h
          · exact nd1.2.2 x (by simp [h]) x hy rfl
          · exact fg x (.inr (.inr hy)) h
      · rcases List.mem_append.mp hq with hq | hq
        · rcases List.mem_append.mp hq with hq | hq
          · exact .inl (Pa q (by simp [hq]))
          · rcases sub' q hq with h | h
            · exact .inl (Pa q (by simp [h]))
            · obtain ⟨ob, h1, h2⟩ := cellP q hq
              exact .inr ⟨h, by rw [h1]; rfl, fun xs z => by rw [h1] at z; cases z; exact h2 _ rfl⟩
        · exact .inl (Pa q (by simp [hq]))
    · rw [updN_ne hb] at h
      rw [if_neg hb]
      exact ⟨(w.own b c h hw).1, fun q hq => .inl ((w.own b c h hw).2 q hq)⟩
  · by_cases hb : b = a
    · subst hb
      have hb' : b' ≠ b := fun z => hne z.symm
      rw [if_pos rfl] at hq
      rw [updN_ne hb'] at h'
      rw [if_neg hb']
      intro z
      have inA : q ∈ f1 ++ f ++ f2 → False := fun k => w.sep b b' _ c' hne hN rfl h' q (by rw [efp]; exact k) z
      rcases List.mem_append.mp hq with hq | hq
      · rcases List.mem_append.mp hq with hq | hq
        · exact inA (by simp [hq])
        · rcases sub' q hq with k | k
          · exact inA (by simp [k])
          · obtain ⟨ob, h1⟩ := old b' c' h' q z
            rw [gn q k] at h1; cases h1
      · exact inA (by simp [hq])
    · rw [updN_ne hb] at h
      rw [if_neg hb] at hq
      by_cases hb' : b' = a
      · subst hb'
        rw [if_pos rfl]
        intro z
        have inA : q ∈ f1 ++ f ++ f2 → False := fun k => w.sep b b' c _ hne h hw hN q hq (by rw [efp]; exact k)
        rcases List.mem_append.mp z with z | z
        · rcases List.mem_append.mp z with z | z
          · exact inA (by simp [z])
          · rcases sub' q z with k | k
            · exact inA (by simp [k])
            · obtain ⟨ob, h1⟩ := old b c h q hq
              rw [gn q k] at h1; cases h1
        · exact inA (by simp [z])
      · rw [updN_ne hb'] at h'
        rw [if_neg hb']
        exact w.sep b b' c c' hne h hw h' q hq
  · obtain ⟨n, ob, h1⟩ := w.fr q h
    exact ⟨fun z => z.elim n (fun z => by rw [gn q z.1] at h1; cases h1), upn h1⟩
  · rcases h with h | ⟨h, h2, h3⟩
    · obtain ⟨ob, h1, h2⟩ := w.pr q h
      by_cases z : q = p
      · subst z
        exact ⟨o', upd_same, ho⟩
      · exact ⟨ob, by rw [upd_ne z]; exact e q ob h1, h2⟩
    · obtain ⟨ob, h4⟩ := Option.isSome_iff_exists.mp h2
      exact ⟨ob, h4, fun xs z => h3 xs (by rw [h4, z])⟩
  · obtain ⟨_, ob, h1⟩ := w.fr q h
    exact upn h1
  · obtain ⟨v, fp, h1, h2, h3⟩ := o.sr.at_ i d q
    exact ⟨v, fp, h1, keepR d v fp h2 fun q hq z => (w.fr q (h3 q hq)).1 (z ▸ Pp), h3⟩
  · rw [upd_ne (show q ≠ p from fun z => n (by rw [z]; exact Pp))]
    exact e q ob h
  · rcases h with h | h
    · exact .inl h
    · exact .inr (gn q h.1)
end DL
set_option maxHeartbeats 4000000
/-! The data layer, 11: places as expressions, the statements that change, the rules for defs. -/
namespace DL
open PySem L2
section
variable {X : Cx} {E : XK} {c c1 c2 c3 : Cl} {pos p : Pos} {x : Str} {rc : Bool} {s : Stmt} {ss : List Stmt} {w u : WS} {tg : Expr}
structure PLV where
  ok : Prop
  a : Addr
  π : Pth
abbrev PLF := Loc → Nm → PLV
def tPl (pl : PLF) : TE := fun σ H Q => ∃ δ N F P, Ok δ N F P σ H ∧ ∃ c s, (pl δ N).ok ∧ N (pl δ N).a = some c ∧ sub c.d (pl δ N).π = some s ∧ ∀ u H', Ex H H' → AtV H' c.d (.ref (pl δ N).a) (pl δ N).π s u → Q u H'
abbrev PLc (X : Cx) (e : Expr) (pl : PLF) : Prop := PE X e (tPl pl)
def rA : Option D → Addr | some (.ref a) => a | _ => 0
def lV (i : Nat) : PLF := fun δ N => ⟨lk δ i = some (.ref (rA (lk δ i))), rA (lk δ i), []⟩
theorem pl_var (i : Nat) {x : Str} (hN : X.N[i]? = some x := by rfl) (hv : Vis X.env.scope x := by first | exact Or.inl rfl | exact Or.inr (Or.inl rfl) | exact Or.inr (Or.inr rfl)) (hd : (x == ("__debug__" : Str)) = false := by decide)
    (hcd : (x == ("__classdict__" : Str)) = false := by decide) : PLc X (.Name x pos) (lV i) := by
  refine pe_imp (pe_var hN hv hd hcd) fun σ H Q h => ?_
  obtain ⟨δ, N, F, P, o, c, s, ok, hNa, hs, q⟩ := h
  obtain ⟨v, fp, h1, h2, h3⟩ := o.sr.at_ i _ (lk_get ok)
  have ev : v = .ref (lV i δ N).a := h2.1
  subst ev
  have es : c.d = s := by simpa [lV, sub] using hs
  subst es
  exact ⟨_, h1, q _ H (Ex.refl H) .nil⟩
theorem sub_snoc {st : Stp} {s : D} : ∀ {π : Pth} {d : D}, sub d (π ++ [st]) = some s → ∃ s0 n, sub d π = some s0 ∧ stpIx s0 st = some n ∧ (kids s0)[n]? = some s
  | [], d, h => by
    simp only [List.nil_append, sub] at h
    cases e1 : stpIx d st with
    | none => rw [e1] at h; cases h
    | some n =>
      rw [e1] at h
      simp only at h
      cases e2 : (kids d)[n]? with
      | none => rw [e2] at h; cases h
      | some k => rw [e2] at h; exact ⟨d, n, rfl, e1, by rw [e2]; simpa [sub] using h⟩
  | t :: π, d, h => by
    simp only [List.cons_append, sub] at h ⊢
    cases e1 : stpIx d t with
    | none => rw [e1] at h; cases h
    | some n =>
      rw [e1] at h
      simp only at h ⊢
      cases e2 : (kids d)[n]? with
      | none => rw [e2] at h; cases h
      | some k => rw [e2] at h; exact sub_snoc (π := π) h
def lIx (pl : PLF) (f : PF) : PLF := fun δ N => ⟨(pl δ N).ok ∧ (f δ N).ok ∧ IsI (f δ N).val, (pl δ N).a, (pl δ N).π ++ [.ix (toI (f δ N).val)]⟩
theorem ix_lst {s : D} {i : Int} {n : Nat} (h : stpIx s (.ix i) = some n) : ∃ xs, s = .lst xs ∧ ixN xs.length i = some n := by
  cases s <;> first | (simp [stpIx] at h; done) | exact ⟨_, rfl, h⟩
theorem pl_ix {e idx : Expr} {pl : PLF} {f : PF} (hp : PLc X e pl) (hi : DP X c idx f) (hs : PlainIx idx := by exact fun _ _ => rfl) : PLc X (.Subscript e idx pos) (lIx pl f) := by
  refine pe_imp (pe_ix ix_list hp hi hs) fun σ H Q h => ?_
  obtain ⟨δ, N, F, P, o, c, s, ⟨o1, o2, o3⟩, hNa, hs, q⟩ := h
  obtain ⟨s0, n, h1, h2, h3⟩ := sub_snoc hs
  refine ⟨δ, N, F, P, o, c, s0, o1, hNa, h1, fun u H1 e1 at1 => ?_⟩
  obtain ⟨xs, rfl, hix⟩ := ix_lst h2
  obtain ⟨fp, r, _⟩ := o.nr _ _ hNa
  obtain ⟨f1, f0, f2, rs, _, _⟩ := at1.zip (r.ex e1)
  obtain ⟨q', vs, f', rfl, hq, rl, rfl⟩ := rs
  refine ⟨δ, N, F, o.sr.ex e1, o.nr.ex e1, o2, fun v H2 fq e2 r2 k2 => ?_⟩
  obtain ⟨u, fu, g1, g2, _, _⟩ := rl.get (show xs[n]? = some s from h3)
  refine ⟨q', vs, _, u, rfl, r2.int_ o3, SqL.of (e2 _ _ hq), ?_, q u H2 (e1.trans e2) ?_⟩
  · unfold atI
    rw [← rl.length, hix]
    exact g1
  · exact (at1.ex e2).snoc h2 h3 (e2 _ _ hq) g1
theorem lookup_zip : ∀ {ns : List Str} {vs : List V} {f : Str} {n : Nat} {v : V}, idxOf_ f ns = some n → vs[n]? = some v → (ns.zip vs).lookup f = some v
  | [], _, _, _, _, h, _ => by simp [idxOf_] at h
  | m :: ns, [], f, n, v, _, h2 => by simp at h2
  | m :: ns, y :: vs, f, n, v, h, h2 => by
    simp only [idxOf_] at h
    split at h
    · rename_i e
      subst e
      cases h
      simp at h2; subst h2
      simp [List.lookup]
    · rename_i e
      cases e2 : idxOf_ f ns with
      | none => rw [e2] at h; cases h
      | some k =>
        rw [e2] at h
        cases h
        have : (f == m) = false := by simpa using fun z => e z.symm
        simp only [List.zip_cons_cons, List.lookup, this]
        exact lookup_zip e2 (by simpa using h2)
def lFld (C : Addr) (pl : PLF) (f : Str) : PLF := fun δ N => ⟨(pl δ N).ok ∧ ∃ c dx ns xs, N (pl δ N).a = some c ∧ sub c.d (pl δ N).π = some (.obj C dx ns xs), (pl δ N).a, (pl δ N).π ++ [.fld f]⟩
theorem fld_obj {s : D} {f : Str} {n : Nat} (h : stpIx s (.fld f) = some n) : ∃ C dx ns xs, s = .obj C dx ns xs ∧ idxOf_ f ns = some n := by
  cases s <;> first | (simp [stpIx] at h; done) | exact ⟨_, _, _, _, rfl, h⟩
theorem pl_fld {e : Expr} {pl : PLF} {f : Str} {C : Addr} (hp : PLc X e pl) (hC : Cls X.K C) (hn : NoAttr X.K C f) (hb : attributeBase e f X.env (eval e X.env) = eval e X.env) : PLc X (.Attribute e f pos) (lFld C pl f) := by
  refine pe_imp (pe_fld hp hb) fun σ H Q h => ?_
  obtain ⟨δ, N, F, P, o, c, s, ⟨o1, c2, dx2, ns2, xs2, hN2, hs2⟩, hNa, hs, q⟩ := h
  obtain ⟨s0, n, h1, h2, h3⟩ := sub_snoc hs
  refine ⟨δ, N, F, P, o, c, s0, o1, hNa, h1, fun u H1 e1 at1 => ?_⟩
  have hcc : c2 = c := by
    have hNa' : N (pl δ N).a = some c := hNa
    rw [hN2] at hNa'; exact Option.some.inj hNa'
  subst hcc
  rw [hs2] at h1
  cases h1
  have hix : idxOf_ f ns2 = some n := h2
  obtain ⟨fp, r, _⟩ := o.nr _ _ hNa
  obtain ⟨f1, f0, f2, rs, _, _⟩ := at1.zip (r.ex e1)
  obtain ⟨q', vs, f', rfl, hq, rl, hl, rfl⟩ := rs
  obtain ⟨u, fu, g1, g2, _, _⟩ := rl.get (show xs2[n]? = some s from h3)
  refine ⟨q', C, dx2, _, u, rfl, hq, hC, hn, lookup_zip hix g1, q u H1 e1 (at1.snoc h2 h3 hq ?_)⟩
  show ((ns2.zip vs).map (·.2))[n]? = some u
  rw [zip_snd hl]; exact g1
theorem Rp.isC {H : Hp} {d : D} {a : Addr} {f : List Addr} (h : Rp H d (.ref a) f) (k : IsC d) : a ∈ f := by
  obtain ⟨b, e, hb⟩ := h.cell k
  cases e; exact hb
theorem put_isC {t s s' : D} {π : Pth} (h : IsC t) (k : IsC s') : IsC (put t π s') := by
  cases π with
  | nil => exact k
  | cons st π =>
    simp only [put]
    split
    · exact h
    · split
      · exact h
      · cases t <;> first | exact h.elim | exact trivial
/-- a list at a place is changed -/
theorem Ok.writeL {δ : Loc} {N : Nm} {F P : Addr → Prop} {σ : St} {H0 H : Hp} {a p : Addr} {t : D} {π : Pth} {xs ys : List D} {vs ws : List V} {g : List Addr} (o : Ok δ N F P σ H0) (e : Ex H0 H) (hN : N a = some ⟨true, t⟩)
    (at_ : AtV H t (.ref a) π (.lst xs) (.ref p)) (hp : H p = some (.lst vs)) (gn : ∀ q ∈ g, H0 q = none) (gd : g.Nodup)
    (hr : ∀ f, RpL H xs vs f → f.Nodup → (∀ q ∈ f, q ∉ g) → ∃ f', RpL H ys ws f' ∧ f'.Nodup ∧ ∀ q ∈ f', q ∈ f ∨ q ∈ g) :
    ∃ P', Ok δ (updN N a ⟨true, put t π (.lst ys)⟩) F P' σ (upd H p (.lst ws)) ∧ Tr F P H0 F P' (upd H p (.lst ws)) := by
  have tC : IsC t := by
    cases π with
    | nil => cases at_; trivial
    | cons st π =>
      cases at_ with
      | cons a1 b1 c1 d1 e1 => cases t <;> first | (simp [stpIx] at a1; done) | trivial
  have key : ∀ f, Rp H (.lst xs) (.ref p) f → f.Nodup → (∀ q ∈ f, q ∉ g) → ∃ f', Rp (upd H p (.lst ws)) (.lst ys) (.ref p) f' ∧ f'.Nodup ∧ ∀ q ∈ f', q ∈ f ∨ q ∈ g := by
    intro f r nd ng
    obtain ⟨q, vs', f0, e1, hq, rl, rfl⟩ := r
    cases e1
    rw [hp] at hq; cases hq
    obtain ⟨n1, n2⟩ := List.nodup_cons.mp nd
    obtain ⟨f', r', nd', sb⟩ := hr f0 rl n2 fun q hq => ng q (by simp [hq])
    have pn : p ∉ f' := fun z => by
      rcases sb p z with k | k
      · exact n1 k
      · exact ng p (by simp) k
    refine ⟨p :: f', ⟨p, ws, f', rfl, upd_same, RpL.keep (fun q vs z => by rw [upd_ne (fun k => by rw [k, hp] at z; cases z)]; exact z) _ _ _ r' fun q hq => upd_ne fun z => pn (z ▸ hq), rfl⟩, List.nodup_cons.mpr ⟨pn, nd'⟩, fun q hq => ?_⟩
    rcases List.mem_cons.mp hq with rfl | hq
    · exact .inl (by simp)
    · rcases sb q hq with k | k
      · exact .inl (by simp [k])
      · exact .inr k
  have hw := o.write (s := .lst xs) (s' := .lst ys) (o' := .lst ws) (g := g) e hN at_ ⟨_, hp, fun _ z => by cases z⟩ (fun f r => r.isC trivial) gn gd (fun f r nd ng => key f r nd ng) (fun z => by subst z; cases at_; rfl) (fun f r => r.isC (put_isC (s := .lst xs) tC trivial)) (fun _ z => by cases z)
  exact ⟨_, hw.1, hw.2⟩
/-- what stands at a place that holds a list -/
theorem AtV.lst_ {H H1 : Hp} {δ : Loc} {N : Nm} {F P : Addr → Prop} {σ : St} {a : Addr} {cc : Cell} {π : Pth} {xs : List D} {u : V} (o : Ok δ N F P σ H) (hN : N a = some cc) (e : Ex H H1) (h : AtV H1 cc.d (.ref a) π (.lst xs) u) : ∃ p vs f, u = .ref p ∧ H1 p = some (.lst vs) ∧ RpL H1 xs vs f := by
  obtain ⟨fp, r, _⟩ := o.nr _ _ hN
  obtain ⟨f1, f0, f2, rs, _, _⟩ := h.zip (r.ex e)
  obtain ⟨q', vs, f', rfl, hq, rl, rfl⟩ := rs
  exact ⟨q', vs, f', rfl, hq, rl⟩
/-- PLACE.append(e), e pure -/
def sApp (pl : PLF) (f : PF) : WS := fun K δ N => (pl δ N).ok ∧ (f δ N).ok ∧ ∃ t xs, N (pl δ N).a = some ⟨true, t⟩ ∧ sub t (pl δ N).π = some (.lst xs) ∧ xs.length < SZ ∧ K.nx δ (updN N (pl δ N).a ⟨true, put t (pl δ N).π (.lst (xs ++ [(f δ N).val]))⟩)
theorem ds_app {e a : Expr} {pl : PLF} {f : PF} {apos ppos : Pos} (hp : PLc X e pl) (ha : DP X .frs a f) (hs : swapsWith (.Call (.Attribute e "append" apos) [a] [] ppos) none pos.line X.env = pure false := by rfl)
    (hse : starEach [a] X.env = (false, eval a X.env) :: starEach [] X.env := by rfl)
    (hbm : PE X (.Call (.Attribute e "append" apos) [a] [] ppos) (tBM X.K "list" rAppend (tPl pl) (tCons (tP .frs f) tNil))) : DS X E rc (.Expr (.Call (.Attribute e "append" apos) [a] [] ppos) pos) (sApp pl f) := ps_imp (ps_expr hbm hs) fun D σ H h => by
  obtain ⟨δ, N, F, P, K, o, ⟨o1, o2, t, xs, hN, hsub, hz, q⟩, e⟩ := h
  refine ⟨δ, N, F, P, o, _, _, o1, hN, hsub, fun u H1 e1 at1 => ?_⟩
  obtain ⟨p, vs, f0, rfl, hp, rl⟩ := at1.lst_ o hN e1
  refine ⟨.inl ⟨rfl, _, SqL.of hp⟩, δ, N, F, o.sr.ex e1, o.nr.ex e1, o2, fun v H2 fq e2 r2 k2 => ?_⟩
  have hp2 := e2 _ _ hp
  refine ⟨p, vs, v, rfl, rfl, hp2, Nat.lt_of_lt_of_le (by rw [← rl.length]; exact hz) (sz (Nat.le_refl _)), ?_⟩
  obtain ⟨P', o', t'⟩ := o.writeL (ys := xs ++ [(f δ N).val]) (ws := vs ++ [v]) (g := fq) (e1.trans e2) hN (at1.ex e2) hp2 (fun q hq => e1.free (k2.2 q hq)) k2.1 fun f r nd ng => by
    refine ⟨f ++ fq, RpL.append r (RpL.one r2), List.nodup_append.mpr ⟨nd, k2.1, fun x hx y hy z => ng x hx (z ▸ hy)⟩, fun q hq => List.mem_append.mp hq⟩
  exact e.nx σ _ F P' δ _ t' o' q
/-- x.append(e), x an own list of this name, e impure, listless -/
def sAppR (i : Nat) (w : WE) : WS := fun K δ N => lk δ i = some (.ref (rA (lk δ i))) ∧ (∃ c, N (rA (lk δ i)) = some c ∧ IsL c.d) ∧ w δ N (fun d N1 => lf d ∧ ∃ xs, N1 (rA (lk δ i)) = some ⟨true, .lst xs⟩ ∧ xs.length < SZ ∧ K.nx δ (updN N1 (rA (lk δ i)) ⟨true, .lst (xs ++ [d])⟩)) K.ex
theorem ds_appR {a : Expr} {y : Str} {ny : Pos} {w : WE} {apos ppos : Pos} (i : Nat) (hN : X.N[i]? = some y) (hv : Vis X.env.scope y) (hs : swapsWith (.Call (.Attribute (.Name y ny) "append" apos) [a] [] ppos) none pos.line X.env = pure false := by rfl)
    (hbm : PE X (.Call (.Attribute (.Name y ny) "append" apos) [a] [] ppos) (tBM X.K "list" rAppend (tVar i) (tCons (tDE E w) tNil))) : DS X E rc (.Expr (.Call (.Attribute (.Name y ny) "append" apos) [a] [] ppos) pos) (sAppR i w) := ps_imp (ps_expr hbm hs) fun D σ H h => by
  obtain ⟨δ, N, F, P, K, o, ⟨o1, ⟨c, hc, hl⟩, q⟩, e⟩ := h
  obtain ⟨v, fp, h1, h2, h3⟩ := o.sr.at_ i _ (lk_get o1)
  have ev : v = .ref (rA (lk δ i)) := h2.1
  subst ev
  obtain ⟨fp0, r0, _⟩ := o.nr _ _ hc
  obtain ⟨p0, vs0, f0, e0, hp0, _, _⟩ := r0.lst_ hl
  cases e0
  refine ⟨_, h1, .inl ⟨rfl, _, SqL.of hp0⟩, δ, N, F, P, _, K.ex, o, q, fun v H1 F1 P1 d N1 fq t1 oo r1 k1 q1 => ?_, e.ex⟩
  obtain ⟨q1, xs, hN1, hz, q2⟩ := q1
  have z := Rp.lf _ _ _ r1 q1
  subst z
  obtain ⟨fp1, rr, _⟩ := oo.nr _ _ hN1
  obtain ⟨p, vs, f', e1, hp, rl, rfl⟩ := rr
  cases e1
  refine ⟨_, vs, v, rfl, rfl, hp, Nat.lt_of_lt_of_le (by rw [← rl.length]; exact hz) (sz (Nat.le_refl _)), ?_⟩
  obtain ⟨P', o', t'⟩ := oo.writeL (π := []) (xs := xs) (ys := xs ++ [d]) (ws := vs ++ [v]) (g := []) (Ex.refl _) hN1 .nil hp (by simp) List.nodup_nil fun f r nd ng =>
    ⟨f, by have := RpL.append r (RpL.one r1); rw [List.append_nil] at this; exact this, nd, fun q hq => .inl hq⟩
  exact e.nx σ _ F1 P' δ _ (t1.trans t') o' q2
/-- PLACE[i] = e, e impure, listless -/
def sSetIx (w : WE) (pl : PLF) (f : PF) : WS := fun K δ N => w δ N (fun d N1 => lf d ∧ (pl δ N1).ok ∧ (f δ N1).ok ∧ IsI (f δ N1).val ∧ ∃ t xs n, N1 (pl δ N1).a = some ⟨true, t⟩ ∧ sub t (pl δ N1).π = some (.lst xs) ∧ ixN xs.length (toI (f δ N1).val) = some n ∧
  K.nx δ (updN N1 (pl δ N1).a ⟨true, put t (pl δ N1).π (.lst (xs.set n d))⟩)) K.ex
theorem RpL.set_lf {H : Hp} : ∀ {ds : List D} {vs : List V} {fp : List Addr} {n : Nat} {d : D} {v : V}, RpL H ds vs fp → n < ds.length → Rp H d v [] → ∃ f', RpL H (ds.set n d) (vs.set n v) f' ∧ (∀ q ∈ f', q ∈ fp) ∧ (fp.Nodup → f'.Nodup)
  | [], _, _, _, _, _, _, h, _ => by simp at h
  | x :: ds, vs, fp, n, d, v, h, hn, r => by
    obtain ⟨w, vr, f, g, rfl, h1, h2, rfl⟩ := h
    cases n with
    | zero => exact ⟨g, ⟨v, vr, [], g, rfl, r, h2, rfl⟩, fun q hq => by simp [hq], fun n => (List.nodup_append.mp n).2.1⟩
    | succ n =>
      obtain ⟨f', a, b, c⟩ := RpL.set_lf h2 (n := n) (by simpa using hn) r
      refine ⟨f ++ f', ⟨w, vr.set n v, f, f', rfl, h1, a, rfl⟩, fun q hq => ?_, fun k => ?_⟩
      · rcases List.mem_append.mp hq with z | z
        · simp [z]
        · simp [b q z]
      · obtain ⟨k1, k2, k3⟩ := List.nodup_append.mp k
        exact List.nodup_append.mpr ⟨k1, c k2, fun x hx y hy => k3 x hx y (b y hy)⟩
theorem ds_setIx {o idx value : Expr} {w : WE} {pl : PLF} {f : PF} {tpos : Pos} (hv : DE X E value w) (hp : PLc X o pl) (hi : DP X c idx f)
    (hs : swapsWithSole [.Subscript o idx tpos] value pos.line X.env = pure false := by rfl) (hw : swappedStores [.Subscript o idx tpos] value X.env = pure none := by rfl)
    (h1 : (assignEach [.Subscript o idx tpos] X.env).map (·.2) = [assign (.Subscript o idx tpos) X.env] := by rfl)
    (ha : ∀ v, assign (.Subscript o idx tpos) X.env v = (do
      let ov ← holding [v] (eval o X.env)
      let iv ← holding [v, ov] (eval idx X.env)
      standAt tpos
      holding [v, ov, iv] (setItem ov iv v)
      release [v, ov, iv] []) := by intro _; rfl) : DS X E rc (.Assign [.Subscript o idx tpos] value pos) (sSetIx w pl f) := ps_imp (ps_asg hv (pg_sub hp hi set_list ha) hs hw h1) fun D σ H h => by
  obtain ⟨δ, N, F, P, K, o, q, e⟩ := h
  refine ⟨δ, N, F, P, _, K.ex, o, q, fun v H1 F1 P1 d N1 fq t1 oo r1 k1 q1 => ?_, e.ex⟩
  obtain ⟨q1, o2, o3, o4, t, xs, n, hN, hsub, hix, q2⟩ := q1
  have z := Rp.lf _ _ _ r1 q1
  subst z
  refine ⟨δ, N1, F1, P1, oo, _, _, o2, hN, hsub, fun u H2 e2 at2 => ?_⟩
  obtain ⟨p, vs, f0, rfl, hp, rl⟩ := at2.lst_ oo hN e2
  refine ⟨δ, N1, F1, oo.sr.ex e2, oo.nr.ex e2, o3, fun iv H3 fi e3 r3 k3 => ?_⟩
  refine ⟨p, vs, _, n, rfl, r3.int_ o4, e3 _ _ hp, by rw [← rl.length]; exact hix, ?_⟩
  have hn : n < xs.length := (ixN_seq hix).2.1
  obtain ⟨P', o', t'⟩ := oo.writeL (ys := xs.set n d) (ws := vs.set n v) (g := []) (e2.trans e3) hN (at2.ex e3) (e3 _ _ hp) (by simp) List.nodup_nil fun f r nd ng => by
    obtain ⟨f', a, b, c⟩ := r.set_lf hn ((r1.ex e2).ex e3)
    exact ⟨f', a, c nd, fun q hq => .inl (b q hq)⟩
  exact e.nx σ _ F1 P' δ _ (t1.trans t') o' q2
/-- x.pop(i), x an own list of this name, its items listless -/
def wPop (i : Nat) (w : WE) : WE := fun δ N Q E => lk δ i = some (.ref (rA (lk δ i))) ∧ (∃ c, N (rA (lk δ i)) = some c ∧ IsL c.d) ∧ w δ N (fun d N1 => IsI d ∧ -(2 ^ 63) ≤ toI d ∧ toI d < 2 ^ 63 ∧ ∃ xs n y, N1 (rA (lk δ i)) = some ⟨true, .lst xs⟩ ∧ ixN xs.length (toI d) = some n ∧ xs[n]? = some y ∧ lf y ∧ Q y (updN N1 (rA (lk δ i)) ⟨true, .lst (xs.eraseIdx n)⟩)) E
theorem RpL.erase {H : Hp} : ∀ {ds : List D} {vs : List V} {fp : List Addr} (n : Nat), RpL H ds vs fp → ∃ f', RpL H (ds.eraseIdx n) (vs.eraseIdx n) f' ∧ (∀ q ∈ f', q ∈ fp) ∧ (fp.Nodup → f'.Nodup)
  | [], _, _, _, h => by obtain ⟨rfl, rfl⟩ := h; exact ⟨[], RpL.nil, fun _ q => q, id⟩
  | d :: ds, vs, fp, 0, h => by
    obtain ⟨w, vr, f, g, rfl, h1, h2, rfl⟩ := h
    exact ⟨g, h2, fun q hq => by simp [hq], fun n => (List.nodup_append.mp n).2.1⟩
  | d :: ds, vs, fp, n + 1, h => by
    obtain ⟨w, vr, f, g, rfl, h1, h2, rfl⟩ := h
    obtain ⟨f', a, b, c⟩ := RpL.erase n h2
    refine ⟨f ++ f', ⟨w, vr.eraseIdx n, f, f', rfl, h1, a, rfl⟩, fun q hq => ?_, fun k => ?_⟩
    · rcases List.mem_append.mp hq with z | z
      · simp [z]
      · simp [b q z]
    · obtain ⟨k1, k2, k3⟩ := List.nodup_append.mp k
      exact List.nodup_append.mpr ⟨k1, c k2, fun x hx y hy => k3 x hx y (b y hy)⟩
theorem de_pop {a : Expr} {y : Str} {ny : Pos} {w : WE} {apos ppos : Pos} (i : Nat) (hbm : PE X (.Call (.Attribute (.Name y ny) "pop" apos) [a] [] ppos) (tBM X.K "list" rPopAt (tVar i) (tCons (tDE E w) tNil))) : DE X E (.Call (.Attribute (.Name y ny) "pop" apos) [a] [] ppos) (wPop i w) := by
  refine pe_imp hbm fun σ H Q h => ?_
  obtain ⟨δ, N, F, P, Q', E', o, ⟨o1, ⟨c, hc, hl⟩, q'⟩, q, qe⟩ := h
  obtain ⟨v, fp, h1, h2, h3⟩ := o.sr.at_ i _ (lk_get o1)
  have ev : v = .ref (rA (lk δ i)) := h2.1
  subst ev
  obtain ⟨fp0, r0, _⟩ := o.nr _ _ hc
  obtain ⟨p0, vs0, f0, e0, hp0, _, _⟩ := r0.lst_ hl
  cases e0
  refine ⟨_, h1, .inl ⟨rfl, _, SqL.of hp0⟩, δ, N, F, P, _, E', o, q', fun v H1 F1 P1 d N1 fq t1 oo r1 k1 q1 => ?_, qe⟩
  obtain ⟨d1, d2, d3, xs, n, y, hN1, hix, hy, hly, q2⟩ := q1
  obtain ⟨fp1, rr, _⟩ := oo.nr _ _ hN1
  obtain ⟨p, vs, f', e1, hp, rl, rfl⟩ := rr
  cases e1
  obtain ⟨u, fu, g1, g2, _, _⟩ := rl.get hy
  have z := Rp.lf _ _ _ g2 hly
  subst z
  obtain ⟨s1, _, _, _⟩ := ixN_seq hix
  refine ⟨_, vs, _, n, u, rfl, by rw [r1.int_ d1], hp, d2, d3, by rw [← rl.length]; exact s1, g1, ?_⟩
  obtain ⟨P', o', t'⟩ := oo.writeL (π := []) (xs := xs) (ys := xs.eraseIdx n) (ws := vs.eraseIdx n) (g := []) (Ex.refl _) hN1 .nil hp (by simp) List.nodup_nil fun f r nd ng => by
    obtain ⟨f', a, b, c⟩ := r.erase n
    exact ⟨f', a, c nd, fun q hq => .inl (b q hq)⟩
  have g3 : Rp (upd H1 (rA (lk δ i)) (.lst (vs.eraseIdx n))) y u [] := Rp.keep (fun q vs z => by rw [upd_ne (fun k => by rw [k, hp] at z; cases z)]; exact z) _ _ _ g2 (by simp)
  exact q u _ F1 P' y _ [] (t1.trans t') o' g3 (by simp) q2
end

/-! ### the rules for defs -/
def startD (n : Nat) (ds : List D) : Loc := ds.map some ++ List.replicate (n - ds.length) none
/-- nothing may be changed -/
def ro (N : Nm) : Nm := fun a => (N a).map fun c => ⟨false, c.d⟩
theorem srep_start {F : Addr → Prop} {H : Hp} {N : List Str} {vs : List V} {ds : List D} {fps : List Addr} (r : RpL H ds vs fps) (h : ∀ p ∈ fps, F p) (hf : ∀ p, F p → ∃ o, H p = some o) (hl : ds.length ≤ N.length) : SRep F H (L2.start N vs) (startD N.length ds) := by
  refine ⟨by simp [startD, L2.start, r.length], hf, fun i d q => ?_⟩
  unfold startD at q
  by_cases hi : i < ds.length
  · rw [List.getElem?_append_left (by simpa using hi), List.getElem?_map] at q
    cases e : ds[i]? with
    | none => rw [e] at q; cases q
    | some d' =>
      rw [e] at q
      cases q
      obtain ⟨v, f, h1, h2, h3, _⟩ := r.get e
      refine ⟨v, f, ?_, h2, fun p hp => h p (h3 p hp)⟩
      unfold L2.start
      rw [List.getElem?_append_left (by rw [List.length_map, ← r.length]; exact hi), List.getElem?_map, h1]
      rfl
  · rw [List.getElem?_append_right (by simpa using hi)] at q
    have := List.mem_of_getElem? q
    have := List.eq_of_mem_replicate this
    cases this
section
variable {P : Program} {w : World} {K : PySem.W.Frag} {mg : Str → Option Value} {base : Heap}
/-- a pure def: its body hands back φ -/
theorem fn_pure {x qual : Str} {st : Stmt} {f : Addr} {fd : FuncData} {N ps : List Str} {k n : Nat} {φ : List D → Nm → PV} (F : L2.Fun K x qual st f fd) (S : FnScope N ps (defScope st)) (hn : ps.length = n) (hN : n ≤ N.length)
    (hbody : ∀ (cdv : Value) (A : Around) (outer : List Env) (s : Shared) (H : Hp) (E : XK), Room k (A.deeper (PyProof.Rows.envOfC qual (defScope st) s.heap.objs.size f cdv)) →
      ∃ w', DSs (cxOf (L2.CX P w) P w K mg base N qual (defScope st) f cdv A outer s H E) E0 true (defBody st) w' ∧
        ∀ ds M, ds.length = n → (φ ds M).ok → w' { nx := fun _ _ => (φ ds M).val = .non, rt := fun d M' => RES M' d (φ ds M).val } (startD N.length ds) (ro M)) :
    FnOk P w K mg base (L2.CX P w) (k + 1) f fd ps (spP n φ) := by
  refine F.okX S (fun vs H Q E h => ?_) (fun cdv A outer s H vs Q E hr h => ?_)
  · obtain ⟨ds, M, fps, rl, _, hl, _⟩ := h
    rw [← rl.length, hl, hn]
  · obtain ⟨ds, M, fps, rl, nr, hl, ok, q⟩ := h
    obtain ⟨w', hw, body⟩ := hbody cdv A outer s H E hr
    refine ⟨_, hw, ?_⟩
    have hcell : ∀ a, ∃ fp, ∀ c, M a = some c → Rp H c.d (.ref a) fp ∧ a ∈ fp := fun a => by
      cases e : M a with
      | none => exact ⟨[], fun c z => by cases z⟩
      | some c => obtain ⟨fp, h1, h2⟩ := nr a c e; exact ⟨fp, fun c' z => by cases z; exact ⟨h1, h2⟩⟩
    have wf : Wf (ro M) (fun p => p ∈ fps) (fun _ => False) H (fun a => Classical.choose (hcell a)) := by
      have rocell : ∀ a c, ro M a = some c → ∃ c', M a = some c' ∧ c.d = c'.d ∧ c.w = false := fun a c h => by
        unfold ro at h
        cases e : M a with
        | none => rw [e] at h; cases h
        | some c' => rw [e] at h; cases h; exact ⟨c', rfl, rfl, rfl⟩
      refine ⟨fun a c h => ?_, fun a c h hw => ?_, fun a b c e _ h hw => ?_, fun p hp => ⟨id, let ⟨o, ho, _⟩ := RpL.there _ _ _ rl p hp; ⟨o, ho⟩⟩, fun p z => z.elim⟩
      · obtain ⟨c', h1, h2, _⟩ := rocell a c h
        rw [h2]
        exact Classical.choose_spec (hcell a) c' h1
      · obtain ⟨c', _, _, h3⟩ := rocell a c h
        rw [h3] at hw; cases hw
      · obtain ⟨c', _, _, h3⟩ := rocell a c h
        rw [h3] at hw; cases hw
    have sr := srep_start (N := N) rl (F := fun p => p ∈ fps) (fun p hp => hp) (fun p hp => let ⟨o, ho, _⟩ := RpL.there _ _ _ rl p hp; ⟨o, ho⟩) (by omega)
    have exH : ∀ {F' P' : Addr → Prop} {H' : Hp}, Tr (fun p => p ∈ fps) (fun _ => False) H F' P' H' → Ex H H' := fun t p o h => t.st p o h id
    refine ⟨startD N.length ds, ro M, fun p => p ∈ fps, fun _ => False, _, ⟨⟨_, wf⟩, sr⟩, body ds M hl ok, ?_, ?_, ?_, ?_, EC.no⟩
    · exact fun σ' H' F' P' δ' N' t o e => q .non H' [] (exH t) (by rw [e]; exact ⟨rfl, rfl⟩) ⟨List.nodup_nil, by simp⟩
    · exact fun _ _ _ _ _ _ _ _ z => z.elim
    · exact fun _ _ _ _ _ _ _ _ z => z.elim
    · intro v H' F' P' d N' fp t ⟨fpm, w2⟩ r rt re
      unfold RtC at rt
      rw [if_pos rfl] at rt
      obtain ⟨fp', h1, h2, h3⟩ := w2.res d v fp r rt.1 (fun p hp => (rt.2 p hp).2) re.1
      rw [re.2] at h1
      refine q v H' fp' (exH t) h1 ⟨h2, fun p hp => ?_⟩
      rcases h3 p hp with z | ⟨a, _, z, zP⟩
      · exact (rt.2 p z).1
      · rcases t.pw p zP with k | k
        · exact k.elim
        · exact k
/-- a def that changes what it is handed -/
theorem fn_mut {x qual : Str} {st : Stmt} {f : Addr} {fd : FuncData} {N ps : List Str} {k n : Nat} {sp : SpD} (F : L2.Fun K x qual st f fd) (S : FnScope N ps (defScope st)) (hn : ps.length = n) (hN : n ≤ N.length)
    (hbody : ∀ (cdv : Value) (A : Around) (outer : List Env) (s : Shared) (H : Hp) (E : XK), Room k (A.deeper (PyProof.Rows.envOfC qual (defScope st) s.heap.objs.size f cdv)) →
      ∃ w', DSs (cxOf (L2.CX P w) P w K mg base N qual (defScope st) f cdv A outer s H E) E false (defBody st) w' ∧
        ∀ ds M Q' E', ds.length = n → sp ds M Q' E' → w' { nx := fun _ M' => Q' .non M', rt := Q', ex := E' } (startD N.length ds) M) :
    FnOk P w K mg base (L2.CX P w) (k + 1) f fd ps (spM n sp) := by
  refine F.okX S (fun vs H Q E h => ?_) (fun cdv A outer s H vs Q E hr h => ?_)
  · obtain ⟨ds, M, F', P', Q', E', fps, hl, _, rl, _⟩ := h
    rw [← rl.length, hl, hn]
  · obtain ⟨ds, M, F', P', Q', E', fps, hl, ⟨fpm, wf⟩, rl, hF, hsp, q, qe⟩ := h
    obtain ⟨w', hw, body⟩ := hbody cdv A outer s H E hr
    refine ⟨_, hw, ?_⟩
    have sr := srep_start (N := N) rl (F := F') hF (fun p hp => (wf.fr p hp).2) (by omega)
    refine ⟨startD N.length ds, M, F', P', _, ⟨⟨_, wf⟩, sr⟩, body ds M Q' E' hl hsp, ?_, ?_, ?_, ?_, qe⟩
    · exact fun σ' H' F1 P1 δ' N' t o e => q .non H' F1 P1 .non N' [] t o.wf ⟨rfl, rfl⟩ (by simp) e
    · exact fun _ _ _ _ _ _ _ _ z => z.elim
    · exact fun _ _ _ _ _ _ _ _ z => z.elim
    · intro v H' F1 P1 d N' fp t w2 r rt re
      unfold RtC at rt
      rw [if_neg Bool.false_ne_true] at rt
      exact q v H' F1 P1 d N' fp t w2 r rt re
end
end DL
set_option maxHeartbeats 4000000
/-! The data layer, 12: a few more rules; short names. -/
namespace DL
open PySem L2
section
variable {X : Cx} {E : XK} {c c1 c2 c3 : Cl} {pos p : Pos} {x : Str} {rc : Bool} {s : Stmt} {ss : List Stmt} {w u : WS} {tg : Expr}
def catLF (x y : D) : PV := ⟨IsL x ∧ IsL y ∧ (toL x).length + (toL y).length ≤ SZ ∧ lfs (toL x) ∧ lfs (toL y), .lst (toL x ++ toL y)⟩
/-- xs + ys of listless items: anyone's -/
theorem dp_catF {a b : Expr} {f g : PF} (ha : DP X c1 a f) (hb : DP X c2 b g) : DP X c (.BinOp a .Add b pos) (p2 catLF f g) :=
  dp_bin (hf := catLF) op_cat ha hb fun F H0 H H2 x y v w fa fb Q e0 e1 rx ry tha k1 k2 ok q => by
    obtain ⟨o1, o2, o3, o4, o5⟩ := ok
    obtain ⟨p, vs, f1, rfl, hp, rl, rfl⟩ := rx.lst_ o1
    obtain ⟨p', vs', f2, rfl, hp', rl', rfl⟩ := ry.lst_ o2
    have z1 := RpL.lf _ _ _ rl o4
    have z2 := RpL.lf _ _ _ rl' o5
    subst z1 z2
    refine ⟨p, p', vs, vs', rfl, rfl, hp, hp', sz (by rw [← rl.length, ← rl'.length]; exact o3), fun l hl => ?_⟩
    exact new_lst (c := c) (F := F) (e0.trans e1) (rl.append rl') Cl.nil hl q
/-- name = [..] on one line, the name a local: the list's address goes to the name -/
theorem ds_setLc_ {i : Nat} {y : Str} {py : Pos} {elt tg iter : Expr} {ifs : List Expr} {scope : Scope} {pos spos : Pos} {te : TE} (h : PS X (.Assign [.Name y py] (.ListComp elt [⟨tg, iter, ifs, 0⟩] scope pos) spos) (tAsg te (gName i)))
    {f : PF} (hk : ∀ σ H Q, tP .cln f σ H Q → te σ H Q) : DS X E rc (.Assign [.Name y py] (.ListComp elt [⟨tg, iter, ifs, 0⟩] scope pos) spos) (sSet i (wP f)) := ps_imp h fun D σ H h => by
  obtain ⟨δ, N, F, P, K, o, ⟨ok, q⟩, e⟩ := h
  refine hk σ H _ ⟨δ, N, F, o.sr, o.nr, ok, fun v H' fp e1 r k => ?_⟩
  obtain ⟨o2, t⟩ := cln_grow o e1 k (Rp.there _ _ _ r)
  exact e.nx _ H' _ P _ N t ⟨o2.wf, o2.sr.set r (fun p hp => .inr hp)⟩ q
theorem ds_setLcM_ {i : Nat} {y : Str} {py : Pos} {elt tg iter : Expr} {ifs : List Expr} {scope : Scope} {pos spos : Pos} {te : TE} (h : PS X (.Assign [.Name y py] (.ListComp elt [⟨tg, iter, ifs, 0⟩] scope pos) spos) (tAsg te (gName i)))
    {f : PF} (hk : ∀ σ H Q, tP .frs f σ H Q → te σ H Q) : DS X E rc (.Assign [.Name y py] (.ListComp elt [⟨tg, iter, ifs, 0⟩] scope pos) spos) (sSetM i f) := ps_imp h fun D σ H h => by
  obtain ⟨δ, N, F, P, K, o, ⟨ok, kc, q⟩, e⟩ := h
  refine hk σ H _ ⟨δ, N, F, o.sr, o.nr, ok, fun v H' fp e1 r k => ?_⟩
  obtain ⟨a, rfl, ha⟩ := r.cell kc
  obtain ⟨h1, o1, t1⟩ := o.alloc e1 r ha k.1 k.2
  exact e.nx _ H' F _ _ _ t1 ⟨o1.wf, o1.sr.set (d := .ref a) (fp := []) ⟨rfl, rfl⟩ (by simp)⟩ (q a h1)
end
end DL
set_option maxHeartbeats 4000000
/-! The data layer, 13: names that the printed texts use; isinstance of two classes; the greatest tuple of numbers. -/
namespace DL
open PySem L2
abbrev bAddI : D → D → PV := bI (fun _ _ => True) fun i j => .int (i + j)
abbrev bSub : D → D → PV := bI (fun _ _ => True) fun i j => .int (i - j)
abbrev bMul : D → D → PV := bI CMul fun i j => .int (i * j)
abbrev bMod : D → D → PV := bI (fun _ j => 0 < j) fun i j => .int (i % j)
abbrev bFdiv : D → D → PV := bI CDivW fun i j => .int (i / j)
abbrev bPow : D → D → PV := bI CPow fun i j => .int (i ^ j.toNat)
abbrev bMax2 : D → D → PV := bI (fun _ _ => True) fun i j => .int (max i j)
abbrev bMin2 : D → D → PV := bI (fun _ _ => True) fun i j => .int (min i j)
abbrev cLt : D → D → TV := cI fun i j => decide (i < j)
abbrev cLe : D → D → TV := cI fun i j => decide (i ≤ j)
abbrev cGt : D → D → TV := cI fun i j => decide (j < i)
abbrev cGe : D → D → TV := cI fun i j => decide (j ≤ i)
def tIsN (f : PF) : TF := fun δ N => ⟨(f δ N).ok, isN (f δ N).val⟩
def tNotN (f : PF) : TF := fun δ N => ⟨(f δ N).ok, !isN (f δ N).val⟩
def pNeg (f : PF) : PF := fun δ N => ⟨(f δ N).ok ∧ IsI (f δ N).val, .int (-(toI (f δ N).val))⟩
def sfN : SF := fun _ _ => (True, none)
def sfS (f : PF) : SF := fun δ N => ((f δ N).ok ∧ IsI (f δ N).val, some (toI (f δ N).val))
section
variable {X : Cx} {E : XK} {c c1 c2 c3 : Cl} {pos p : Pos}
def pIsi2 (f : PF) : PF := fun δ N => ⟨(f δ N).ok ∧ Ty (f δ N).val, .bl (isiB "tuple" (f δ N).val || isiB "list" (f δ N).val)⟩
theorem Ty.kit2 {d : D} {K : PySem.W.Frag} (h : Ty d) : PySem.W.kitAny K (.type (tyN d)) [.type "tuple", .type "list"] = some (isiB "tuple" d || isiB "list" d) := by
  have h1 := kit_ty (K := K) (h.kit kit_tuple)
  have h2 := kit_ty (K := K) (h.kit kit_list)
  unfold PySem.W.kitAny
  rw [h1]
  unfold PySem.W.kitAny
  rw [h2]
  unfold PySem.W.kitAny
  cases isiB "tuple" d <;> cases isiB "list" d <;> rfl
theorem dp_isi2 {a : Expr} {f : PF} {p1 p2 p3 x1} (hg : Gl X "isinstance") (hm : X.mg "isinstance" = none) (hgT : Gl X "tuple") (hmT : X.mg "tuple" = none) (hgL : Gl X "list") (hmL : X.mg "list" = none) (ha : DP X c1 a f)
    (hs : starEach [a, .Tuple [.Name "tuple" p1, .Name "list" p2] x1 p3] X.env = (false, eval a X.env) :: starEach [.Tuple [.Name "tuple" p1, .Name "list" p2] x1 p3] X.env := by rfl)
    (hpl : (backTo pos (starEach [.Tuple [.Name "tuple" p1, .Name "list" p2] x1 p3] X.env)).any (·.1) = false := by rfl) :
    DP X c (.Call (.Name "isinstance" p) [a, .Tuple [.Name "tuple" p1, .Name "list" p2] x1 p3] [] pos) (pIsi2 f) := by
  refine pe_imp (pe_callB call_isiT hg hm (by decide +kernel) (pa_cons ha (pa_cons (pe_tup (pa_cons (pe_bltn (v := .ty "tuple") hgT hmT (by decide +kernel) rfl (by decide) (by decide)) (pa_cons (pe_bltn (v := .ty "list") hgL hmL (by decide +kernel) rfl (by decide) (by decide)) pa_nil))) pa_nil) hs) (he := hs) (hpl := hpl)) fun σ H Q h => ?_
  obtain ⟨δ, N, F, hS, hn, ok, q⟩ := h
  refine ⟨δ, N, F, hS, hn, ok.1, fun v H1 fa e1 r1 k1 => ?_⟩
  refine ⟨by decide, fun pt hp => ?_⟩
  have e2 : Ex H1 (upd H1 pt (.tup [.ty "tuple", .ty "list"])) := Ex.new hp
  exact ⟨v, pt, [.ty "tuple", .ty "list"], .type (tyN (f δ N).val), [.type "tuple", .type "list"], _, rfl, upd_same, .cons (.ty _) (.cons (.ty _) .nil), (r1.ex e2).ty ok.2, ok.2.kit2, q _ _ [] (e1.trans e2) ⟨rfl, rfl⟩ Cl.nil⟩
/-! ### the greatest of tuples of numbers -/
def UInts (d : D) : Prop := IsU d ∧ ∀ x ∈ toL d, IsI x
def maxL (a : List Int) (ys : List (List Int)) : List Int := ys.foldl (fun a y => if a < y then y else a) a
def maxLs : List (List Int) → List Int
  | [] => []
  | x :: xs => maxL x xs
def maxU (d : D) : PV := ⟨IsL d ∧ toL d ≠ [] ∧ ∀ x ∈ toL d, UInts x, .tup ((maxLs ((toL d).map toIs)).map .int)⟩
def pyU (z : List Int) : PyData := .tuple (z.map .int)
theorem alikeAll_ints : ∀ xs ys : List Int, PySem.W.alikeAll (xs.map .int) (ys.map .int) = true
  | [], ys => by cases ys <;> simp [PySem.W.alikeAll]
  | x :: xs, [] => by simp [PySem.W.alikeAll]
  | x :: xs, y :: ys => by simp [PySem.W.alikeAll, PySem.W.alike, alikeAll_ints xs ys]
theorem alike_pyU (x y : List Int) : PySem.W.alike (pyU x) (pyU y) = true := by simp [pyU, PySem.W.alike, alikeAll_ints]
theorem dataLt_pyU (x y : List Int) : PySem.W.dataLt (pyU x) (pyU y) = decide (x < y) := by
  rw [← PySem.W.dataLt_ints]; unfold pyU; rw [PySem.W.dataLt_tuple]; rfl
theorem maxD_pyU : ∀ (ys : List (List Int)) (a : List Int), PySem.W.maxD (pyU a) (ys.map pyU) = pyU (maxL a ys)
  | [], a => rfl
  | y :: ys, a => by
    have ih := maxD_pyU ys (if a < y then y else a)
    unfold PySem.W.maxD maxL at ih ⊢
    rw [List.map_cons, List.foldl_cons, List.foldl_cons, ← ih, dataLt_pyU]
    by_cases h : a < y <;> simp [h]
theorem depth_ints : ∀ z : List Int, PyData.depthAll (z.map .int) ≤ 1
  | [] => by simp [PyData.depthAll]
  | x :: xs => by have := depth_ints xs; simp [PyData.depthAll, PyData.depth]; omega
theorem depth_pyU : ∀ zs : List (List Int), PyData.depthAll (zs.map pyU) ≤ 3
  | [] => by simp [PyData.depthAll]
  | x :: xs => by have := depth_pyU xs; have := depth_ints x; simp [PyData.depthAll, PyData.depth, pyU]; omega
theorem DpAll.at {K : PySem.W.Frag} {H : Hp} : ∀ {vs : List V} {ds : List PyData} {us : List Value} {i : Nat} {u : Value}, DpAll K H vs ds → Vals vs us → us[i]? = some u → ∃ v d, vs[i]? = some v ∧ ds[i]? = some d ∧ Dp K H v d ∧ RelV v u
  | _, _, _, _, _, .nil, .nil, h => by simp at h
  | v :: _, d :: _, _, 0, u, .cons a _, .cons b _, h => by
    have e := Option.some.inj h
    subst e
    exact ⟨v, d, rfl, rfl, a, b⟩
  | _, _, _, i + 1, u, .cons _ a, .cons _ b, h => by
    obtain ⟨v, d, h1, h2, h3⟩ := DpAll.at a b (i := i) (u := u) (by simpa using h)
    exact ⟨v, d, by simpa using h1, by simpa using h2, h3⟩
theorem call_maxU (hu : X.A.units + 64 < cLine) (hc : X.calm = true) : CallR X (.builtin "max") (fun xs H Q => ∃ p vs, ∃ (x : List Int) (xss : List (List Int)), xs = [.ref p] ∧ SqL X.K H p vs ∧ DpAll X.K H vs ((x :: xss).map pyU) ∧
    ∀ (i : Nat) v, vs[i]? = some v → (x :: xss)[i]? = some (maxL x xss) → Q v H) := by
  intro pins s σ H xs us Q I r h
  obtain ⟨p, vs, x, xss, rfl, hs, hd, q⟩ := h
  obtain ⟨its, rv, hl, _⟩ := I.list hs
  rw [Vals.ref1 r]
  obtain ⟨as, hr⟩ := Dp.readsAll I _ _ _ hd rv
  have hal : PySem.W.AlikeAll (pyU x :: xss.map pyU) := by
    refine ⟨fun a ha b hb => ?_, fun a ha => ?_⟩
    · rw [← List.map_cons] at ha hb
      obtain ⟨a', _, rfl⟩ := List.mem_map.mp ha
      obtain ⟨b', _, rfl⟩ := List.mem_map.mp hb
      exact alike_pyU _ _
    · rw [← List.map_cons] at ha
      obtain ⟨a', _, rfl⟩ := List.mem_map.mp ha
      exact fun z => nomatch z
  have hd3 := depth_pyU (x :: xss)
  refine PySem.W.max_list_data (I.ok.hd hc) hl.isList hr hal (by rw [← List.map_cons]; omega) fun i v h' tk bs hv rm k => ?_
  rw [maxD_pyU] at rm
  obtain ⟨v', d, h1, h2, h3, h4⟩ := DpAll.at hd rv (i := i) (u := v) (by simpa using hv)
  obtain ⟨bs', r2⟩ := Dp.reads I d _ _ h3 h4
  rw [List.getElem?_map] at h2
  obtain ⟨z, h5, rfl⟩ := Option.map_eq_some_iff.mp h2
  have e := PySem.W.alike_unique _ _ _ _ _ (alike_pyU z (maxL x xss)) (PySem.W.reads_keeps k r2) rm
  have e' : z = maxL x xss := by
    have e1 : z.map PyData.int = (maxL x xss).map PyData.int := by unfold pyU at e; exact PyData.tuple.inj e
    have : ∀ a b : List Int, a.map PyData.int = b.map PyData.int → a = b := by
      intro a; induction a with
      | nil => intro b h; cases b with | nil => rfl | cons _ _ => simp at h
      | cons y ys ih => intro b h; cases b with | nil => simp at h | cons w ws => simp at h; rw [h.1, ih ws (by simpa using h.2)]
    exact this _ _ e1
  subst e'
  exact ⟨v', H, I.kept k, h4, q i v' h1 h5⟩
theorem UInts.eq {d : D} (h : UInts d) : d = .tup ((toIs d).map .int) := by
  obtain ⟨h1, h2⟩ := h
  cases d <;> first | exact h1.elim | skip
  rename_i ts
  have : ∀ ts : List D, (∀ x ∈ ts, IsI x) → ts = (ts.map toI).map D.int := by
    intro ts; induction ts with
    | nil => intro _; rfl
    | cons a as ih => intro h; rw [List.map_cons, List.map_cons, ← ih fun x hx => h x (by simp [hx])]; rw [← (h a (by simp)).eq]
  exact congrArg D.tup (this ts h2)
theorem okD_ints (z : List Int) : okD 1 (.tup (z.map .int)) := by
  have : ∀ d ∈ z.map D.int, okD 0 d := by
    intro d hd; obtain ⟨i, _, rfl⟩ := List.mem_map.mp hd; trivial
  exact this
theorem toPy_ints (z : List Int) : toPy (.tup (z.map .int)) = pyU z := by
  unfold pyU; rw [toPy, toPys_map, List.map_map]; rfl
theorem toPys_U {ds : List D} (h : ∀ x ∈ ds, UInts x) : toPys ds = (ds.map toIs).map pyU := by
  rw [toPys_map, List.map_map]
  refine List.map_congr_left fun d hd => ?_
  rw [(h d hd).eq, toPy_ints]
  show pyU _ = pyU _
  congr 1
  simp [toIs, toL, Function.comp_def, toI]
theorem dp_maxU {a : Expr} {f : PF} (hu : X.A.units + 64 < cLine) (hc : X.calm = true) (hg : Gl X "max") (hm : X.mg "max" = none) (ha : DP X c1 a f) (hs : starEach [a] X.env = (false, eval a X.env) :: starEach [] X.env := by rfl) : DP X c (.Call (.Name "max" p) [a] [] pos) (p1 maxU f) :=
  cb1 (hf := maxU) (fun h => pe_callB (call_maxU hu hc) hg hm (by decide +kernel) h (he := hs) (hpl := by rfl)) ha (fun F H H1 d v fp Q e1 r k ok q => by
    obtain ⟨o1, o2, o3⟩ := ok
    obtain ⟨pp, vs, f1, rfl, hp, rl, rfl⟩ := r.lst_ o1
    have hdp := RpL.dp (K := X.K) 1 _ _ _ rl (fun x hx => by rw [(o3 x hx).eq]; exact okD_ints _)
    rw [toPys_U o3] at hdp
    have hne : (toL d).map toIs ≠ [] := by simpa using o2
    obtain ⟨x, xss, he⟩ : ∃ x xss, (toL d).map toIs = x :: xss := by
      cases h : (toL d).map toIs with
      | nil => exact absurd h hne
      | cons x xss => exact ⟨x, xss, rfl⟩
    rw [he] at hdp
    refine ⟨pp, vs, x, xss, rfl, SqL.of hp, hdp, fun i v hv hz => ?_⟩
    have hz2 : ((toL d).map toIs)[i]? = some (maxL x xss) := by rw [he]; exact hz
    rw [List.getElem?_map] at hz2
    obtain ⟨y, hy, ey⟩ := Option.map_eq_some_iff.mp hz2
    obtain ⟨v', f', h1, h2, _⟩ := rl.get hy
    rw [hv] at h1
    have e1 := Option.some.inj h1
    subst e1
    have hU := o3 y (List.mem_of_getElem? hy)
    rw [hU.eq, ey] at h2
    have hlf := Rp.lf _ _ _ h2 (lfs_iff.mpr fun d hd => by obtain ⟨i, _, rfl⟩ := List.mem_map.mp hd; trivial)
    subst hlf
    have e2 : maxLs ((toL d).map toIs) = maxL x xss := by rw [he]; rfl
    have q' := q v H1 [] (Ex.refl _) (by show Rp H1 (.tup _) v []; rw [e2]; exact h2) Cl.nil
    exact q') hs
end
end DL
set_option maxHeartbeats 4000000
/-! The data layer, 14: lemmas for the readings. -/
namespace DL
open PySem L2
theorem loopD_ind (I : List D → Loc → Nm → Prop) {G : GF} {w : WS} {K : EndD} : ∀ {items : List D} {δ : Loc} {N : Nm}, I items δ N → (∀ δ N, I [] δ N → K.nx δ N) →
    (∀ d ds δ N (L : Loc → Nm → Prop), (∀ δ' N', I ds δ' N' → L δ' N') → I (d :: ds) δ N → (G d δ).ok ∧ w { K with nx := L, ct := L, bk := K.nx } (G d δ).loc N) → loopD G w K items δ N
  | [], δ, N, h0, he, hs => he δ N h0
  | d :: ds, δ, N, h0, he, hs => hs d ds δ N _ (fun δ' N' h => loopD_ind I h he hs) h0
theorem loopD_get (I : Nat → Loc → Nm → Prop) {G : GF} {w : WS} {K : EndD} {items : List D} {δ : Loc} {N : Nm} (h0 : I 0 δ N) (he : ∀ δ N, I items.length δ N → K.nx δ N)
    (hs : ∀ k d δ N (L : Loc → Nm → Prop), items[k]? = some d → (∀ δ' N', I (k + 1) δ' N' → L δ' N') → I k δ N → (G d δ).ok ∧ w { K with nx := L, ct := L, bk := K.nx } (G d δ).loc N) : loopD G w K items δ N := by
  refine loopD_ind (fun ds δ N => ∃ k, k ≤ items.length ∧ ds = items.drop k ∧ I k δ N) ⟨0, Nat.zero_le _, rfl, h0⟩ ?_ ?_
  · rintro δ N ⟨k, hk, e, i⟩
    have : items.length ≤ k := by
      have := congrArg List.length e; simp at this; omega
    have : k = items.length := by omega
    subst this
    exact he δ N i
  · rintro d ds δ N L hL ⟨k, hk, e, i⟩
    have hlt : k < items.length := by
      have := congrArg List.length e; simp at this; omega
    rw [List.drop_eq_getElem_cons hlt] at e
    obtain ⟨e1, e2⟩ := List.cons.inj e
    exact hs k d δ N L (by rw [List.getElem?_eq_getElem hlt, e1]) (fun δ' N' h => hL δ' N' ⟨k + 1, hlt, e2, h⟩) i
theorem loopD_rng (I : Nat → Loc → Nm → Prop) {G : GF} {w : WS} {K : EndD} {lo : Int} {n : Nat} {δ : Loc} {N : Nm} (h0 : I 0 δ N) (he : ∀ δ N, I n δ N → K.nx δ N)
    (hs : ∀ (k : Nat) δ N (L : Loc → Nm → Prop), k < n → (∀ δ' N', I (k + 1) δ' N' → L δ' N') → I k δ N → (G (.int (lo + k)) δ).ok ∧ w { K with nx := L, ct := L, bk := K.nx } (G (.int (lo + k)) δ).loc N) :
    loopD G w K ((rng lo n).map D.int) δ N := by
  refine loopD_get I h0 (fun δ N i => he δ N (by simpa [rng_length] using i)) fun k d δ N L hd hL i => ?_
  have hk : k < n := by
    have := (List.getElem?_eq_some_iff.mp hd).1; simpa [rng_length] using this
  rw [List.getElem?_map, rng_get lo n k hk] at hd
  cases hd
  exact hs k δ N L hk hL i
theorem loopD_ints (I : Nat → Loc → Nm → Prop) {G : GF} {w : WS} {K : EndD} {xs : List Int} {δ : Loc} {N : Nm} (h0 : I 0 δ N) (he : ∀ δ N, I xs.length δ N → K.nx δ N)
    (hs : ∀ (k : Nat) (x : Int) δ N (L : Loc → Nm → Prop), xs[k]? = some x → (∀ δ' N', I (k + 1) δ' N' → L δ' N') → I k δ N → (G (.int x) δ).ok ∧ w { K with nx := L, ct := L, bk := K.nx } (G (.int x) δ).loc N) :
    loopD G w K (xs.map D.int) δ N := by
  refine loopD_get I h0 (fun δ N i => he δ N (by simpa using i)) fun k d δ N L hd hL i => ?_
  rw [List.getElem?_map] at hd
  obtain ⟨x, hx, rfl⟩ := Option.map_eq_some_iff.mp hd
  exact hs k x δ N L hx hL i
theorem atI_nn {α : Type} {xs : List α} {i : Int} (h : 0 ≤ i) : atI xs i = xs[i.toNat]? := by
  unfold atI ixN
  rw [if_pos h]
  by_cases c : i < (xs.length : Int)
  · rw [if_pos c]; rfl
  · rw [if_neg c, List.getElem?_eq_none (by omega)]; rfl
theorem atI_nat {α : Type} {xs : List α} {n : Nat} : atI xs (n : Int) = xs[n]? := by rw [atI_nn (by omega)]; rfl
theorem atI_0 {α : Type} {x : α} {xs : List α} : atI (x :: xs) 0 = some x := by rw [atI_nn (by omega)]; rfl
theorem atI_1 {α : Type} {x y : α} {xs : List α} : atI (x :: y :: xs) 1 = some y := by rw [atI_nn (by omega)]; rfl
theorem atI_2 {α : Type} {x y z : α} {xs : List α} : atI (x :: y :: z :: xs) 2 = some z := by rw [atI_nn (by omega)]; rfl
theorem atI_last {α : Type} {xs : List α} {x : α} : atI (xs ++ [x]) (-1) = some x := by
  unfold atI ixN
  rw [if_neg (by omega), if_pos (by simp; omega)]
  have : ((-1 : Int) + ((xs ++ [x]).length : Nat)).toNat = xs.length := by simp; omega
  rw [this]; simp
theorem ixN_nn {n : Nat} {i : Int} (h : 0 ≤ i) (k : i < n) : ixN n i = some i.toNat := by unfold ixN; rw [if_pos h, if_pos k]
theorem updN_twice {N : Nm} {a : Addr} {c d : Cell} : updN (updN N a c) a d = updN N a d := by
  funext b; unfold updN; by_cases h : b = a <;> simp [h]
theorem RES_int {N : Nm} {i : Int} {d : D} : RES N (.int i) d ↔ d = .int i := by simp [RES, refsW, res]; exact ⟨fun h => h.symm, fun h => h.symm⟩
theorem RES_bl {N : Nm} {i : Bool} {d : D} : RES N (.bl i) d ↔ d = .bl i := by simp [RES, refsW, res]; exact ⟨fun h => h.symm, fun h => h.symm⟩
theorem RES_non {N : Nm} {d : D} : RES N .non d ↔ d = .non := by simp [RES, refsW, res]; exact ⟨fun h => h.symm, fun h => h.symm⟩
theorem RES_str {N : Nm} {i : Str} {d : D} : RES N (.str i) d ↔ d = .str i := by simp [RES, refsW, res]; exact ⟨fun h => h.symm, fun h => h.symm⟩
theorem RES_lst {N : Nm} {i : List D} {d : D} : RES N (.lst i) d ↔ d = .lst i := by simp [RES, refsW, res]; exact ⟨fun h => h.symm, fun h => h.symm⟩
theorem RES_ref {N : Nm} {a : Addr} {d t : D} (h : N a = some ⟨true, t⟩) : RES N (.ref a) d ↔ d = t := by simp [RES, refsW, res, h]; exact ⟨fun h => h.symm, fun h => h.symm⟩
theorem ress_ints {N : Nm} : ∀ xs : List Int, ress N (xs.map D.int) = xs.map D.int ∧ refsWs N (xs.map D.int) = []
  | [] => by simp [ress, refsWs]
  | x :: xs => by
    obtain ⟨h1, h2⟩ := ress_ints (N := N) xs
    simp [ress, refsWs, res, refsW, h1, h2]
theorem RES_U {N : Nm} {xs : List Int} {d : D} : RES N (.tup (xs.map D.int)) d ↔ d = .tup (xs.map D.int) := by
  obtain ⟨h1, h2⟩ := ress_ints (N := N) xs
  simp [RES, refsW, res, h1, h2]; exact ⟨fun h => h.symm, fun h => h.symm⟩
theorem lfs_ints : ∀ xs : List Int, lfs (xs.map D.int)
  | [] => by simp [lfs]
  | x :: xs => by simp [lfs, lf, lfs_ints xs]
theorem Ints_map {xs : List Int} : Ints (.lst (xs.map D.int)) := ⟨trivial, fun d hd => by obtain ⟨i, _, rfl⟩ := List.mem_map.mp (show d ∈ xs.map D.int from hd); trivial⟩
theorem toI_ints {xs : List Int} : (xs.map D.int).map toI = xs := by rw [List.map_map]; exact List.map_id xs
theorem toIs_lst {xs : List Int} : toIs (.lst (xs.map D.int)) = xs := toI_ints
theorem toIs_tup {xs : List Int} : toIs (.tup (xs.map D.int)) = xs := toI_ints
/-- a comprehension over numbers, its items numbers -/
theorem lcRes_ints {G : GF} {ft : TF} {fe : PF} {δ0 : Loc} {N : Nm} (p : Int → Bool) (g : Int → Int) : ∀ {xs : List Int}, (∀ x ∈ xs, (ft (G (.int x) δ0).loc N).b = p x ∧ (p x = true → (fe (G (.int x) δ0).loc N).val = .int (g x))) →
    lcRes G ft fe δ0 N (xs.map D.int) = ((xs.filter p).map g).map D.int
  | [], _ => rfl
  | x :: xs, h => by
    have ih := lcRes_ints (G := G) (ft := ft) (fe := fe) (δ0 := δ0) (N := N) p g (xs := xs) fun y hy => h y (by simp [hy])
    obtain ⟨h1, h2⟩ := h x (by simp)
    unfold lcRes at ih ⊢
    rw [List.map_cons, List.filter_cons, List.filter_cons, h1]
    by_cases hp : p x = true
    · rw [if_pos hp, if_pos hp, List.map_cons, List.map_cons, List.map_cons, ih, h2 hp]
    · rw [if_neg hp, if_neg hp, ih]
/-- a comprehension over any data -/
theorem lcRes_gen {G : GF} {ft : TF} {fe : PF} {δ0 : Loc} {N : Nm} (p : D → Bool) (g : D → D) : ∀ {xs : List D}, (∀ x ∈ xs, (ft (G x δ0).loc N).b = p x ∧ (p x = true → (fe (G x δ0).loc N).val = g x)) →
    lcRes G ft fe δ0 N xs = (xs.filter p).map g
  | [], _ => rfl
  | x :: xs, h => by
    have ih := lcRes_gen (G := G) (ft := ft) (fe := fe) (δ0 := δ0) (N := N) p g (xs := xs) fun y hy => h y (by simp [hy])
    obtain ⟨h1, h2⟩ := h x (by simp)
    unfold lcRes at ih ⊢
    rw [List.filter_cons, List.filter_cons, h1]
    by_cases hp : p x = true
    · rw [if_pos hp, if_pos hp, List.map_cons, List.map_cons, ih, h2 hp]
    · rw [if_neg hp, if_neg hp, ih]
theorem lcRes_map {α : Type} {G : GF} {ft : TF} {fe : PF} {δ0 : Loc} {N : Nm} (k : α → D) (p : α → Bool) (g : α → D) {xs : List α} (h : ∀ x ∈ xs, (ft (G (k x) δ0).loc N).b = p x ∧ (p x = true → (fe (G (k x) δ0).loc N).val = g x)) :
    lcRes G ft fe δ0 N (xs.map k) = (xs.filter p).map g := by
  induction xs with
  | nil => rfl
  | cons x xs ih =>
    have ih := ih fun y hy => h y (by simp [hy])
    obtain ⟨h1, h2⟩ := h x (by simp)
    unfold lcRes at ih ⊢
    rw [List.map_cons, List.filter_cons, List.filter_cons, h1]
    by_cases hp : p x = true
    · rw [if_pos hp, if_pos hp, List.map_cons, List.map_cons, ih, h2 hp]
    · rw [if_neg hp, if_neg hp, ih]
theorem IsI_int {i : Int} : IsI (.int i) = True := rfl
theorem toI_int {i : Int} : toI (.int i) = i := rfl
theorem IsB_bl {b : Bool} : IsB (.bl b) = True := rfl
theorem toB_bl {b : Bool} : toB (.bl b) = b := rfl
theorem IsS_str {s : Str} : IsS (.str s) = True := rfl
theorem toS_str {s : Str} : toS (.str s) = s := rfl
theorem IsL_lst {xs : List D} : IsL (.lst xs) = True := rfl
theorem IsU_tup {xs : List D} : IsU (.tup xs) = True := rfl
theorem IsQ_lst {xs : List D} : IsQ (.lst xs) = True := rfl
theorem IsQ_tup {xs : List D} : IsQ (.tup xs) = True := rfl
theorem toL_lst {xs : List D} : toL (.lst xs) = xs := rfl
theorem toL_tup {xs : List D} : toL (.tup xs) = xs := rfl
theorem drf_int {N : Nm} {i : Int} : drf N (.int i) = .int i := rfl
theorem drf_bl {N : Nm} {i : Bool} : drf N (.bl i) = .bl i := rfl
theorem drf_str {N : Nm} {i : Str} : drf N (.str i) = .str i := rfl
theorem drf_non {N : Nm} : drf N .non = .non := rfl
theorem drf_lst {N : Nm} {i : List D} : drf N (.lst i) = .lst i := rfl
theorem drf_tup {N : Nm} {i : List D} : drf N (.tup i) = .tup i := rfl
theorem drf_obj {N : Nm} {C dx : Addr} {ns : List Str} {i : List D} : drf N (.obj C dx ns i) = .obj C dx ns i := rfl
theorem drf_ref {N : Nm} {a : Addr} {c : Cell} (h : N a = some c) : drf N (.ref a) = c.d := by simp only [drf, h]
theorem lenD_lst {xs : List D} : lenD (.lst xs) = ⟨True, .int xs.length⟩ := rfl
theorem lenD_tup {xs : List D} : lenD (.tup xs) = ⟨True, .int xs.length⟩ := rfl
theorem intD_int {i : Int} : intD (.int i) = ⟨True, .int i⟩ := rfl
theorem intD_bl {b : Bool} : intD (.bl b) = ⟨True, .int (cond b 1 0)⟩ := by cases b <;> rfl
theorem rA_ref {a : Addr} : rA (some (.ref a)) = a := rfl
theorem lf_int {i : Int} : lf (.int i) = True := by simp [lf]
theorem lf_bl {i : Bool} : lf (.bl i) = True := by simp [lf]
theorem lf_non : lf .non = True := by simp [lf]
theorem lf_str {i : Str} : lf (.str i) = True := by simp [lf]
theorem lf_ref {a : Addr} : lf (.ref a) = True := by simp [lf]
theorem IsC_lst {xs : List D} : IsC (.lst xs) = True := rfl
theorem Ty_int {i : Int} : Ty (.int i) = True := rfl
theorem Ty_tup {i : List D} : Ty (.tup i) = True := rfl
theorem Ty_lst {i : List D} : Ty (.lst i) = True := rfl
theorem Ty_bl {i : Bool} : Ty (.bl i) = True := rfl
theorem Ty_str {i : Str} : Ty (.str i) = True := rfl
theorem Ty_non : Ty .non = True := rfl
/-- a bounded statement over numbers -/
theorem all_ints {xs : List Int} {p : D → Prop} : (∀ d ∈ xs.map D.int, p d) ↔ ∀ x ∈ xs, p (.int x) :=
  ⟨fun h x hx => h _ (List.mem_map.mpr ⟨x, hx, rfl⟩), fun h d hd => by obtain ⟨x, hx, rfl⟩ := List.mem_map.mp hd; exact h x hx⟩
theorem minD_ok {xs : List Int} : (minD (.lst (xs.map D.int))).ok = (xs ≠ []) := by
  unfold minD; rw [toIs_lst]; exact propext ⟨fun h => h.2, fun h => ⟨Ints_map, h⟩⟩
theorem minD_val {xs : List Int} : (minD (.lst (xs.map D.int))).val = .int (minI xs) := by unfold minD; rw [toIs_lst]
theorem maxD_ok {xs : List Int} : (maxD (.lst (xs.map D.int))).ok = (xs ≠ []) := by
  unfold maxD; rw [toIs_lst]; exact propext ⟨fun h => h.2, fun h => ⟨Ints_map, h⟩⟩
theorem maxD_val {xs : List Int} : (maxD (.lst (xs.map D.int))).val = .int (maxI xs) := by unfold maxD; rw [toIs_lst]
theorem sumD_ok {xs : List Int} : (sumD (.lst (xs.map D.int))).ok = True := by
  unfold sumD; exact propext ⟨fun h => trivial, fun h => Ints_map⟩
theorem sumD_val {xs : List Int} : (sumD (.lst (xs.map D.int))).val = .int xs.sum := by unfold sumD; rw [toIs_lst]
theorem sortD_ok {xs : List Int} : (sortD (.lst (xs.map D.int))).ok = True := by
  unfold sortD; exact propext ⟨fun h => trivial, fun h => Ints_map⟩
theorem sortD_val {xs : List Int} : (sortD (.lst (xs.map D.int))).val = .lst ((sortI xs).map .int) := by unfold sortD; rw [toIs_lst]
theorem sub_nil {t : D} : sub t [] = some t := by unfold sub; rfl
theorem put_nil {t e : D} : put t [] e = e := by unfold put; rfl
theorem drf_upd {N : Nm} {a : Addr} {c : Cell} : drf (updN N a c) (.ref a) = c.d := drf_ref updN_same
theorem cdivW {i j : Int} (h : 0 < j) (k : j < 4294967296) : CDivW i j := by
  refine ⟨h, Nat.lt_trans ((Nat.log2_lt (by omega)).mpr (show j.natAbs < 2 ^ 32 by omega)) (by decide)⟩
end DL
set_option maxHeartbeats 4000000
/-! The data layer, 15: sorted of a tuple of numbers. -/
namespace DL
open PySem PyProof.Rows Srt SrtO L2
section
variable {prog : Program} {w : World} {A : Around} {E : Value → Shared → Prop} {s : Shared}
theorem collT {t : Addr} {us : List Value} {Z : List Value → Shared → Prop} (ht : IsTup s.heap t us.toArray) (hz : us.length ≤ sizeLine)
    (q : Z us { s with heap := (s.heap.push (seqObj "list" #[] 0)).update s.heap.objs.size (Obj.mapSeq (· ++ us.toArray)) }) : wpAny (model prog w) A (collect (.ref t)) Z E s := by
  obtain ⟨ob, hb, hcl, m, hda⟩ := ht
  unfold collect
  refine wpAny_bind (wpAny_runValue (codeAny_builtin entry_proto_collect' ?_)); show wpAny _ _ (do again (.builtin "list.__iadd__" ⟨[← newList [], .ref t], []⟩)) _ _ s
  refine wpAny_bind (wpAny_newList (wpAny_pure ⟨Code.quiet_builtin _ (by decide +kernel), codeAny_builtin entry_list_iadd' ?_⟩)); show wpAny _ _ (Builtin.List.listExtendWith (.ref s.heap.objs.size) (.ref t) (.ref s.heap.objs.size)) _ _ { s with heap := s.heap.push (seqObj "list" #[] 0) }
  unfold Builtin.List.listExtendWith
  have hb' : (s.heap.push (seqObj "list" #[] 0)).get? t = some ob := Heap.get?_push_of_some _ hb
  refine wpAny_bind (wpAny_typeOf (T := "tuple") ⟨ob, hb', hcl⟩ ?_)
  have e : (Value.type "tuple" == Value.type "tuple") = true := by rfl
  rw [if_pos (by rw [e]; simp)]
  refine wpAny_bind (listItems_at hb' hda ?_); refine wpAny_bind (listItems_at (xs := #[]) (n := 0) (Heap.get?_push_size _ rfl) rfl ?_)
  rw [if_neg (by simp)]
  refine wpAny_bind (listUpdate_at (xs := #[]) (n := 0) (Heap.get?_push_size _ rfl) rfl ?_ (Nat.zero_le _) (by show (#[] ++ us.toArray).size ≤ sizeLine + 1; simp only [Array.size_append, List.size_toArray, List.length_nil]; omega)); refine wpAny_pure ?_
  show wpAny (model prog w) A (do
      let ob ← load s.heap.objs.size
      match ob.data with
      | .seq ys _ => pure ys.toList
      | _ => unsupported "internal:collect") Z E { s with heap := (s.heap.push (seqObj "list" #[] 0)).update s.heap.objs.size (Obj.mapSeq (· ++ us.toArray)) }
  refine wpAny_bind (wpAny_load (get?_update_seq (Heap.get?_push_size _ rfl) _) ?_); show wpAny _ _ (pure ((#[] : Array Value) ++ us.toArray).toList) Z E _
  rw [show ((#[] : Array Value) ++ us.toArray).toList = us by simp]
  exact wpAny_pure q
/-- sorted(t, ..) by keywords that say reverse=b -/
theorem sortedT {t : Addr} {us : List Value} {b : Bool} {kw : List (Str × Value)} {ltv : Value → Value → Bool} {Z : Value → Shared → Prop} (hk : ∀ a, Builtin.«list.sort» ⟨[.ref a], kw⟩ = Builtin.«list.sort» ⟨[.ref a], [(Str.ofString "reverse", .bool b)]⟩)
    (a1 : argsOk "sorted" ⟨[.ref t], kw⟩) (a2 : ∀ a, argsOk "list.sort" ⟨[a], kw⟩) (O : Swo ltv) (ht : IsTup s.heap t us.toArray) (hz : us.length ≤ sizeLine)
    (hS : 2 ≤ us.length → ∀ (h1 : Heap) (a : Addr), h1.get? a = some (seqObj "list" us.toArray 0) → (∀ c o, s.heap.get? c = some o → c ≠ a ∧ h1.get? c = some o) → SortableO prog w A.in1.in1 { s with heap := h1 } a us ltv)
    (q : ∀ out : List Value, Srtd ltv out → Stb ltv out (if b = true then us.reverse else us) → Z (.ref (s.heap.objs.size + 1)) { s with heap := sortedAll s.heap us (if b = true then out.toArray.reverse else out.toArray) }) :
    wpAny (model prog w) A (call (.builtin "sorted") [.ref t] kw) Z E s := by
  refine call_function_entry_kw kind_sorted plain_sorted entry_sorted a1 ?_
  unfold Builtin.«sorted»
  refine wpAny_bind (m := checkCount "sorted" 1 1 _) (wpAny_pure ?_); refine wpAny_bind (collT ht hz ?_); refine wpAny_bind (wpAny_newList ?_ hz)
  have n1 : ((s.heap.push (seqObj "list" #[] 0)).update s.heap.objs.size (Obj.mapSeq (· ++ us.toArray))).objs.size = s.heap.objs.size + 1 := by rw [Heap.size_update, size_push']
  have n2 : (((s.heap.push (seqObj "list" #[] 0)).update s.heap.objs.size (Obj.mapSeq (· ++ us.toArray))).push (seqObj "list" us.toArray 0)).get? (s.heap.objs.size + 1) = some (seqObj "list" us.toArray 0) := by rw [← n1]; exact Heap.get?_push_size _ rfl
  have kp : ∀ c o, s.heap.get? c = some o → c ≠ s.heap.objs.size + 1 ∧ (((s.heap.push (seqObj "list" #[] 0)).update s.heap.objs.size (Obj.mapSeq (· ++ us.toArray))).push (seqObj "list" us.toArray 0)).get? c = some o := fun c o e => by
    have lt : c < s.heap.objs.size := Heap.lt_size e
    exact ⟨Nat.ne_of_lt (Nat.lt_succ_of_lt lt), Heap.get?_push_of_some _ (by rw [Heap.get?_update_ne _ _ _ _ (Nat.ne_of_lt lt)]; exact Heap.get?_push_of_some _ e)⟩
  show wpAny _ _ _ _ _ { s with heap := ((s.heap.push (seqObj "list" #[] 0)).update s.heap.objs.size (Obj.mapSeq (· ++ us.toArray))).push (seqObj "list" us.toArray 0) }
  rw [n1]
  refine wpAny_bind (wpAny_holding (wpAny_call_entry_kw slot_list_sort ⟨_, n2, rfl⟩ entry_list_sort ?_ (a2 _)))
  rw [hk]
  exact SrtR.list_sort_ordR O n2 hz (fun h2 => hS h2 _ _ n2 kp) fun out s1 s2 => ⟨_, rfl, wpAny_pure ⟨_, rfl, q out s1 s2⟩⟩
end
section
variable {X : Cx} {c c1 : Cl} {pos p : Pos}
def rSortT (K : PySem.W.Frag) (b : Bool) : List V → List V → Hp → VK → Prop := fun vs zs H Q => ∃ (a : Addr) (ns : List Int), vs = [V.ref a] ∧ zs = [.bl b] ∧ SqT K H a (ns.map V.int) ∧
  ∀ (ms : List Int) (l : Addr), ms.Perm ns → OrdB b ms → H l = none → Q (.ref l) (upd H l (.lst (ms.map V.int)))
theorem cr_sortT {b : Bool} : CallRK X (.builtin "sorted") [Str.ofString "reverse"] (rSortT X.K b) := by
  intro pins s σ H vs zs us ws Q I r rz h
  obtain ⟨a, ns, rfl, rfl, hs, q⟩ := h
  obtain rfl := Vals.ref1 r
  obtain ⟨w1, rfl, e1⟩ := vals1 rz
  obtain rfl : w1 = Value.bool b := e1
  obtain ⟨its, rv, hl, hz⟩ := I.tuple hs
  have hi := rv.ints
  refine sortedT (fun _ => rfl) (PyProof.Rows.args_sorted_rev _ _) (fun _ => PyProof.Rows.args_list_sort_rev _ _) SrtO.swo_int hl (by rw [← rv.length]; exact hz) (fun h2 h₁ a' _ _ => SrtO.ints_sortable hi h2) fun out h1 h2 => ?_
  obtain ⟨ms, k1, k2, k3⟩ := SrtR.ints_outR hi h1 h2
  obtain ⟨ep, he⟩ := PyProof.Rows.sortedAll_at s.heap its (if b = true then out.toArray.reverse else out.toArray)
  have hlen : (ms.map V.int).length ≤ sizeLine := by rw [List.length_map] at hz ⊢; rw [k2.length_eq]; exact hz
  have e0 : ((if b = true then out.toArray.reverse else out.toArray).toList).toArray = (if b = true then out.toArray.reverse else out.toArray) := Array.toArray_toList
  refine ⟨.ref _, upd H (s.heap.objs.size + 1) (.lst (ms.map V.int)), ?_, rfl, q _ _ k2 k3 (I.hok.fresh (Nat.le_succ _))⟩
  exact I.laid (t' := s.toks) (fun _ _ => PyProof.Rows.sortedAll_old) (Nat.le_succ _) ⟨hlen, _, ep, vals_of_ints k1, by rw [e0]; exact he⟩
def sortRT (d : D) : PV := ⟨UInts d, .lst ((sortI (toIs d)).reverse.map D.int)⟩
theorem dp_sortedRT {a : Expr} {f : PF} {j p3 kp} (hg : Gl X "sorted") (hm : X.mg "sorted" = none) (ha : DP X c1 a f) (hs : starEach [a] X.env = (false, eval a X.env) :: starEach [] X.env := by rfl)
    (hb : backTo pos (starEach [a] X.env) = (false, eval a X.env) :: backTo pos (starEach [] X.env) := by rfl) (hpl : (backTo pos (starEach [a] X.env)).any (·.1) = false := by rfl) : DP X c (.Call (.Name "sorted" p) [a] [⟨some "reverse", .Constant (.bool true) j p3, kp⟩] pos) (p1 sortRT f) := by
  refine pe_imp (pe_callBK (ks := [Str.ofString "reverse"]) (cr_sortT (b := true)) hg hm (by decide +kernel) (pa_cons ha pa_nil hs) (pk_cons pe_bl pk_nil) (he := hb) (hpl := hpl)) fun σ H Q h => ?_
  obtain ⟨δ, N, F, hS, hn, ok, q⟩ := h
  refine ⟨δ, N, F, hS, hn, ok.1, fun v H1 fp e1 r1 k1 => ?_⟩
  have hU := ok.2
  have r2 := r1
  rw [UInts.eq hU] at r2
  obtain ⟨pp, vs, rfl, hp, rl⟩ := r2
  obtain ⟨ev, _⟩ := rl.ints_ (fun d hd => by obtain ⟨i, _, rfl⟩ := List.mem_map.mp hd; trivial)
  rw [toI_ints] at ev
  subst ev
  refine ⟨pp, toIs (f δ N).val, rfl, rfl, SqT.of hp, fun ns' l h1 h2 hl => ?_⟩
  have e : ns' = (sortI (toIs (f δ N).val)).reverse := by
    have h3 : ns'.Pairwise (· ≥ ·) := h2
    have := sortI_of (xs := toIs (f δ N).val) (ys := ns'.reverse) ((List.reverse_perm ns').trans h1) (List.pairwise_reverse.mpr h3)
    rw [← this, List.reverse_reverse]
  subst e
  exact new_lst (c := c) (F := F) e1 (RpL.of_ints _) Cl.nil hl fun u H' fp e r k => q u H' fp (e1.trans e) r k
end
theorem UInts_map {xs : List Int} : UInts (.tup (xs.map D.int)) := ⟨trivial, fun d hd => by obtain ⟨i, _, rfl⟩ := List.mem_map.mp (show d ∈ xs.map D.int from hd); trivial⟩
theorem sortRT_ok {xs : List Int} : (sortRT (.tup (xs.map D.int))).ok = True := by
  unfold sortRT; exact propext ⟨fun h => trivial, fun h => UInts_map⟩
theorem sortRT_val {xs : List Int} : (sortRT (.tup (xs.map D.int))).val = .lst ((sortI xs).reverse.map .int) := by unfold sortRT; rw [toIs_tup]
theorem maxU_ok {zs : List (List Int)} : (maxU (.lst (zs.map fun z => .tup (z.map D.int)))).ok = (zs ≠ []) := by
  unfold maxU
  refine propext ⟨fun h z => h.2.1 (by rw [z]; rfl), fun h => ⟨trivial, fun z => h (List.map_eq_nil_iff.mp (show zs.map _ = [] from z)), fun x hx => by
    obtain ⟨z, _, rfl⟩ := List.mem_map.mp (show x ∈ zs.map _ from hx); exact UInts_map⟩⟩
theorem maxU_val {zs : List (List Int)} : (maxU (.lst (zs.map fun z => .tup (z.map D.int)))).val = .tup ((maxLs zs).map .int) := by
  unfold maxU
  have : (toL (.lst (zs.map fun z => D.tup (z.map D.int)))).map toIs = zs := by
    show (zs.map _).map toIs = zs
    rw [List.map_map]
    refine (List.map_congr_left fun z _ => ?_).trans (List.map_id zs)
    exact toIs_tup
  rw [this]
end DL
set_option maxHeartbeats 4000000
/-! The data layer, 16: the law's start over the script. -/
namespace DL
open PySem L2
def MX : Int := 2147483647
abbrev rLo (K : PySem.W.Frag) : List V → Hp → VK → Prop := fun xs H Q => ∃ p ys, xs = [.ref p] ∧ (SqL K H p ys ∨ SqT K H p ys) ∧ ∀ l, H l = none → Q (.ref l) (upd H l (.lst ys))
/-- the law's mix: a list of a number, the script's numbers, 0 -/
def spMix (K : PySem.W.Frag) : Sp := fun vs H Q _ => ∃ (a : Addr) (ns : List Int) (m : Int), vs = [.ref a, .int m] ∧ 0 ≤ m ∧ m < MX ∧ SqL K H a (ns.map V.int) ∧
  ∀ (m' : Int) (p q : Addr), 0 ≤ m' → m' < MX → p ≠ q → H q = none → H p = none → Q (.ref p) (upd (upd H q (.lst (ns.map V.int))) p (.lst [.int m', .ref q, .int 0]))
abbrev rAd : R2 := rI0 fun i j => .int (i + j)
abbrev rMu : R2 := rI CMul fun i j => .int (i * j)
abbrev rMo : R2 := rI (fun _ j => 0 < j) fun i j => .int (i % j)
def t_mix (K : PySem.W.Frag) : TS := tSeq (tAsg (tVar 1) (gName 2))
  (tSeq (tFor (iList K (tVar 0)) (gName 3) (tAsg (tOp rMo (tOp rAd (tOp rAd (tOp rMu (tVar 2) (tC (.int 48271))) (tOp rMo (tVar 3) (tC (.int 2147483629)))) (tC (.int 1))) (tC (.int 2147483647))) (gName 2)))
  (tRet (tLst (tCons (tVar 2) (tCons (tCB (rLo K) (tCons (tVar 0) tNil)) (tCons (tC (.int 0)) tNil))))))
theorem r_mix {K : PySem.W.Frag} {N : List Str} (hN : N.length = 4) (vs : List V) (H : Hp) (Q : VK) (E : XK) (h : spMix K vs H Q E) : t_mix K { nx := fun _ H' => Q .non H', rt := Q } (start N vs) H := by
  obtain ⟨a, ns, m, rfl, h0, h1, hs, q⟩ := h
  have e0 : start N [.ref a, .int m] = [some (.ref a), some (.int m), none, none] := by
    show [some (V.ref a), some (V.int m)] ++ List.replicate (N.length - 2) none = _
    rw [hN]; rfl
  rw [e0]
  refine ⟨_, rfl, ?_⟩
  show tSeq _ _ _ [some (.ref a), some (.int m), some (.int m), none] H
  refine ⟨_, rfl, a, rfl, ⟨_, hs⟩, ?_⟩
  refine for_list (xs := ns.map V.int) (fun i σ H' => H' = H ∧ ∃ (m' : Int) (c : Option V), 0 ≤ m' ∧ m' < MX ∧ σ = [some (.ref a), some (.int m), some (.int m'), c]) ⟨rfl, m, none, h0, h1, rfl⟩ ?_ ?_ ?_
  · rintro i σ H' _ ⟨rfl, _⟩; exact hs
  · rintro i x σ H' hx ⟨rfl, m', c, g0, g1, rfl⟩
    rw [List.getElem?_map] at hx
    obtain ⟨z, hz, rfl⟩ := Option.map_eq_some_iff.mp hx
    show tAsg _ _ _ [some (.ref a), some (.int m), some (.int m'), some (.int z)] H'
    unfold MX at *
    refine ⟨_, rfl, _, _, rfl, rfl, .inl ⟨by omega, by omega⟩, _, rfl, _, _, rfl, rfl, (by decide : (0 : Int) < 2147483629), _, _, rfl, rfl, _, _, rfl, rfl, _, _, rfl, rfl, (by decide : (0 : Int) < 2147483647), ?_⟩
    exact ⟨rfl, _, _, Int.emod_nonneg _ (by decide), Int.emod_lt_of_pos _ (by decide), rfl⟩
  · rintro σ H' ⟨rfl, m', c, g0, g1, rfl⟩
    refine ⟨_, rfl, _, rfl, a, _, rfl, .inl hs, fun qq hq => ?_⟩
    refine ⟨(by decide : 3 ≤ sizeLine), fun p hp => ?_⟩
    refine q m' p qq g0 g1 (fun z => ?_) hq ?_
    · subst z; rw [upd_same] at hp; cases hp
    · cases e : H' p with
      | none => rfl
      | some o =>
        have : p ≠ qq := fun z => by subst z; rw [hq] at e; cases e
        rw [upd_ne this, e] at hp; cases hp
def nm1 (p : Addr) (d : D) : Nm := updN (fun _ => none) p ⟨true, d⟩
theorem mix_to {E : XK} {w : WS} {D' : Ends} {H : Hp} {a p q : Addr} {ns : List Int} {m : Int} {n : Nat} (hq : H q = none) (hp : H p = none) (hne : p ≠ q)
    (hw : w { nx := fun _ _ => False, rt := fun d _ => d = .bl true } (none :: some (.ref p) :: List.replicate n none) (nm1 p (.lst [.int m, .lst (ns.map .int), .int 0]))) (hD : ∀ H', D'.rt (.bl true) H') :
    tDS E false w D' (some (.ref a) :: some (.ref p) :: List.replicate n none) (upd (upd H q (.lst (ns.map V.int))) p (.lst [.int m, .ref q, .int 0])) := by
  have e1 : upd (upd H q (.lst (ns.map V.int))) p (.lst [.int m, .ref q, .int 0]) p = some (.lst [.int m, .ref q, .int 0]) := upd_same
  have e2 : upd (upd H q (.lst (ns.map V.int))) p (.lst [.int m, .ref q, .int 0]) q = some (.lst (ns.map V.int)) := by rw [upd_ne (fun z => hne z.symm)]; exact upd_same
  have N1 : ∀ b c, nm1 p (.lst [.int m, .lst (ns.map .int), .int 0]) b = some c → b = p ∧ c = ⟨true, .lst [.int m, .lst (ns.map .int), .int 0]⟩ := fun b c h => by
    unfold nm1 updN at h
    by_cases z : b = p
    · rw [if_pos z] at h; exact ⟨z, (Option.some.inj h).symm⟩
    · rw [if_neg z] at h; cases h
  refine ⟨_, _, fun _ => False, fun b => b = p ∨ b = q, _, ⟨⟨fun _ => [p, q], ?_⟩, ?_⟩, hw, ?_⟩
  · refine ⟨fun b c h => ?_, fun b c h _ => ⟨by simp [hne], fun z hz => by simpa using hz⟩, fun b b' c e hb h1 _ h2 => ?_, fun z hz => hz.elim, fun z hz => ?_⟩
    · obtain ⟨rfl, rfl⟩ := N1 b c h
      refine ⟨⟨b, _, [q], rfl, e1, ?_, rfl⟩, by simp⟩
      refine ⟨_, _, [], [q], rfl, ⟨rfl, rfl⟩, ⟨_, _, [q], [], rfl, ⟨q, _, [], rfl, e2, RpL.of_ints ns, rfl⟩, ⟨_, _, [], [], rfl, ⟨rfl, rfl⟩, RpL.nil, rfl⟩, rfl⟩, rfl⟩
    · exact absurd ((N1 b c h1).1.trans (N1 b' e h2).1.symm) hb
    · rcases hz with rfl | rfl
      · exact ⟨_, e1, fun xs z => by cases z⟩
      · exact ⟨_, e2, fun xs z => by cases z⟩
  · refine ⟨by simp, fun z hz => hz.elim, fun i d h => ?_⟩
    match i, h with
    | 0, h => simp at h
    | 1, h =>
      have : D.ref p = d := by simpa using h
      subst this
      exact ⟨.ref p, [], rfl, ⟨rfl, rfl⟩, fun z hz => by cases hz⟩
    | i + 2, h =>
      have h' : (List.replicate n (none : Option D))[i]? = some (some d) := by simpa using h
      have := List.mem_of_getElem? h'
      have := (List.mem_replicate.mp this).2
      cases this
  · refine ⟨fun σ' H' F' P' δ' N' t o z => z.elim, fun σ' H' F' P' δ' N' t o z => z.elim, fun σ' H' F' P' δ' N' t o z => z.elim, fun v H' F' P' d N' fp t wf r rt z => ?_, fun x cls dd H' F' P' N' t wf r z => z.elim⟩
    subst z
    rw [r.1]
    exact hD H'
/-- what the law itself promises -/
def spLaw (K : PySem.W.Frag) : Sp := fun vs H Q _ => ∃ (a : Addr) (ns : List Int), vs = [.ref a] ∧ SqL K H a (ns.map V.int) ∧ ∀ H', Q (.bl true) H'
/-- behind the law nothing is let out -/
theorem law_cx0 {P : Program} {w : World} {K : PySem.W.Frag} {mg : Str → Option Value} {base : Heap} {k : Nat} {f : Addr} {fd : FuncData} {ps : List Str} (F : FnOk P w K mg base (L2.CX P w) k f fd ps (spLaw K)) : FnOk P w K mg base CX0 k f fd ps (spLaw K) :=
  ⟨F.len, fun A outer s H args us vs Q E hr he hb hv hs => codeAny_mono (F.run A outer s H args us vs Q E0 hr he hb hv hs) fun r s' h => by
    cases r with
    | ok v => cases v <;> exact h
    | error e =>
      obtain ⟨_, _, _, _, _, _, _, _, _, _, _, _, z⟩ := (show L2.CX P w outer H s E0 e s' from h)
      exact z.elim⟩
theorem law_binds {K : PySem.W.Frag} {st : Stmt} {f : Addr} {fd : FuncData} {x : Str} (F : L2.Fun K "law" "law" st f fd)
    (h : ∀ (kV doc pm : Value) (an : Option Addr) (cdv ct : Value) (u : Value), bindArgs (PySem.W.fnOf "law" "law" (defArgs st) (defBody st) (defScope st) .none kV doc pm an cdv ct) ⟨[u], []⟩ = pure [(x, u)]) (s : Shared) (u : Value) : BindsTo s fd ⟨[u], []⟩ [(x, u)] := by
  obtain ⟨oc, od, kV, doc, pm, an, cdv, ct, osl, rfl, lk, hcd⟩ := F.ex
  exact .of_eq (h kV doc pm an cdv ct u)
end DL
set_option maxHeartbeats 4000000
/-! The data layer, 17: sorted(set(list of numbers)). -/
namespace DL
open PySem PySem.Spec PyProof.Rows L2
section
variable {P : Program} {w : World} {A : Around} {E : Value → Shared → Prop} {s : Shared}
abbrev sNew (w : World) : Obj := { cls := .type "set", dict := none, data := .set #[] 0 (.fresh 0 0 (!w.params.followText "set-order")) }
/-- set(l), l a list of numbers -/
theorem setList {l : Addr} {its : Array Value} (ns : List Int) {Z : Value → Shared → Prop} (hh : A.handled = none) (hl : s.heap.IsList l its) (hi : IntsAre its.toList ns) (hb : ns.length + 1 < scanBound)
    (q : ∀ (g : Heap) (tk c : Nat), SetR w g s.heap.objs.size (fun j => decide (j ∈ ns)) c → c ≤ ns.length → (∀ b o, s.heap.get? b = some o → g.get? b = some o) → Z (.ref s.heap.objs.size) { s with heap := g, toks := tk }) :
    wpAny (model P w) A (call (.type "set") [.ref l]) Z E s := by
  have sz : its.size = ns.length := by have z := IntsAre.length hi; rw [Array.length_toList] at z; exact z
  obtain ⟨cc, tl, hmro⟩ := F.called_set.mro
  have g1 := F.called_set.made; have g2 := F.called_set.sub
  refine wpAny_call (codeAny_of_tree ?_); show wpAny _ _ (callAny (.type "set") _) _ _ _
  refine wpAny_pure ⟨Code.quiet_builtin _ (by decide +kernel), codeAny_builtin F.entry_type_call ?_⟩; rw [Around.under_plain (weight_type_call_type "set" [.ref l] []) rfl]
  have g3 := F.called_set.notType; have g4 := F.called_set.canCreate
  have g5 := F.typeCall_set_1 (.ref l); repeat (any_goals (first | assumption | wp_step))
  refine codeAny_mono (code_set_led1 (.ref l) (E := E) (Q₁ := fun ob sa => ob = .ref s.heap.objs.size ∧ sa = { s with heap := s.heap.push (sNew w) }) ⟨rfl, rfl⟩) fun r sa hr => ?_
  cases r with
  | error e => exact hr
  | ok fl =>
    cases fl with
    | ret ob =>
      obtain ⟨rfl, rfl⟩ := hr
      have hS : (s.heap.push (sNew w)).get? s.heap.objs.size = some (sNew w) := Heap.get?_push_size _ rfl
      have hT : Shared.TypeIs { s with heap := s.heap.push (sNew w) } (.ref s.heap.objs.size) "set" := ⟨_, hS, rfl⟩
      have g6 := F.called_set.init.lookup; have g7 := F.called_set.init.bind (.ref s.heap.objs.size)
      repeat (any_goals (first | assumption | wp_step))
      refine codeAny_mono (codeAny_call_builtin (R := wants (fun r sb => r = .none ∧ ∃ g tk c, sb = { s with heap := g, toks := tk } ∧ SetR w g s.heap.objs.size (fun j => decide (j ∈ ns)) c ∧ c ≤ ns.length ∧ (∀ b o, s.heap.get? b = some o → g.get? b = some o)) E)
        F.called_set.init.plain F.entry_set_init (check_set_init_1 hT ?_)) fun rb sb hrb => ?_
      · obtain ⟨ol, hol, hcl, nl, hdl⟩ := hl
        obtain ⟨oc, od, odt, osl⟩ := ol
        simp only at hcl hdl
        subst hcl hdl
        have hol2 : (s.heap.push (sNew w)).get? l = some { cls := .type "list", dict := od, data := .seq its nl, slots := osl } := Heap.get?_push_of_some _ hol
        have g8 := F.sub_list_set; have g9 := F.sub_list_frozenset
        have g10 : (Value.type "list" == Value.type "dict") = false := by decide
        have hl1 : (s.heap.push (sNew w)).IsList l its := ⟨_, hol2, rfl, nl, rfl⟩
        unfold Builtin.«set.__init__» noKeywords Builtin.Frozenset.updateFrom
        generalize hPy : pyIter = PY
        wp_walk
        subst hPy
        refine wpAny_pyIter_list hl1 ?_; refine wpAny_bind (wpAny_runValue ?_)
        have hlS : l < s.heap.objs.size := Heap.lt_size hol
        have g11 : A.in1.in1.in1.handled = none := by simp [hh]
        have g12 : l ≠ (s.heap.push (sNew w)).objs.size := by rw [Heap.size_push]; exact Nat.ne_of_lt (Nat.lt_succ_of_lt hlS)
        have hSf : s.heap.objs.size ∉ [(s.heap.push (sNew w)).objs.size, l] := by
          rw [Heap.size_push]; simp only [List.mem_cons, List.mem_singleton, List.not_mem_nil, or_false, not_or]; exact ⟨Nat.ne_of_lt (Nat.lt_succ_self _), Nat.ne_of_gt hlS⟩
        have hval : ∀ (i : Nat) (v : Value), its[i]? = some v → ∃ k t, ns[i]? = some k ∧ v = .int k t := fun i v hv => by
          have lt : i < ns.length := by rw [← sz]; exact (Array.getElem?_eq_some_iff.mp hv).1
          obtain ⟨t, e⟩ := PyProof.Rows.IntsAre.int_at hi i v (by rw [Array.getElem?_toList]; exact hv)
          exact ⟨ns[i], t, List.getElem?_eq_getElem lt, by rw [e, List.getD_eq_getElem?_getD, List.getElem?_eq_getElem lt] <;> rfl⟩
        refine set_update_ints ((Walks.list g11 _ l g12 its).toS) s.heap.objs.size hSf ns sz hb hval (its.size - 0) 0 _ (by omega) (Nat.zero_le _) ⟨⟨_, Heap.get?_push_size _ rfl, rfl, rfl⟩, (hl1.push _)⟩ ?hA ?hB
        case hA => exact ⟨0, Nat.le_refl 0, setR_new_at (Heap.get?_push_of_some _ hS)⟩
        case hB =>
          intro sz' c' hm hc' hS'
          obtain ⟨g, gg, dd, tk, oo⟩ := sz'
          have eg : gg = s.gens := hm.gens
          have ed : dd = s.drawn := hm.drawn
          have eo : oo = s.os := hm.os
          subst eg ed eo
          show wpAny _ _ _ _ _ _
          refine wpAny_pure ?_; show wpAny _ _ (ret Value.none) _ _ _
          rw [sz] at hc'
          refine wpAny_pure ⟨rfl, g, tk, c', rfl, hS', hc', fun b o e => ?_⟩
          have lt : b < s.heap.objs.size := Heap.lt_size e
          refine hm.heap b o ?_ (Heap.get?_push_of_some _ (Heap.get?_push_of_some _ e))
          simp only [List.mem_cons, List.mem_singleton, List.not_mem_nil, or_false, not_or]
          exact ⟨Nat.ne_of_lt lt, by rw [Heap.size_push]; exact Nat.ne_of_lt (Nat.lt_succ_of_lt lt)⟩
      · cases rb with
        | error e => exact hrb
        | ok fb =>
          cases fb with
          | ret r =>
            obtain ⟨rfl, g, tk, c', rfl, hS', hc', hk'⟩ := hrb
            repeat (any_goals (first | assumption | wp_step))
            exact q _ _ _ hS' hc' hk'
          | _ => exact hrb.elim
    | _ => exact hr.elim
end
section
variable {X : Cx}
def rSetL (K : PySem.W.Frag) (w : World) : List V → Hp → VK → Prop := fun xs H Q => ∃ (a : Addr) (ns : List Int), xs = [.ref a] ∧ SqL K H a (ns.map V.int) ∧ ns.length + 1 < scanBound ∧ ∀ l c, H l = none → c ≤ ns.length → Q (.ref l) (upd H l (SetO w l (fun j => decide (j ∈ ns)) c))
theorem cr_setL (hc : X.calm = true) : CallR X (.type "set") (rSetL X.K X.w) := by
  intro pins s σ H xs us Q I r h
  obtain ⟨a, ns, rfl, hs, hb, q⟩ := h
  obtain ⟨its, rv, hl, _⟩ := I.list hs
  rw [Vals.ref1 r]
  have hi := rv.ints
  refine setList ns (I.ok.hd hc) hl.isList (by simpa using hi) hb fun g tk c R hcn k => ?_
  exact ⟨.ref _, upd H s.heap.objs.size (SetO X.w s.heap.objs.size (fun j => decide (j ∈ ns)) c), I.laid (t' := tk) k (Nat.le_refl _) (setO_new R), rfl, q _ c (I.hok.fresh (Nat.le_refl _)) hcn⟩
end
/-! ### rising, each once -/
def insU (x : Int) : List Int → List Int
  | [] => [x]
  | y :: ys => if x < y then x :: y :: ys else if x = y then y :: ys else y :: insU x ys
def usort : List Int → List Int
  | [] => []
  | x :: xs => insU x (usort xs)
theorem insU_mem {x z : Int} : ∀ {ys : List Int}, z ∈ insU x ys ↔ z = x ∨ z ∈ ys
  | [] => by simp [insU]
  | y :: ys => by
    unfold insU
    by_cases h1 : x < y
    · simp [h1]
    · by_cases h2 : x = y
      · subst h2; simp
      · simp [h1, h2, insU_mem (ys := ys)]
        constructor
        · rintro (h | h | h); exact .inr (.inl h); exact .inl h; exact .inr (.inr h)
        · rintro (h | h | h); exact .inr (.inl h); exact .inl h; exact .inr (.inr h)
theorem insU_up {x : Int} : ∀ {ys : List Int}, ys.Pairwise (· < ·) → (insU x ys).Pairwise (· < ·)
  | [], _ => by simp [insU]
  | y :: ys, h => by
    obtain ⟨h0, h3⟩ := List.pairwise_cons.mp h
    unfold insU
    by_cases h1 : x < y
    · rw [if_pos h1]
      exact List.pairwise_cons.mpr ⟨fun z hz => by rcases List.mem_cons.mp hz with rfl | hz; exact h1; have := h0 z hz; omega, h⟩
    · rw [if_neg h1]
      by_cases h2 : x = y
      · rw [if_pos h2]; exact h
      · rw [if_neg h2]
        exact List.pairwise_cons.mpr ⟨fun z hz => by rcases insU_mem.mp hz with rfl | hz; omega; exact h0 z hz, insU_up h3⟩
theorem usort_mem {z : Int} : ∀ {xs : List Int}, z ∈ usort xs ↔ z ∈ xs
  | [] => by simp [usort]
  | x :: xs => by rw [usort, insU_mem, usort_mem, List.mem_cons]
theorem usort_up : ∀ {xs : List Int}, (usort xs).Pairwise (· < ·)
  | [] => by simp [usort]
  | x :: xs => by rw [usort]; exact insU_up usort_up
theorem up_uniq : ∀ {xs ys : List Int}, xs.Pairwise (· < ·) → ys.Pairwise (· < ·) → (∀ z, z ∈ xs ↔ z ∈ ys) → xs = ys
  | [], [], _, _, _ => rfl
  | [], y :: ys, _, _, h => absurd ((h y).mpr (by simp)) (by simp)
  | x :: xs, [], _, _, h => absurd ((h x).mp (by simp)) (by simp)
  | x :: xs, y :: ys, a, b, h => by
    obtain ⟨a1, a2⟩ := List.pairwise_cons.mp a
    obtain ⟨b1, b2⟩ := List.pairwise_cons.mp b
    have e : x = y := by
      rcases List.mem_cons.mp ((h x).mp (by simp)) with e | e
      · exact e
      · rcases List.mem_cons.mp ((h y).mpr (by simp)) with e' | e'
        · exact e'.symm
        · have := a1 y e'; have := b1 x e; omega
    subst e
    rw [up_uniq a2 b2 fun z => ?_]
    constructor
    · intro hz
      rcases List.mem_cons.mp ((h z).mp (by simp [hz])) with e | e
      · have := a1 z hz; omega
      · exact e
    · intro hz
      rcases List.mem_cons.mp ((h z).mpr (by simp [hz])) with e | e
      · have := b1 z hz; omega
      · exact e
theorem usort_len : ∀ {xs : List Int}, (usort xs).length ≤ xs.length
  | [] => by simp [usort]
  | x :: xs => by
    have ih := usort_len (xs := xs)
    have : ∀ ys : List Int, (insU x ys).length ≤ ys.length + 1 := fun ys => by
      induction ys with
      | nil => simp [insU]
      | cons y ys ih => unfold insU; split; simp; split; simp; simp; omega
    have := this (usort xs)
    rw [usort]; simp; omega
section
variable {X : Cx} {E : XK} {c c1 : Cl} {pos p p2 pos2 : Pos}
def sortsetD (d : D) : PV := ⟨Ints d ∧ (toL d).length < 64, .lst ((usort (toIs d)).map D.int)⟩
theorem sortset_rd {F : Addr → Prop} {H H1 : Hp} {d : D} {v : V} {fp : List Addr} {Q : VK} (r : Rp H1 d v fp) (ok : (sortsetD d).ok) (q : ∀ l, H1 l = none → ∀ H2, Ex H1 H2 → H2 l = some (.lst ((usort (toIs d)).map V.int)) → Q (.ref l) H2) {K : PySem.W.Frag} {w : World} :
    rSetL K w [v] H1 fun x H2 => rSortedSet w [x] H2 Q := by
  obtain ⟨pp, rfl, hp⟩ := r.ints ok.1
  have hl : (toIs d).length < 64 := by show ((toL d).map toI).length < 64; rw [List.length_map]; exact ok.2
  refine ⟨pp, toIs d, rfl, SqL.of hp, Nat.lt_of_lt_of_le (Nat.succ_lt_succ hl) (by decide), fun l n hn hc => ?_⟩
  refine ⟨l, _, n, rfl, upd_same, by omega, fun ms p up hm _ hf => ?_⟩
  have e : ms = usort (toIs d) := up_uniq up usort_up fun z => by rw [hm z, usort_mem]; simp
  subst e
  have e1 : Ex H1 (upd H1 l (SetO w l (fun j => decide (j ∈ toIs d)) n)) := Ex.new hn
  have e2 : Ex (upd H1 l (SetO w l (fun j => decide (j ∈ toIs d)) n)) (upd (upd H1 l (SetO w l (fun j => decide (j ∈ toIs d)) n)) p (.lst ((usort (toIs d)).map V.int))) := Ex.new hf
  exact q p ((e1.free hf)) _ (e1.trans e2) upd_same
/-- sorted(set(xs)) -/
theorem dp_sortset {a : Expr} {f : PF} (hc : X.calm = true) (hg : Gl X "sorted") (hm : X.mg "sorted" = none) (hg2 : Gl X "set") (hm2 : X.mg "set" = none) (ha : DP X c1 a f)
    (hs : starEach [a] X.env = (false, eval a X.env) :: starEach [] X.env := by rfl)
    (hs2 : starEach [.Call (.Name "set" p2) [a] [] pos2] X.env = (false, eval (.Call (.Name "set" p2) [a] [] pos2) X.env) :: starEach [] X.env := by rfl) :
    DP X c (.Call (.Name "sorted" p) [.Call (.Name "set" p2) [a] [] pos2] [] pos) (p1 sortsetD f) := by
  refine pe_imp (pe_callB (cr_sortedSet hc) hg hm (by decide +kernel) (pa_cons (pe_callTy (cr_setL hc) hg2 hm2 (by decide +kernel) (pa_cons ha pa_nil hs) (he := hs) (hpl := by rfl)) pa_nil hs2) (he := hs2) (hpl := by rfl)) fun σ H Q h => ?_
  obtain ⟨δ, N, F, hS, hn, ok, q⟩ := h
  refine ⟨δ, N, F, hS, hn, ok.1, fun v H1 fp e1 r1 k1 => ?_⟩
  refine sortset_rd (F := F) (H := H) r1 ok.2 fun l hl H2 e2 h2 => ?_
  refine q _ H2 [l] (e1.trans e2) ⟨l, _, [], rfl, h2, RpL.of_ints _, rfl⟩ (Cl.frs_ ⟨by simp, fun z hz => ?_⟩)
  rw [List.mem_singleton.mp hz]; exact e1.free hl
def w1 (h : D → PV) (w : WE) : WE := fun δ N Q E => w δ N (fun d N1 => (h d).ok ∧ Q (h d).val N1) E
theorem de_sortset {a : Expr} {w : WE} (hc : X.calm = true) (hg : Gl X "sorted") (hm : X.mg "sorted" = none) (hg2 : Gl X "set") (hm2 : X.mg "set" = none) (ha : DE X E a w)
    (hs : starEach [a] X.env = (false, eval a X.env) :: starEach [] X.env := by rfl)
    (hs2 : starEach [.Call (.Name "set" p2) [a] [] pos2] X.env = (false, eval (.Call (.Name "set" p2) [a] [] pos2) X.env) :: starEach [] X.env := by rfl) :
    DE X E (.Call (.Name "sorted" p) [.Call (.Name "set" p2) [a] [] pos2] [] pos) (w1 sortsetD w) := by
  refine pe_imp (pe_callB (cr_sortedSet hc) hg hm (by decide +kernel) (pa_cons (pe_callTy (cr_setL hc) hg2 hm2 (by decide +kernel) (pa_cons ha pa_nil hs) (he := hs) (hpl := by rfl)) pa_nil hs2) (he := hs2) (hpl := by rfl)) fun σ H Q h => ?_
  obtain ⟨δ, N, F, P, Q', E', o, q', q, qe⟩ := h
  refine ⟨δ, N, F, P, _, E', o, q', fun v H1 F1 P1 d N1 fp t1 o1 r1 k1 q1 => ?_, qe⟩
  refine sortset_rd (F := F1) (H := H1) r1 q1.1 fun l hl H2 e2 h2 => ?_
  have r2 : Rp H2 (.lst ((usort (toIs d)).map D.int)) (.ref l) [l] := ⟨l, _, [], rfl, h2, RpL.of_ints _, rfl⟩
  obtain ⟨o2, t2⟩ := cln_grow o1 e2 (Cl.frs_ (c := .cln) ⟨by simp, fun z hz => by rw [List.mem_singleton.mp hz]; exact hl⟩) (Rp.there _ _ _ r2)
  exact q _ H2 _ P1 _ N1 [l] (t1.trans t2) o2 r2 (fun p hp => .inr hp) q1.2
end
end DL
set_option maxHeartbeats 4000000
/-! The data layer, 18: comprehensions whose parts change the state; more impure rules. -/
namespace DL
open PySem L2
/-- [e for t in it if c], e and c impure: the list stands at a new name a -/
def lcW (G : GF) (wt : WT) (we : WE) (δ0 : Loc) (a : Addr) (Q : D → Nm → Prop) : List D → Nm → Prop
  | [], N => Q (.ref a) N
  | d :: ds, N => (G d δ0).ok ∧ wt (G d δ0).loc N (fun b N2 => if b = true then we (G d δ0).loc N2 (fun y N3 => lf y ∧ ∃ xs, N3 a = some ⟨true, .lst xs⟩ ∧ xs.length < SZ ∧ lcW G wt we δ0 a Q ds (updN N3 a ⟨true, .lst (xs ++ [y])⟩)) E9
      else lcW G wt we δ0 a Q ds N2) E9
def wLc (wi : WA) (G : GF) (wt : WT) (we : WE) (vs : List Nat) : WE := fun δ N Q E => wi δ N (fun items N1 => ∀ a, N1 a = none → lcW G wt we (wipeD δ vs) a Q items (updN N1 a ⟨true, .lst []⟩)) E
theorem lcE_rd {E : XK} {vs0 : List Nat} {wi : WA} {sl : List Nat} {G : GF} {wt : WT} {we : WE} (hsl : ∀ i ∈ sl, i ∈ vs0) (σ : St) (H : Hp) (Q : VK) (h : tDE E (wLc wi G wt we vs0) σ H Q) :
    tLc (tIE E wi) (tG sl G) (tDT E0 wt) (tDE E0 we) vs0 σ H Q := by
  obtain ⟨δ, N, F, P, Q', E', o, q', q, qe⟩ := h
  refine ⟨δ, N, F, P, _, E', o, q', fun J H1 F1 P1 items N1 fs t1 o1 wk kf q1 => ?_, qe⟩
  intro D hD
  obtain ⟨hND, oD, tD⟩ := o1.alloc (Ex.new (o := .lst []) hD) (d := .lst []) (a := D) (fp := [D]) ⟨D, [], [], rfl, upd_same, RpL.nil, rfl⟩ (by simp) (by simp) (by simp [hD])
  have q2 := q1 D hND
  have ow : Ok (wipeD δ vs0) (updN N1 D ⟨true, .lst []⟩) F1 (fun z => P1 z ∨ z ∈ [D]) (wipe σ vs0) (upd H1 D (.lst [])) := ⟨oD.wf, oD.sr.wipe vs0⟩
  refine ⟨fun i m H3 => m = items.length - i ∧ i ≤ items.length ∧ ∃ N3 F3 P3, Tr F1 P1 H1 F3 P3 H3 ∧ Ok (wipeD δ vs0) N3 F3 P3 (wipe σ vs0) H3 ∧ lcW G wt we (wipeD δ vs0) D Q' (items.drop i) N3,
    ⟨items.length, by simp, Nat.zero_le _, _, _, _, tD, ow, q2⟩, ?_⟩
  rintro i m H3 ⟨rfl, hi', N3, F3, P3, t3, o3, q3⟩
  obtain ⟨wgo, wstop⟩ := wk i H3 (o1.kp t3 kf)
  by_cases hlt : i < items.length
  · obtain ⟨d, hd⟩ : ∃ d, items[i]? = some d := ⟨items[i], by simp [hlt]⟩
    have edrop : items.drop i = d :: items.drop (i + 1) := by
      rw [List.drop_eq_getElem_cons hlt]
      congr 1
      have := List.getElem?_eq_getElem hlt
      rw [hd] at this; exact (Option.some.inj this).symm
    rw [edrop] at q3
    obtain ⟨og, qb⟩ := q3
    obtain ⟨go, yl⟩ := wgo d hd
    refine .inr ⟨go, fun H' => ∃ N3 F3 P3, Tr F1 P1 H1 F3 P3 H' ∧ Ok (wipeD δ vs0) N3 F3 P3 (wipe σ vs0) H' ∧ lcW G wt we (wipeD δ vs0) D Q' (items.drop (i + 1)) N3,
      fun H' hh => ⟨items.length - (i + 1), by omega, rfl, hlt, hh⟩, fun x H' y => ?_⟩
    obtain ⟨e4, f, rx, fsub⟩ := yl x H' y
    obtain ⟨o4, t4⟩ := o3.ex e4
    refine ⟨wipeD δ vs0, F3, d, f, o4.sr, rx, fun p hp => t3.fr p (kf p (fsub p hp)), og, fun σ2 s2 hl2 ks => ⟨?_, ?_⟩⟩
    · rw [wipe_eq hl2 ks hsl, wipe_wipe]
    refine ⟨_, N3, F3, P3, _, E9, ⟨o4.wf, s2⟩, qb, fun b H5 F5 P5 N5 t5 o5 q5 => ?_, fun x cls dd H' F' P' N' t w r z => z.elim⟩
    cases b with
    | false =>
      refine (if_neg Bool.false_ne_true).mpr ⟨N5, F5, P5, (t3.trans t4).trans t5, o4.after t5 o5.wf, ?_⟩
      simpa using q5
    | true =>
      refine (if_pos rfl).mpr ?_
      simp only [if_true] at q5
      refine ⟨_, N5, F5, P5, _, E9, o5, q5, fun y H6 F6 P6 dy N6 fy t6 o6 ry ky q6 => ?_, fun x cls dd H' F' P' N' t w r z => z.elim⟩
      obtain ⟨hlf, xs, hN6, hz, q7⟩ := q6
      have zz := Rp.lf _ _ _ ry hlf
      subst zz
      have o7 : Ok (wipeD δ vs0) N6 F6 P6 (wipe σ vs0) H6 := o4.after (t5.trans t6) o6.wf
      obtain ⟨fp1, rr, _⟩ := o7.nr _ _ hN6
      obtain ⟨p, vs, f', e1, hp, rl, rfl⟩ := rr
      cases e1
      refine ⟨vs, hp, Nat.lt_of_lt_of_le (by rw [← rl.length]; exact hz) (sz (Nat.le_refl _)), ?_⟩
      obtain ⟨P', o', t'⟩ := o7.writeL (π := []) (xs := xs) (ys := xs ++ [dy]) (ws := vs ++ [y]) (g := []) (Ex.refl _) hN6 .nil hp (by simp) List.nodup_nil fun f r nd ng =>
        ⟨f, by have := RpL.append r (RpL.one ry); rw [List.append_nil] at this; exact this, nd, fun q hq => .inl hq⟩
      exact ⟨_, F6, P', (((t3.trans t4).trans t5).trans t6).trans t', o', q7⟩
  · have ei : i = items.length := by omega
    subst ei
    rw [List.drop_length] at q3
    refine .inl ⟨wstop (Nat.le_refl _), q (.ref D) H3 F3 P3 (.ref D) N3 [] (t1.trans t3) (o1.after t3 o3.wf) ⟨rfl, rfl⟩ (by simp) q3⟩
section
variable {X : Cx} {E : XK} {c c1 : Cl} {pos p p2 pos2 : Pos} {tg iter elt : Expr} {ifs : List Expr} {scope : Scope} {own : List (Str × Nat)} {wi : WA} {sl : List Nat} {G : GF} {wt : WT} {we : WE} {rc : Bool}
def wYes : WT := fun _ N Q _ => Q true N
theorem pts_imp {X : Cx} {es : List Expr} {t t' : TT} (h : PTs X es t) (k : ∀ σ H Q, t' σ H Q → t σ H Q) : PTs X es t' := ⟨fun pins s σ H Q I q => h.run pins s σ H Q I (k σ H Q q)⟩
theorem de_lc (hc : X.calm = true) (hN : X.N.Nodup) (hi : DIE X E tg iter wi) (ok : BlkOk X.N X.env.scope scope own) (hsl : ∀ i ∈ sl, i ∈ own.map (·.2))
    (hg : ∀ (s : Shared) (H : Hp) (C : Addr) (cl : List (Str × Addr)) (fp : List Addr), DG (X.blk s H scope (compEnvC scope cl C X.env) fp) tg sl G)
    (ht : ∀ (s : Shared) (H : Hp) (C : Addr) (cl : List (Str × Addr)) (fp : List Addr), PTs (X.blk s H scope (compEnvC scope cl C X.env) fp) ifs (tDT E0 wt))
    (he : ∀ (s : Shared) (H : Hp) (C : Addr) (cl : List (Str × Addr)) (fp : List Addr), DE (X.blk s H scope (compEnvC scope cl C X.env) fp) E0 elt we) (hs : ∀ x, foldedSetIterable iter X.env x = pure x := by intro _; rfl) :
    DE X E (.ListComp elt [⟨tg, iter, ifs, 0⟩] scope pos) (wLc wi G wt we (own.map (·.2))) := pe_imp (pe_lc hc hN hi ok hg ht he hs) (lcE_rd hsl)
/-- name = [..], impure -/
theorem ds_setLcE_ {i : Nat} {y : Str} {py : Pos} {spos : Pos} {te : TE} (h : PS X (.Assign [.Name y py] (.ListComp elt [⟨tg, iter, ifs, 0⟩] scope pos) spos) (tAsg te (gName i)))
    {w : WE} (hk : ∀ σ H Q, tDE E w σ H Q → te σ H Q) : DS X E rc (.Assign [.Name y py] (.ListComp elt [⟨tg, iter, ifs, 0⟩] scope pos) spos) (sSet i w) := ps_imp h fun D σ H h => by
  obtain ⟨δ, N, F, P, K, o, q, e⟩ := h
  exact hk σ H _ ⟨δ, N, F, P, _, K.ex, o, q, fun v H1 F1 P1 d N1 fp t1 o1 r1 k1 q1 => e.nx _ H1 F1 P1 _ N1 t1 ⟨o1.wf, o1.sr.set r1 k1⟩ q1, e.ex⟩
/-! ### reading through a name -/
/-- f of a value, the value read through its name: f's outcome is new -/
def w1r (h : D → PV) (w : WE) : WE := fun δ N Q E => w δ N (fun d N1 => (h (drf N1 d)).ok ∧ Q (h (drf N1 d)).val N1) E
theorem Ok.rd {δ : Loc} {N : Nm} {F P : Addr → Prop} {σ : St} {H : Hp} {d : D} {v : V} {fp : List Addr} (o : Ok δ N F P σ H) (r : Rp H d v fp) : ∃ fq, Rp H (drf N d) v fq := by
  cases d with
  | ref a =>
    cases hN : N a with
    | none => exact ⟨fp, by simp only [drf, hN]; exact r⟩
    | some cc =>
      obtain ⟨fq, hq, _⟩ := o.nr a cc hN
      have ev : v = .ref a := r.1
      subst ev
      exact ⟨fq, by simp only [drf, hN]; exact hq⟩
  | _ => exact ⟨fp, r⟩
theorem de_sortsetR {a : Expr} {w : WE} (hc : X.calm = true) (hg : Gl X "sorted") (hm : X.mg "sorted" = none) (hg2 : Gl X "set") (hm2 : X.mg "set" = none) (ha : DE X E a w)
    (hs : starEach [a] X.env = (false, eval a X.env) :: starEach [] X.env := by rfl)
    (hs2 : starEach [.Call (.Name "set" p2) [a] [] pos2] X.env = (false, eval (.Call (.Name "set" p2) [a] [] pos2) X.env) :: starEach [] X.env := by rfl) :
    DE X E (.Call (.Name "sorted" p) [.Call (.Name "set" p2) [a] [] pos2] [] pos) (w1r sortsetD w) := by
  refine pe_imp (pe_callB (cr_sortedSet hc) hg hm (by decide +kernel) (pa_cons (pe_callTy (cr_setL hc) hg2 hm2 (by decide +kernel) (pa_cons ha pa_nil hs) (he := hs) (hpl := by rfl)) pa_nil hs2) (he := hs2) (hpl := by rfl)) fun σ H Q h => ?_
  obtain ⟨δ, N, F, P, Q', E', o, q', q, qe⟩ := h
  refine ⟨δ, N, F, P, _, E', o, q', fun v H1 F1 P1 d N1 fp t1 o1 r1 k1 q1 => ?_, qe⟩
  obtain ⟨fq, r1'⟩ := o1.rd r1
  refine sortset_rd (F := F1) (H := H1) r1' q1.1 fun l hl H2 e2 h2 => ?_
  have r2 : Rp H2 (.lst ((usort (toIs (drf N1 d))).map DL.D.int)) (.ref l) [l] := ⟨l, _, [], rfl, h2, RpL.of_ints _, rfl⟩
  obtain ⟨o2, t2⟩ := cln_grow o1 e2 (Cl.frs_ (c := .cln) ⟨by simp, fun z hz => by rw [List.mem_singleton.mp hz]; exact hl⟩) (Rp.there _ _ _ r2)
  exact q _ H2 _ P1 _ N1 [l] (t1.trans t2) o2 r2 (fun p hp => .inr hp) q1.2
/-- x = sorted(set(e)), changed later -/
def sSetMS (i : Nat) (h : D → PV) (w : WE) : WS := fun K δ N => w δ N (fun d N1 => (h (drf N1 d)).ok ∧ ∀ a, N1 a = none → K.nx (δ.set i (some (.ref a))) (updN N1 a ⟨true, (h (drf N1 d)).val⟩)) K.ex
theorem ds_setMS {i : Nat} {y : Str} {a : Expr} {w : WE} {pos' pos3 : Pos} (hN : X.N.Nodup) (hi : X.N[i]? = some y) (hx : L2.Loc X.env.scope y) (hc : X.calm = true) (hg : Gl X "sorted") (hm : X.mg "sorted" = none) (hg2 : Gl X "set") (hm2 : X.mg "set" = none) (ha : DE X E a w)
    (hs : starEach [a] X.env = (false, eval a X.env) :: starEach [] X.env := by rfl)
    (hs2 : starEach [.Call (.Name "set" p2) [a] [] pos2] X.env = (false, eval (.Call (.Name "set" p2) [a] [] pos2) X.env) :: starEach [] X.env := by rfl)
    (hsw : swapsWith (.Call (.Name "sorted" p) [.Call (.Name "set" p2) [a] [] pos2] [] pos) (some (.Name y pos')) pos3.line X.env = pure false := by rfl)
    (hf : X.fn y = true ∨ X.env.scope.names.lookup y = some .local := by first | exact .inl rfl | exact .inr rfl | assumption) : DS X E rc (.Assign [.Name y pos'] (.Call (.Name "sorted" p) [.Call (.Name "set" p2) [a] [] pos2] [] pos) pos3) (sSetMS i sortsetD w) := by
  refine ps_imp (ps_set hN hi hx (pe_callB (cr_sortedSet hc) hg hm (by decide +kernel) (pa_cons (pe_callTy (cr_setL hc) hg2 hm2 (by decide +kernel) (pa_cons ha pa_nil hs) (he := hs) (hpl := by rfl)) pa_nil hs2) (he := hs2) (hpl := by rfl)) hsw hf) fun D σ H h => ?_
  obtain ⟨δ, N, F, P, K, o, q, e⟩ := h
  refine ⟨δ, N, F, P, _, K.ex, o, q, fun v H1 F1 P1 d N1 fp t1 o1 r1 k1 q1 => ?_, e.ex⟩
  obtain ⟨fq, r1'⟩ := o1.rd r1
  refine sortset_rd (F := F1) (H := H1) (Q := fun x H2 => gName i x σ H2 D.nx) r1' q1.1 fun l hl H2 e2 h2 => ?_
  have r2 : Rp H2 (.lst ((usort (toIs (drf N1 d))).map DL.D.int)) (.ref l) [l] := ⟨l, _, [], rfl, h2, RpL.of_ints _, rfl⟩
  obtain ⟨hn, o2, t2⟩ := o1.alloc e2 r2 (by simp) (by simp) (by simp [hl])
  exact e.nx _ H2 F1 _ _ _ (t1.trans t2) ⟨o2.wf, o2.sr.set (d := .ref l) (fp := []) ⟨rfl, rfl⟩ (by simp)⟩ (q1.2 l hn)
end
end DL
set_option maxHeartbeats 4000000
/-! The data layer, 19: more impure rules; list(range(n)); the order of lists of numbers. -/
namespace DL
open PySem L2
section
variable {X : Cx} {E : XK} {c c1 c2 : Cl} {pos p p2 pos2 : Pos} {tg : Expr}
theorem dtse_nil : PTs X [] (tDT E wYes) := ⟨fun pins s σ H Q I h => by
  obtain ⟨δ, N, F, P, Q', E', o, q', q, qe⟩ := h
  exact pts_nil.run pins s σ H Q I (q true H F P N Tr.refl o q')⟩
theorem dtse_one {e : Expr} {w : WT} (h : DTE X E e w) : PTs X [e] (tDT E w) := pts_one h
/-- what an impure expression hands to a for -/
def wIL (w : WE) : WA := fun δ N Q E => w δ N (fun d N1 => IsL d ∧ Q (toL d) N1) E
def wIU (w : WE) : WA := fun δ N Q E => w δ N (fun d N1 => IsU d ∧ Q (toL d) N1) E
theorem die_list {e : Expr} {w : WE} (h : DE X E e w) : DIE X E tg e (wIL w) := by
  refine pi_imp (pi_list h) fun σ H R h => ?_
  obtain ⟨δ, N, F, P, Q', E', o, q', q, qe⟩ := h
  refine ⟨δ, N, F, P, _, E', o, q', fun v H1 F1 P1 d N1 fp t1 o1 r1 k1 q1 => ?_, qe⟩
  obtain ⟨pp, vs, f', rfl, hp, rl, rfl⟩ := r1.lst_ q1.1
  refine ⟨pp, rfl, ⟨vs, SqL.of hp⟩, q _ H1 F1 P1 _ N1 (pp :: f') t1 o1 (fun i H2 kp => ⟨fun d hd => ?_, fun hl => ?_⟩) k1 q1.2⟩
  · have rl2 := rl.kp kp fun z hz => by simp [hz]
    have hp2 : H2 pp = some (.lst vs) := by rw [kp.cell pp (by simp)]; exact hp
    obtain ⟨u, fu, h1, h2, h3, h4⟩ := rl2.get hd
    refine ⟨⟨vs, u, SqL.of hp2, h1⟩, fun x H' y => ?_⟩
    obtain ⟨e', y⟩ := y
    subst e'
    have := y vs (SqL.of hp2)
    rw [h1] at this; cases this
    exact ⟨Ex.refl _, fu, h2, fun z hz => by simp [h3 z hz]⟩
  · have hp2 : H2 pp = some (.lst vs) := by rw [kp.cell pp (by simp)]; exact hp
    exact ⟨vs, SqL.of hp2, get_none rl hl⟩
theorem die_tup {e : Expr} {w : WE} (h : DE X E e w) : DIE X E tg e (wIU w) := by
  refine pi_imp (pi_tup h) fun σ H R h => ?_
  obtain ⟨δ, N, F, P, Q', E', o, q', q, qe⟩ := h
  refine ⟨δ, N, F, P, _, E', o, q', fun v H1 F1 P1 d N1 fp t1 o1 r1 k1 q1 => ?_, qe⟩
  obtain ⟨pp, vs, rfl, hp, rl⟩ := r1.tup_ q1.1
  refine ⟨pp, rfl, ⟨vs, SqT.of hp⟩, q _ H1 F1 P1 _ N1 fp t1 o1 (fun i H2 kp => ⟨fun d hd => ?_, fun hl => ?_⟩) k1 q1.2⟩
  · have rl2 := rl.kp kp fun z hz => hz
    have hp2 : H2 pp = some (.tup vs) := kp.tup _ _ hp
    obtain ⟨u, fu, h1, h2, h3, h4⟩ := rl2.get hd
    refine ⟨⟨vs, u, SqT.of hp2, h1⟩, fun x H' y => ?_⟩
    obtain ⟨e', y⟩ := y
    subst e'
    have := y vs (SqT.of hp2)
    rw [h1] at this; cases this
    exact ⟨Ex.refl _, fu, h2, h3⟩
  · exact ⟨vs, SqT.of (kp.tup _ _ hp), get_none rl hl⟩
/-- a built-in of one argument, impure -/
theorem de_cb1 {a : Expr} {w : WE} {hf : D → PV} {r : List V → Hp → VK → Prop} {e : Expr} (k : ∀ {t : TA}, PA X [a] t → PE X e (tCB r t)) (ha : DE X E a w)
    (hr : ∀ (F : Addr → Prop) (H1 : Hp) (d : D) (v : V) (fp : List Addr) (Q : VK), Rp H1 d v fp → (∀ p ∈ fp, F p) → (hf d).ok → (∀ u H' fp, Ex H1 H' → Rp H' (hf d).val u fp → Cl.cln.ok F H1 fp → Q u H') → r [v] H1 Q)
    (hs : starEach [a] X.env = (false, eval a X.env) :: starEach [] X.env := by rfl) : DE X E e (w1 hf w) := by
  refine pe_imp (k (pa_cons ha pa_nil hs)) fun σ H Q h => ?_
  obtain ⟨δ, N, F, P, Q', E', o, q', q, qe⟩ := h
  refine ⟨δ, N, F, P, _, E', o, q', fun v H1 F1 P1 d N1 fp t1 o1 r1 k1 q1 => ?_, qe⟩
  refine hr F1 H1 d v fp Q r1 k1 q1.1 fun u H2 fq e2 r2 k2 => ?_
  obtain ⟨o2, t2⟩ := cln_grow o1 e2 k2 (Rp.there _ _ _ r2)
  exact q u H2 _ P1 _ N1 fq (t1.trans t2) o2 r2 (fun p hp => .inr hp) q1.2
theorem de_int1 {a : Expr} {w : WE} (hg : Gl X "int") (hm : X.mg "int" = none) (ha : DE X E a w) (hs : starEach [a] X.env = (false, eval a X.env) :: starEach [] X.env := by rfl) : DE X E (.Call (.Name "int" p) [a] [] pos) (w1 intD w) :=
  de_cb1 (hf := intD) (fun h => pe_callTy call_int1 hg hm (by decide +kernel) h (he := hs) (hpl := by rfl)) ha (fun F H1 d v fp Q r k ok q => by
    cases d <;> first | exact ok.elim | skip
    · obtain ⟨rfl, rfl⟩ := r
      exact .inr ⟨_, rfl, q _ H1 [] (Ex.refl _) ⟨rfl, rfl⟩ Cl.nil⟩
    · obtain ⟨rfl, rfl⟩ := r
      exact .inl ⟨_, rfl, q _ H1 [] (Ex.refl _) ⟨rfl, rfl⟩ Cl.nil⟩) hs
theorem de_tuple {a : Expr} {w : WE} (hg : Gl X "tuple") (hm : X.mg "tuple" = none) (ha : DE X E a w) (hs : starEach [a] X.env = (false, eval a X.env) :: starEach [] X.env := by rfl) : DE X E (.Call (.Name "tuple" p) [a] [] pos) (w1 tupD w) :=
  de_cb1 (hf := tupD) (fun h => pe_callTy call_tuple_of hg hm (by decide +kernel) h (he := hs) (hpl := by rfl)) ha (fun F H1 d v fp Q r k ok q => by
    obtain ⟨p, vs, f, rfl, hp, rl, rfl⟩ := r.lst_ ok
    exact ⟨p, vs, rfl, .inl ⟨SqL.of hp, fun l hl => q _ _ f (Ex.new hl) ⟨l, vs, rfl, upd_same, rl.ex (Ex.new hl)⟩ (fun z hz => .inl (k z (by simp [hz])))⟩⟩) hs
theorem de_list {a : Expr} {w : WE} (hg : Gl X "list") (hm : X.mg "list" = none) (ha : DE X E a w) (hs : starEach [a] X.env = (false, eval a X.env) :: starEach [] X.env := by rfl) : DE X E (.Call (.Name "list" p) [a] [] pos) (w1 lstD w) :=
  de_cb1 (hf := lstD) (fun h => pe_callTy call_list_of hg hm (by decide +kernel) h (he := hs) (hpl := by rfl)) ha (fun F H1 d v fp Q r k ok q => by
    obtain ⟨p, vs, f, rfl, hp, rl, hs, hn⟩ := r.seq_ X.K ok.1
    exact ⟨p, vs, rfl, hp, fun l hl => new_lst (c := .cln) (F := F) (Ex.refl _) rl (fun z hz => Or.inl (k z (hs z hz))) hl q⟩) hs
theorem de_len {a : Expr} {w : WE} (hg : Gl X "len") (hm : X.mg "len" = none) (ha : DE X E a w) (hs : starEach [a] X.env = (false, eval a X.env) :: starEach [] X.env := by rfl) : DE X E (.Call (.Name "len" p) [a] [] pos) (w1 lenD w) :=
  de_cb1 (hf := lenD) (fun h => pe_callB call_len hg hm boot_len h (he := hs) (hpl := by rfl)) ha (fun F H1 d v fp Q r k ok q => by
    cases d <;> first | (exact ok.elim) | skip
    · rename_i s
      obtain ⟨rfl, rfl⟩ := r
      exact ⟨_, s.length, rfl, ⟨sz ok, rfl⟩, q _ H1 [] (Ex.refl _) ⟨rfl, rfl⟩ Cl.nil⟩
    · obtain ⟨p, vs, rfl, hp, rl⟩ := r
      refine ⟨_, vs.length, rfl, .inr ⟨vs, SqT.of hp, rfl⟩, ?_⟩
      rw [← rl.length]; exact q _ H1 [] (Ex.refl _) ⟨rfl, rfl⟩ Cl.nil
    · obtain ⟨p, vs, f, rfl, hp, rl, rfl⟩ := r
      refine ⟨_, vs.length, rfl, .inl ⟨vs, SqL.of hp, rfl⟩, ?_⟩
      rw [← rl.length]; exact q _ H1 [] (Ex.refl _) ⟨rfl, rfl⟩ Cl.nil) hs
theorem opd_cat : OpD rCat catL := fun F H x y v w fa fb Q rx ry ka kb ok q => by
  obtain ⟨p, vs, f1, rfl, hp, rl, rfl⟩ := rx.lst_ ok.1
  obtain ⟨p', vs', f2, rfl, hp', rl', rfl⟩ := ry.lst_ ok.2.1
  refine ⟨p, p', vs, vs', rfl, rfl, hp, hp', sz (by rw [← rl.length, ← rl'.length]; exact ok.2.2), fun l hl => ?_⟩
  exact new_lst (c := .cln) (F := F) (Ex.refl _) (rl.append rl') (fun z hz => Or.inl ((List.mem_append.mp hz).elim (fun h => ka z (by simp [h])) fun h => kb z (by simp [h]))) hl q
theorem de_cat {a b : Expr} {w u : WE} (ha : DE X E a w) (hb : DE X E b u) : DE X E (.BinOp a .Add b pos) (w2 catL w u) := de_bin op_cat opd_cat ha hb
/-- xs[a:b], t[a:b] of an impure value, the bounds pure -/
def wSl (w : WE) (lo hi : SF) : WE := fun δ N Q E => w δ N (fun d N1 => (lo δ N1).1 ∧ (hi δ N1).1 ∧ IsL d ∧ Q (.lst (cutD (toL d) (lo δ N1).2 (hi δ N1).2)) N1) E
def wSlU (w : WE) (lo hi : SF) : WE := fun δ N Q E => w δ N (fun d N1 => (lo δ N1).1 ∧ (hi δ N1).1 ∧ IsU d ∧ Q (.tup (cutD (toL d) (lo δ N1).2 (hi δ N1).2)) N1) E
theorem de_sl {a : Expr} {l h : Option Expr} {w : WE} {lo hi : SF} {p2} (ha : DE X E a w) (hl : PO X l (tO lo)) (hh : PO X h (tO hi)) : DE X E (.Subscript a (.Slice l h none p2) pos) (wSl w lo hi) := by
  refine pe_imp (pe_slice sl_list ha hl hh) fun σ H Q h => ?_
  obtain ⟨δ, N, F, P, Q', E', o, q', q, qe⟩ := h
  refine ⟨δ, N, F, P, _, E', o, q', fun v H1 F1 P1 d N1 fp t1 o1 r1 k1 q1 => ?_, qe⟩
  obtain ⟨b1, b2, b3, q2⟩ := q1
  refine ⟨δ, N1, F1, o1.sr, o1.nr, b1, fun H2 e2 => ⟨δ, N1, F1, o1.sr.ex e2, o1.nr.ex e2, b2, fun H3 e3 => ?_⟩⟩
  obtain ⟨p, vs, f', rfl, hp, rl, rfl⟩ := ((r1.ex e2).ex e3).lst_ b3
  refine ⟨p, vs, rfl, SqL.of hp, fun l hl => ?_⟩
  obtain ⟨f2, r2, s2, n2⟩ := rl.cut (lo δ N1).2 (hi δ N1).2
  obtain ⟨o2, t2⟩ := o1.grow ((e2.trans e3).trans (Ex.new (o := .lst (cutV vs (lo δ N1).2 (hi δ N1).2)) hl)) (fun z => z = l) fun z hz => by subst hz; exact ⟨.inr ((e2.trans e3).free hl), _, upd_same⟩
  exact q _ _ _ P1 (.lst (cutD (toL d) (lo δ N1).2 (hi δ N1).2)) N1 (l :: f2) (t1.trans t2) o2 ⟨l, _, f2, rfl, upd_same, r2.ex (Ex.new hl), rfl⟩ (fun z hz => (List.mem_cons.mp hz).elim (fun e => .inr e) fun hz => .inl (k1 z (by simp [s2 z hz]))) q2
theorem de_slU {a : Expr} {l h : Option Expr} {w : WE} {lo hi : SF} {p2} (ha : DE X E a w) (hl : PO X l (tO lo)) (hh : PO X h (tO hi)) : DE X E (.Subscript a (.Slice l h none p2) pos) (wSlU w lo hi) := by
  refine pe_imp (pe_slice sl_tupA ha hl hh) fun σ H Q h => ?_
  obtain ⟨δ, N, F, P, Q', E', o, q', q, qe⟩ := h
  refine ⟨δ, N, F, P, _, E', o, q', fun v H1 F1 P1 d N1 fp t1 o1 r1 k1 q1 => ?_, qe⟩
  obtain ⟨b1, b2, b3, q2⟩ := q1
  refine ⟨δ, N1, F1, o1.sr, o1.nr, b1, fun H2 e2 => ⟨δ, N1, F1, o1.sr.ex e2, o1.nr.ex e2, b2, fun H3 e3 => ?_⟩⟩
  obtain ⟨p, vs, rfl, hp, rl⟩ := ((r1.ex e2).ex e3).tup_ b3
  obtain ⟨f2, r2, s2, n2⟩ := rl.cut (lo δ N1).2 (hi δ N1).2
  refine ⟨p, vs, rfl, SqT.of hp, fun hw => ?_, fun _ l hl => ?_⟩
  · rw [cutV_whole hw] at r2
    obtain ⟨o2, t2⟩ := o1.ex (e2.trans e3)
    exact q _ H3 F1 P1 (.tup (cutD (toL d) (lo δ N1).2 (hi δ N1).2)) N1 f2 (t1.trans t2) o2 ⟨p, vs, rfl, hp, r2⟩ (fun z hz => k1 z (s2 z hz)) q2
  · obtain ⟨o2, t2⟩ := o1.ex ((e2.trans e3).trans (Ex.new (o := .tup (cutV vs (lo δ N1).2 (hi δ N1).2)) hl))
    exact q _ _ F1 P1 (.tup (cutD (toL d) (lo δ N1).2 (hi δ N1).2)) N1 f2 (t1.trans t2) o2 ⟨l, _, rfl, upd_same, r2.ex (Ex.new hl)⟩ (fun z hz => k1 z (s2 z hz)) q2
/-- list(range(n)) -/
def lrD (d : D) : PV := ⟨IsI d ∧ 0 ≤ toI d ∧ toI d ≤ 16777216, .lst ((rng 0 (toI d).toNat).map DL.D.int)⟩
theorem rg_rng (n : Nat) : rgV 0 (n : Int) = (rng 0 n).map V.int := by
  unfold rgV
  apply List.ext_getElem?
  intro i
  rw [List.getElem?_map, List.getElem?_map]
  by_cases h : i < n
  · rw [rng_get 0 n i h, List.getElem?_range (by omega)]; rfl
  · rw [List.getElem?_eq_none (by simp; omega), List.getElem?_eq_none (by rw [rng_length]; omega)]; rfl
theorem dp_listrange {a : Expr} {f : PF} (hc : X.calm = true) (hg : Gl X "list") (hm : X.mg "list" = none) (hg2 : Gl X "range") (hm2 : X.mg "range" = none) (ha : DP X c1 a f)
    (hs : starEach [a] X.env = (false, eval a X.env) :: starEach [] X.env := by rfl)
    (hs2 : starEach [.Call (.Name "range" p2) [a] [] pos2] X.env = (false, eval (.Call (.Name "range" p2) [a] [] pos2) X.env) :: starEach [] X.env := by rfl) :
    DP X c (.Call (.Name "list" p) [.Call (.Name "range" p2) [a] [] pos2] [] pos) (p1 lrD f) := by
  refine pe_imp (pe_listRg hc hg hm (prg_1 hg2 hm2 ha hs) hs2) fun σ H Q h => ?_
  obtain ⟨δ, N, F, hS, hn, ok, q⟩ := h
  refine ⟨δ, N, F, hS, hn, ok.1, fun v H1 fp e1 r1 k1 => ?_⟩
  obtain ⟨o1, o2, o3⟩ := ok.2
  refine ⟨_, r1.int_ o1, RgOk.of_le (by omega) o3 (by omega) o2, fun l hl => ?_⟩
  have e : toI (f δ N).val = ((toI (f δ N).val).toNat : Int) := by omega
  rw [e, rg_rng]
  exact new_lst (c := c) (F := F) e1 (RpL.of_ints _) Cl.nil hl fun u H' fp e r k => q u H' fp (e1.trans e) r k
/-! ### the order of lists of numbers -/
def rGtI (K : PySem.W.Frag) : R2 := fun x y H Q => ∃ (p q : Addr) (ms ns : List Int), x = .ref p ∧ y = .ref q ∧ SqL K H p (ms.map V.int) ∧ SqL K H q (ns.map V.int) ∧ Q (.bl (decide (ns < ms))) H
theorem dpAll_ints {K : PySem.W.Frag} {H : Hp} : ∀ ns : List Int, DpAll K H (ns.map V.int) (ns.map PyData.int)
  | [] => .nil
  | n :: ns => .cons (.int n) (dpAll_ints ns)
theorem op_gtI (hu : X.A.units + 64 < cLine) : OpR X (compareOp .Gt) (rGtI X.K) := by
  intro pins s σ H x y v u Q I rx ry h
  obtain ⟨p, q, ms, ns, rfl, rfl, h1, h2, k⟩ := h
  obtain ⟨as, r1⟩ := Dp.reads I (.list (ms.map .int)) _ _ (.lst h1 (dpAll_ints ms)) rx
  obtain ⟨bs, r2⟩ := Dp.reads I (.list (ns.map .int)) _ _ (.lst h2 (dpAll_ints ns)) ry
  have hd := depth_ints ms
  refine PySem.W.gt_data r1 r2 (by simp [PySem.W.alike, alikeAll_ints]) (fun z => nomatch z) ?_ (fin_bl I k ?_)
  · have : (PyData.list (ms.map .int)).depth ≤ 2 := by simp [PyData.depth]; omega
    have := Nat.min_le_left (PyData.list (ms.map .int)).depth (PyData.list (ns.map .int)).depth
    omega
  · rw [PySem.W.dataLt_list]; exact (PySem.W.dataLt_ints ns ms).symm
def cGtQ (x y : D) : TV := ⟨Ints x ∧ Ints y, decide (toIs y < toIs x)⟩
theorem cmpd_gtQ {K : PySem.W.Frag} : CmpD (rGtI K) cGtQ := fun H x y v w fa fb Q rx ry ok q => by
  obtain ⟨p, rfl, hp⟩ := rx.ints ok.1
  obtain ⟨p', rfl, hp'⟩ := ry.ints ok.2
  exact ⟨p, p', _, _, rfl, rfl, SqL.of hp, SqL.of hp', q⟩
theorem dp_gtQ {a b : Expr} {f g : PF} (hu : X.A.units + 64 < cLine) (ha : DP X c1 a f) (hb : DP X c2 b g) : DP X c (.Compare a [.Gt] [b] pos) (pc2 cGtQ f g) :=
  dp_cmp (hf := cGtQ) (op_gtI hu) ha hb (nomark _) fun H2 x y v w fa fb Q rx ry ok q => cmpd_gtQ H2 x y v w fa fb Q rx ry ok q
theorem dt_gtQ {a b : Expr} {f g : PF} (hu : X.A.units + 64 < cLine) (ha : DP X c1 a f) (hb : DP X c2 b g) : DT X (.Compare a [.Gt] [b] pos) (tc2 cGtQ f g) :=
  dt_cmp (hf := cGtQ) (op_gtI hu) ha hb (nomark _) fun H2 x y v w fa fb Q rx ry ok q => cmpd_gtQ H2 x y v w fa fb Q rx ry ok q
end
end DL
set_option maxHeartbeats 4000000
/-! The data layer, 20: the other mix. -/
namespace DL
open PySem L2
abbrev rInt1 : List V → Hp → VK → Prop := fun xs H Q => (∃ i, xs = [.int i] ∧ Q (.int i) H) ∨ ∃ k, xs = [.bl k] ∧ Q (.int (if k then 1 else 0)) H
abbrev tInt1 (t : TE) : TE := tCB rInt1 (tCons t tNil)
def t_mixW (K : PySem.W.Frag) : TS := tSeq (tAsg (tVar 1) (gName 2))
  (tSeq (tFor (iList K (tVar 0)) (gName 3) (tAsg (tOp rMo (tInt1 (tOp rAd (tOp rAd (tOp rMu (tVar 2) (tC (.int 48271))) (tOp rMo (tInt1 (tVar 3)) (tC (.int 2147483629)))) (tC (.int 1)))) (tC (.int 2147483647))) (gName 2)))
  (tRet (tLst (tCons (tVar 2) (tCons (tCB (rLo K) (tCons (tVar 0) tNil)) (tCons (tC (.int 0)) tNil))))))
theorem r_mixW {K : PySem.W.Frag} {N : List Str} (hN : N.length = 4) (vs : List V) (H : Hp) (Q : VK) (E : XK) (h : spMix K vs H Q E) : t_mixW K { nx := fun _ H' => Q .non H', rt := Q } (start N vs) H := by
  obtain ⟨a, ns, m, rfl, h0, h1, hs, q⟩ := h
  have e0 : start N [.ref a, .int m] = [some (.ref a), some (.int m), none, none] := by
    show [some (V.ref a), some (V.int m)] ++ List.replicate (N.length - 2) none = _
    rw [hN]; rfl
  rw [e0]
  refine ⟨_, rfl, ?_⟩
  show tSeq _ _ _ [some (.ref a), some (.int m), some (.int m), none] H
  refine ⟨_, rfl, a, rfl, ⟨_, hs⟩, ?_⟩
  refine for_list (xs := ns.map V.int) (fun i σ H' => H' = H ∧ ∃ (m' : Int) (c : Option V), 0 ≤ m' ∧ m' < MX ∧ σ = [some (.ref a), some (.int m), some (.int m'), c]) ⟨rfl, m, none, h0, h1, rfl⟩ ?_ ?_ ?_
  · rintro i σ H' _ ⟨rfl, _⟩; exact hs
  · rintro i x σ H' hx ⟨rfl, m', c, g0, g1, rfl⟩
    rw [List.getElem?_map] at hx
    obtain ⟨z, hz, rfl⟩ := Option.map_eq_some_iff.mp hx
    show tAsg _ _ _ [some (.ref a), some (.int m), some (.int m'), some (.int z)] H'
    unfold MX at *
    refine ⟨_, rfl, _, _, rfl, rfl, .inl ⟨by omega, by omega⟩, _, rfl, .inl ⟨_, rfl, _, _, rfl, rfl, (by decide : (0 : Int) < 2147483629), _, _, rfl, rfl, _, _, rfl, rfl, .inl ⟨_, rfl, _, _, rfl, rfl, (by decide : (0 : Int) < 2147483647), ?_⟩⟩⟩
    exact ⟨rfl, _, _, Int.emod_nonneg _ (by decide), Int.emod_lt_of_pos _ (by decide), rfl⟩
  · rintro σ H' ⟨rfl, m', c, g0, g1, rfl⟩
    refine ⟨_, rfl, _, rfl, a, _, rfl, .inl hs, fun qq hq => ?_⟩
    refine ⟨(by decide : 3 ≤ sizeLine), fun p hp => ?_⟩
    refine q m' p qq g0 g1 (fun z => ?_) hq ?_
    · subst z; rw [upd_same] at hp; cases hp
    · cases e : H' p with
      | none => rfl
      | some o =>
        have : p ≠ qq := fun z => by subst z; rw [hq] at e; cases e
        rw [upd_ne this, e] at hp; cases hp
end DL
set_option maxHeartbeats 4000000
/-! The data layer, 21: a list taken apart; a tuple of new lists that will be changed. -/
namespace DL
open PySem L2
section
variable {X : Cx} {E : XK} {c c1 c2 : Cl} {pos p : Pos} {rc : Bool}
def gTL (n : Nat) (Gs : GFs) : GF := fun d δ => ⟨IsL d ∧ (toL d).length = n ∧ (Gs (toL d) δ).ok, (Gs (toL d) δ).loc⟩
theorem dg_lst {es : List Expr} {k : Nat} {sl : List Nat} {Gs : GFs} {n : Nat} (hc : X.calm = true) (h : DGs X es sl Gs) (hn : (assignEach es X.env).length = n := by rfl) (hst : (assignEach es X.env).findIdx? (·.1) = none := by rfl) :
    DG X (.Tuple es k pos) sl (gTL n Gs) := by
  refine pg_imp (pg_lst hc h hn hst) fun v σ H Q h => ?_
  obtain ⟨δ, F, d, fp, hs, r, hF, ok, q⟩ := h
  obtain ⟨p, vs, f', rfl, hp, rl, rfl⟩ := r.lst_ ok.1
  exact ⟨p, vs, rfl, SqL.of hp, by rw [← rl.length]; exact ok.2.1, δ, F, _, f', hs, rl, fun z hz => hF z (by simp [hz]), ok.2.2, q⟩
/-- x = a tuple of two new lists, each to be changed -/
def sSetMT (i : Nat) (f : PF) : WS := fun K δ N => (f δ N).ok ∧ ∃ d1 d2, (f δ N).val = .tup [d1, d2] ∧ IsC d1 ∧ IsC d2 ∧ ∀ a b, a ≠ b → N a = none → N b = none → K.nx (δ.set i (some (.tup [.ref a, .ref b]))) (updN (updN N a ⟨true, d1⟩) b ⟨true, d2⟩)
theorem ds_setMT {i : Nat} {y : Str} {e : Expr} {f : PF} {pos' : Pos} (hN : X.N.Nodup) (hi : X.N[i]? = some y) (hx : L2.Loc X.env.scope y) (he : DP X .frs e f) (hs : swapsWith e (some (.Name y pos')) pos.line X.env = pure false := by rfl)
    (hf : X.fn y = true ∨ X.env.scope.names.lookup y = some .local := by first | exact .inl rfl | exact .inr rfl | assumption) : DS X E rc (.Assign [.Name y pos'] e pos) (sSetMT i f) := ps_imp (ps_set hN hi hx he hs hf) fun D σ H h => by
  obtain ⟨δ, N, F, P, K, o, ⟨ok, d1, d2, ev, k1, k2, q⟩, e⟩ := h
  refine ⟨δ, N, F, o.sr, o.nr, ok, fun v H1 fp e1 r1 kk => ?_⟩
  rw [ev] at r1
  obtain ⟨t, vs, rfl, ht, rl⟩ := r1
  obtain ⟨v1, vr, f1, f', rfl, ra, rb, rfl⟩ := rl
  obtain ⟨v2, vr2, f2, g2, rfl, rb, rn, rfl⟩ := rb
  obtain ⟨rfl, rfl⟩ := rn
  rw [List.append_nil] at kk
  obtain ⟨nd, new⟩ := kk
  obtain ⟨nd1, nd2, dj⟩ := List.nodup_append.mp nd
  obtain ⟨a, rfl, ha⟩ := ra.cell k1
  obtain ⟨b, rfl, hb⟩ := rb.cell k2
  have hab : a ≠ b := fun z => dj a ha b hb z
  obtain ⟨h1, o1, t1⟩ := o.alloc e1 ra ha nd1 fun q hq => new q (by simp [hq])
  have f2new : ∀ q ∈ f2, H q = none := fun q hq => new q (by simp [hq])
  obtain ⟨fpm, w⟩ := o1.wf
  have hNb : N b = none := by
    cases z : N b with
    | none => rfl
    | some cc =>
      obtain ⟨fq, hq, hbq⟩ := o.nr b cc z
      obtain ⟨ob, hob, _⟩ := Rp.there _ _ _ hq b hbq
      rw [f2new b hb] at hob; cases hob
  obtain ⟨fpm0, w0⟩ := o.wf
  have hold : ∀ q ∈ f2, ∀ b' cc, N b' = some cc → q ∉ fpm0 b' := fun q hq b' cc hn z => by
    obtain ⟨ob, ho, _⟩ := Rp.there _ _ _ (w0.cell b' cc hn).1 q z
    rw [f2new q hq] at ho; cases ho
  have hold1 : ∀ q ∈ f1, ∀ b' cc, N b' = some cc → q ∉ fpm0 b' := fun q hq b' cc hn z => by
    obtain ⟨ob, ho, _⟩ := Rp.there _ _ _ (w0.cell b' cc hn).1 q z
    rw [new q (by simp [hq])] at ho; cases ho
  have w1 : Wf N F P H1 fpm0 := ⟨fun a c h => ⟨(w0.cell a c h).1.ex e1, (w0.cell a c h).2⟩, w0.own, w0.sep, fun p h => ⟨(w0.fr p h).1, let ⟨_, ob, ho⟩ := w0.fr p h; ⟨ob, e1 p ob ho⟩⟩, fun p h => let ⟨ob, h1, h2⟩ := w0.pr p h; ⟨ob, e1 p ob h1, h2⟩⟩
  have nF : ∀ q, H q = none → ¬ F q := fun q hq z => by obtain ⟨_, ob, ho⟩ := w0.fr q z; rw [hq] at ho; cases ho
  obtain ⟨_, w2⟩ := w1.alloc ra ha nd1 (fun q hq => nF q (new q (by simp [hq]))) hold1
  obtain ⟨_, w3⟩ := w2.alloc rb hb nd2 (fun q hq => nF q (f2new q hq)) fun q hq b' cc hn z => by
    by_cases hz : b' = a
    · subst hz
      rw [if_pos rfl] at z
      exact dj q z q hq rfl
    · rw [updN_ne hz] at hn
      rw [if_neg hz] at z
      exact hold q hq b' cc hn z
  have t3 : Tr F P H F (fun q => (P q ∨ q ∈ f1) ∨ q ∈ f2) H1 := ⟨fun _ h => h, fun p o h _ => e1 p o h, fun p o h => ⟨o, e1 p o h⟩, fun p h => by
    rcases h with (h | h) | h
    · exact .inl h
    · exact .inr (new p (by simp [h]))
    · exact .inr (f2new p h), fun _ h => .inl h⟩
  refine e.nx _ H1 F _ _ _ t3 ⟨⟨_, w3⟩, ?_⟩ (q a b hab h1 hNb)
  exact (o.sr.ex e1).set (d := .tup [.ref a, .ref b]) (fp := []) ⟨t, _, rfl, ht, ⟨_, _, [], [], rfl, ⟨rfl, rfl⟩, ⟨_, _, [], [], rfl, ⟨rfl, rfl⟩, RpL.nil, rfl⟩, rfl⟩⟩ (by simp)
end
end DL
set_option maxHeartbeats 4000000
/-! The data layer, 22: reading through the names inside tuples. -/
namespace DL
open PySem L2
mutual
def rd (N : Nm) : D → D
  | .ref a => match N a with
    | some c => c.d
    | none => .ref a
  | .tup ds => .tup (rds N ds)
  | d => d
def rds (N : Nm) : List D → List D
  | [] => []
  | d :: ds => rd N d :: rds N ds
end
mutual
theorem Rp.rd {N : Nm} {H : Hp} (n : NRep N H) : ∀ (d : D) (v : V) (fp : List Addr), Rp H d v fp → ∃ fq, Rp H (DL.rd N d) v fq
  | .ref a, v, fp, r => by
    cases h : N a with
    | none => exact ⟨fp, by simp only [DL.rd, h]; exact r⟩
    | some c =>
      obtain ⟨fq, hq, _⟩ := n a c h
      have ev : v = .ref a := r.1
      subst ev
      exact ⟨fq, by simp only [DL.rd, h]; exact hq⟩
  | .tup ds, v, fp, r => by
    obtain ⟨p, vs, rfl, hp, rl⟩ := r
    obtain ⟨fq, rq⟩ := RpL.rds n ds vs fp rl
    exact ⟨fq, by simp only [DL.rd]; exact ⟨p, vs, rfl, hp, rq⟩⟩
  | .non, v, fp, r => ⟨fp, r⟩
  | .bl _, v, fp, r => ⟨fp, r⟩
  | .int _, v, fp, r => ⟨fp, r⟩
  | .str _, v, fp, r => ⟨fp, r⟩
  | .lst _, v, fp, r => ⟨fp, r⟩
  | .dic _ _, v, fp, r => ⟨fp, r⟩
  | .obj _ _ _ _, v, fp, r => ⟨fp, r⟩
theorem RpL.rds {N : Nm} {H : Hp} (n : NRep N H) : ∀ (ds : List D) (vs : List V) (fp : List Addr), RpL H ds vs fp → ∃ fq, RpL H (DL.rds N ds) vs fq
  | [], vs, fp, r => ⟨fp, r⟩
  | d :: ds, vs, fp, r => by
    obtain ⟨v, vr, f, g, rfl, h1, h2, rfl⟩ := r
    obtain ⟨f', r1⟩ := Rp.rd n d v f h1
    obtain ⟨g', r2⟩ := RpL.rds n ds vr g h2
    exact ⟨f' ++ g', v, vr, f', g', rfl, r1, r2, rfl⟩
end
def pRd (f : PF) : PF := fun δ N => ⟨(f δ N).ok, rd N (f δ N).val⟩
theorem dp_rd {X : Cx} {c : Cl} {e : Expr} {f : PF} (h : DP X c e f) : DP X .any e (pRd f) := by
  refine pe_imp h fun σ H Q h => ?_
  obtain ⟨δ, N, F, hs, hn, ok, q⟩ := h
  refine ⟨δ, N, F, hs, hn, ok, fun v H' fp e r k => ?_⟩
  obtain ⟨fq, rq⟩ := Rp.rd (hn.ex e) _ _ _ r
  exact q v H' fq e rq trivial
theorem rd_pair {N : Nm} {a b : Addr} {c d : Cell} (h1 : N a = some c) (h2 : N b = some d) : rd N (.tup [.ref a, .ref b]) = .tup [c.d, d.d] := by
  simp only [rd, rds, h1, h2]
/-- what is new may stand anywhere -/
theorem dp_fr {X : Cx} {c : Cl} {e : Expr} {f : PF} (h : DP X .frs e f) : DP X c e f := by
  refine pe_imp h fun σ H Q h => ?_
  obtain ⟨δ, N, F, hs, hn, ok, q⟩ := h
  exact ⟨δ, N, F, hs, hn, ok, fun v H' fp e r k => q v H' fp e r (Cl.frs_ k)⟩
end DL
set_option maxHeartbeats 4000000
/-! The data layer, 23: lists whose items are lists with names of their own. -/
namespace DL
open PySem L2
section
variable {X : Cx} {E : XK} {c c1 c2 : Cl} {pos p : Pos} {rc : Bool}
theorem Ok.alloc2 {δ : Loc} {N : Nm} {F P : Addr → Prop} {σ : St} {H H1 : Hp} {d1 d2 : D} {a b : Addr} {f1 f2 : List Addr} (o : Ok δ N F P σ H) (e : Ex H H1) (ra : Rp H1 d1 (.ref a) f1) (ha : a ∈ f1) (rb : Rp H1 d2 (.ref b) f2) (hb : b ∈ f2)
    (nd : (f1 ++ f2).Nodup) (new : ∀ q ∈ f1 ++ f2, H q = none) : a ≠ b ∧ N a = none ∧ N b = none ∧ Ok δ (updN (updN N a ⟨true, d1⟩) b ⟨true, d2⟩) F (fun q => (P q ∨ q ∈ f1) ∨ q ∈ f2) σ H1 ∧ Tr F P H F (fun q => (P q ∨ q ∈ f1) ∨ q ∈ f2) H1 := by
  obtain ⟨nd1, nd2, dj⟩ := List.nodup_append.mp nd
  have hab : a ≠ b := fun z => dj a ha b hb z
  have n1 : ∀ q ∈ f1, H q = none := fun q hq => new q (by simp [hq])
  have n2 : ∀ q ∈ f2, H q = none := fun q hq => new q (by simp [hq])
  obtain ⟨h1, _, _⟩ := o.alloc e ra ha nd1 n1
  obtain ⟨h2, _, _⟩ := o.alloc e rb hb nd2 n2
  obtain ⟨fpm0, w0⟩ := o.wf
  have old : ∀ f : List Addr, (∀ q ∈ f, H q = none) → ∀ q ∈ f, ∀ b' cc, N b' = some cc → q ∉ fpm0 b' := fun f hf q hq b' cc hn z => by
    obtain ⟨ob, ho, _⟩ := Rp.there _ _ _ (w0.cell b' cc hn).1 q z
    rw [hf q hq] at ho; cases ho
  have w1 : Wf N F P H1 fpm0 := ⟨fun a c h => ⟨(w0.cell a c h).1.ex e, (w0.cell a c h).2⟩, w0.own, w0.sep, fun p h => ⟨(w0.fr p h).1, let ⟨_, ob, ho⟩ := w0.fr p h; ⟨ob, e p ob ho⟩⟩, fun p h => let ⟨ob, h1, h2⟩ := w0.pr p h; ⟨ob, e p ob h1, h2⟩⟩
  have nF : ∀ q, H q = none → ¬ F q := fun q hq z => by obtain ⟨_, ob, ho⟩ := w0.fr q z; rw [hq] at ho; cases ho
  obtain ⟨_, w2⟩ := w1.alloc ra ha nd1 (fun q hq => nF q (n1 q hq)) (old f1 n1)
  obtain ⟨_, w3⟩ := w2.alloc rb hb nd2 (fun q hq => nF q (n2 q hq)) fun q hq b' cc hn z => by
    by_cases hz : b' = a
    · subst hz
      rw [if_pos rfl] at z
      exact dj q z q hq rfl
    · rw [updN_ne hz] at hn
      rw [if_neg hz] at z
      exact old f2 n2 q hq b' cc hn z
  refine ⟨hab, h1, h2, ⟨⟨_, w3⟩, o.sr.ex e⟩, fun _ h => h, fun p o h _ => e p o h, fun p o h => ⟨o, e p o h⟩, fun p h => ?_, fun _ h => .inl h⟩
  rcases h with (h | h) | h
  · exact .inl h
  · exact .inr (n1 p h)
  · exact .inr (n2 p h)
/-- x = [a new list], each with a name of its own -/
def sSetMN (i : Nat) (f : PF) : WS := fun K δ N => (f δ N).ok ∧ ∃ d, (f δ N).val = .lst [d] ∧ IsC d ∧ ∀ a b, a ≠ b → N a = none → N b = none → K.nx (δ.set i (some (.ref a))) (updN (updN N b ⟨true, d⟩) a ⟨true, .lst [.ref b]⟩)
theorem ds_setMN {i : Nat} {y : Str} {e : Expr} {f : PF} {pos' : Pos} (hN : X.N.Nodup) (hi : X.N[i]? = some y) (hx : L2.Loc X.env.scope y) (he : DP X .frs e f) (hs : swapsWith e (some (.Name y pos')) pos.line X.env = pure false := by rfl)
    (hf : X.fn y = true ∨ X.env.scope.names.lookup y = some .local := by first | exact .inl rfl | exact .inr rfl | assumption) : DS X E rc (.Assign [.Name y pos'] e pos) (sSetMN i f) := ps_imp (ps_set hN hi hx he hs hf) fun D σ H h => by
  obtain ⟨δ, N, F, P, K, o, ⟨ok, d, ev, kc, q⟩, e⟩ := h
  refine ⟨δ, N, F, o.sr, o.nr, ok, fun v H1 fp e1 r1 kk => ?_⟩
  rw [ev] at r1
  obtain ⟨a, vs, f', rfl, hp, rl, rfl⟩ := r1
  obtain ⟨v1, vr, f1, g, rfl, rb, rn, rfl⟩ := rl
  obtain ⟨rfl, rfl⟩ := rn
  rw [List.append_nil] at kk
  obtain ⟨b, rfl, hb⟩ := rb.cell kc
  obtain ⟨hba, hNb, hNa, o2, t2⟩ := o.alloc2 (a := b) (b := a) (f1 := f1) (f2 := [a]) (d2 := .lst [.ref b]) e1 rb hb ⟨a, _, [], rfl, hp, ⟨_, _, [], [], rfl, ⟨rfl, rfl⟩, RpL.nil, rfl⟩, rfl⟩ (by simp)
    (List.nodup_append.mpr ⟨(List.nodup_cons.mp kk.1).2, by simp, fun x hx y hy z => by rw [List.mem_singleton.mp hy] at z; subst z; exact (List.nodup_cons.mp kk.1).1 hx⟩) (fun z hz => kk.2 z (by rcases List.mem_append.mp hz with hz | hz <;> simp_all))
  exact e.nx _ H1 F _ _ _ t2 ⟨o2.wf, o2.sr.set (d := .ref a) (fp := []) ⟨rfl, rfl⟩ (by simp)⟩ (q a b (fun z => hba z.symm) hNa hNb)
/-- x.append(a new list), the item named -/
def sAppN (pl : PLF) (f : PF) : WS := fun K δ N => (pl δ N).ok ∧ (f δ N).ok ∧ IsC (f δ N).val ∧ ∃ t xs, N (pl δ N).a = some ⟨true, t⟩ ∧ sub t (pl δ N).π = some (.lst xs) ∧ xs.length < SZ ∧
  ∀ b, b ≠ (pl δ N).a → N b = none → K.nx δ (updN (updN N b ⟨true, (f δ N).val⟩) (pl δ N).a ⟨true, put t (pl δ N).π (.lst (xs ++ [.ref b]))⟩)
theorem ds_appN {e a : Expr} {pl : PLF} {f : PF} {apos ppos : Pos} (hp : PLc X e pl) (ha : DP X .frs a f) (hs : swapsWith (.Call (.Attribute e "append" apos) [a] [] ppos) none pos.line X.env = pure false := by rfl)
    (hbm : PE X (.Call (.Attribute e "append" apos) [a] [] ppos) (tBM X.K "list" rAppend (tPl pl) (tCons (tP .frs f) tNil))) : DS X E rc (.Expr (.Call (.Attribute e "append" apos) [a] [] ppos) pos) (sAppN pl f) := ps_imp (ps_expr hbm hs) fun D σ H h => by
  obtain ⟨δ, N, F, P, K, o, ⟨o1, o2, kc, t, xs, hN, hsub, hz, q⟩, e⟩ := h
  refine ⟨δ, N, F, P, o, _, _, o1, hN, hsub, fun u H1 e1 at1 => ?_⟩
  obtain ⟨p, vs, f0, rfl, hp, rl⟩ := at1.lst_ o hN e1
  refine ⟨.inl ⟨rfl, _, SqL.of hp⟩, δ, N, F, o.sr.ex e1, o.nr.ex e1, o2, fun v H2 fq e2 r2 k2 => ?_⟩
  have hp2 := e2 _ _ hp
  refine ⟨p, vs, v, rfl, rfl, hp2, Nat.lt_of_lt_of_le (by rw [← rl.length]; exact hz) (sz (Nat.le_refl _)), ?_⟩
  obtain ⟨b, rfl, hb⟩ := r2.cell kc
  obtain ⟨hNb, ob, tb⟩ := o.alloc (e1.trans e2) r2 hb k2.1 fun q hq => e1.free (k2.2 q hq)
  have hba : b ≠ (pl δ N).a := fun z => by rw [z, hN] at hNb; cases hNb
  have hN2 : updN N b ⟨true, (f δ N).val⟩ (pl δ N).a = some ⟨true, t⟩ := by rw [updN_ne (fun z => hba z.symm)]; exact hN
  obtain ⟨P', o', t'⟩ := ob.writeL (ys := xs ++ [.ref b]) (ws := vs ++ [.ref b]) (g := []) (Ex.refl _) hN2 (at1.ex e2) hp2 (by simp) List.nodup_nil fun f r nd ng => by
    refine ⟨f, by have := RpL.append r (RpL.one (d := .ref b) (v := .ref b) (f := []) ⟨rfl, rfl⟩); rw [List.append_nil] at this; exact this, nd, fun q hq => .inl hq⟩
  exact e.nx σ _ F P' δ _ (tb.trans t') o' (q b hba hNb)
end
end DL
set_option maxHeartbeats 4000000
/-! The data layer, 24: dicts that are read; len(set(..)); the sum of a tuple; the order of nested data; two values, one of them to be changed. -/
namespace DL
open PySem L2
def isKey : D → Prop | .int _ => True | .str _ => True | _ => False
def toK : D → Key | .int i => .inl i | .str s => .inr s | _ => .inl 0
def IsDic : D → Prop | .dic _ _ => True | _ => False
def toKs : D → List Key | .dic ks _ => ks | _ => []
theorem Rp.key_ {H : Hp} {d : D} {v : V} {fp : List Addr} (h : Rp H d v fp) (k : isKey d) : v = kV (toK d) := by
  cases d <;> first | exact h.1 | exact k.elim
theorem IsDic.eq {d : D} (h : IsDic d) : d = .dic (toKs d) (kids d) := by cases d <;> first | rfl | exact h.elim
theorem Rp.dic_ {H : Hp} {d : D} {v : V} {fp : List Addr} (h : Rp H d v fp) (k : IsDic d) : ∃ p vs f, v = .ref p ∧ H p = some (.dK ((toKs d).zip vs)) ∧ RpL H (kids d) vs f ∧ (toKs d).length = vs.length ∧ fp = p :: f := by
  rw [k.eq] at h; exact h
def getK (ks : List Key) (xs : List D) (k : Key) : Option D := (idxOf_ k ks).bind fun n => xs[n]?
theorem valV_zip : ∀ {ks : List Key} {vs : List V} {k : Key}, valV (ks.zip vs) k = (idxOf_ k ks).bind fun n => vs[n]?
  | [], _, _ => rfl
  | k' :: ks, [], k => by
    have : (k' :: ks).zip ([] : List V) = [] := rfl
    rw [this]
    cases idxOf_ k (k' :: ks) <;> rfl
  | k' :: ks, v :: vs, k => by
    rw [List.zip_cons_cons]
    unfold idxOf_
    by_cases e : k' = k
    · rw [if_pos e, valV_pos (p := (k', v)) e]; rfl
    · rw [if_neg e, valV_neg (p := (k', v)) e, valV_zip]
      cases idxOf_ k ks <;> rfl
theorem getK_rd {H : Hp} {ks : List Key} {ds : List D} {vs : List V} {f : List Addr} {k : Key} (rl : RpL H ds vs f) :
    match getK ks ds k with
    | some d => ∃ v fv, valV (ks.zip vs) k = some v ∧ Rp H d v fv ∧ (∀ p ∈ fv, p ∈ f) ∧ (f.Nodup → fv.Nodup)
    | none => valV (ks.zip vs) k = none := by
  rw [valV_zip]
  unfold getK
  cases e : idxOf_ k ks with
  | none => rfl
  | some n =>
    show match ds[n]? with | some d => _ | none => _
    cases e2 : ds[n]? with
    | none =>
      have : vs[n]? = none := List.getElem?_eq_none (by rw [← rl.length]; exact List.getElem?_eq_none_iff.mp e2)
      exact this
    | some d =>
      obtain ⟨v, fv, h1, h2, h3, h4⟩ := rl.get e2
      exact ⟨v, fv, h1, h2, h3, h4⟩
theorem hu1 {n : Nat} (h : n + 64 < cLine) : n + 1 < cLine := by omega
section
variable {X : Cx} {E : XK} {c c1 c2 : Cl} {pos p p2 pos2 : Pos} {rc : Bool}
def dgetD (x y : D) : PV := ⟨IsDic x ∧ isKey y ∧ (getK (toKs x) (kids x) (toK y)).isSome = true, (getK (toKs x) (kids x) (toK y)).getD .non⟩
theorem dp_dget {a b : Expr} {f g : PF} (hu : X.A.units + 64 < cLine) (ha : DP X c a f) (hb : DP X c1 b g) (hs : NoSl b := by exact fun _ _ => rfl) : DP X c (.Subscript a b pos) (DL.p2 dgetD f g) := by
  refine pe_imp (pe_dget (hu1 hu) ha hb hs) fun σ H Q h => ?_
  obtain ⟨δ, N, F, hS, hn, ⟨o1, o2, o3, o4, o5⟩, q⟩ := h
  refine ⟨δ, N, F, hS, hn, o1, fun v H1 fa e1 r1 k1 => ⟨δ, N, F, hS.ex e1, hn.ex e1, o2, fun w H2 fb e2 r2 k2 => ?_⟩⟩
  obtain ⟨d, ed⟩ := Option.isSome_iff_exists.mp o5
  obtain ⟨pp, vs, f', rfl, hp, rl, hl, rfl⟩ := (r1.ex e2).dic_ o3
  have hw := r2.key_ o4
  subst hw
  have z := getK_rd (ks := toKs (f δ N).val) (k := toK (g δ N).val) rl
  rw [ed] at z
  obtain ⟨u, fu, h1, h2, h3, h4⟩ := z
  refine ⟨pp, u, rfl, by rw [← h1]; exact DGet.k hp, q u H2 fu (e1.trans e2) ?_ (Cl.sub k1 (fun z hz => by simp [h3 z hz]) fun n => h4 (List.nodup_cons.mp n).2)⟩
  simp only [DL.p2, dgetD, ed]; exact h2
def dinT (neg : Bool) (x y : D) : TV := ⟨isKey x ∧ IsDic y, if neg = true then !(getK (toKs y) (kids y) (toK x)).isSome else (getK (toKs y) (kids y) (toK x)).isSome⟩
theorem getK_some {H : Hp} {ks : List Key} {ds : List D} {vs : List V} {f : List Addr} {k : Key} (rl : RpL H ds vs f) : (valV (ks.zip vs) k).isSome = (getK ks ds k).isSome := by
  have z := getK_rd (ks := ks) (k := k) rl
  cases e : getK ks ds k with
  | none => rw [e] at z; rw [z]; rfl
  | some d => rw [e] at z; obtain ⟨u, fu, h1, _⟩ := z; rw [h1]; rfl
theorem dp_din {a b : Expr} {f g : PF} (hu : X.A.units + 64 < cLine) (ha : DP X c1 a f) (hb : DP X c2 b g) (hm : behindInMarks .In b = false := by rfl) : DP X c (.Compare a [.In] [b] pos) (pc2 (dinT false) f g) := by
  refine pe_imp (pe_cmp (pc_din (hu1 hu) ha hb) hm) fun σ H Q h => ?_
  obtain ⟨δ, N, F, hs, hn, ⟨o1, o2, o3, o4⟩, q⟩ := h
  refine ⟨δ, N, F, hs, hn, o1, fun v H1 fa e1 r1 k1 => ⟨δ, N, F, hs.ex e1, hn.ex e1, o2, fun w H2 fb e2 r2 k2 => ?_⟩⟩
  obtain ⟨pp, vs, f', rfl, hp, rl, hl, rfl⟩ := r2.dic_ o4
  have hw := r1.key_ o3
  subst hw
  refine ⟨pp, _, rfl, DGet.k hp, ?_⟩
  rw [getK_some rl]
  exact q _ H2 [] (e1.trans e2) ⟨rfl, rfl⟩ Cl.nil
theorem dp_dnotIn {a b : Expr} {f g : PF} (hu : X.A.units + 64 < cLine) (ha : DP X c1 a f) (hb : DP X c2 b g) (hm : behindInMarks .NotIn b = false := by rfl) : DP X c (.Compare a [.NotIn] [b] pos) (pc2 (dinT true) f g) := by
  refine pe_imp (pe_cmp (pc_dnotin (hu1 hu) ha hb) hm) fun σ H Q h => ?_
  obtain ⟨δ, N, F, hs, hn, ⟨o1, o2, o3, o4⟩, q⟩ := h
  refine ⟨δ, N, F, hs, hn, o1, fun v H1 fa e1 r1 k1 => ⟨δ, N, F, hs.ex e1, hn.ex e1, o2, fun w H2 fb e2 r2 k2 => ?_⟩⟩
  obtain ⟨pp, vs, f', rfl, hp, rl, hl, rfl⟩ := r2.dic_ o4
  have hw := r1.key_ o3
  subst hw
  refine ⟨pp, _, rfl, DGet.k hp, ?_⟩
  rw [getK_some rl]
  exact q _ H2 [] (e1.trans e2) ⟨rfl, rfl⟩ Cl.nil
theorem dt_din {a b : Expr} {f g : PF} (hu : X.A.units + 64 < cLine) (ha : DP X c1 a f) (hb : DP X c2 b g) (hm : behindInMarks .In b = false := by rfl) : DT X (.Compare a [.In] [b] pos) (tc2 (dinT false) f g) := by
  refine pt_imp (pt_cmp (pc_din (hu1 hu) ha hb) hm) fun σ H Q h => ?_
  obtain ⟨δ, N, F, hs, hn, ⟨o1, o2, o3, o4⟩, q⟩ := h
  refine ⟨δ, N, F, hs, hn, o1, fun v H1 fa e1 r1 k1 => ⟨δ, N, F, hs.ex e1, hn.ex e1, o2, fun w H2 fb e2 r2 k2 => ?_⟩⟩
  obtain ⟨pp, vs, f', rfl, hp, rl, hl, rfl⟩ := r2.dic_ o4
  have hw := r1.key_ o3
  subst hw
  refine ⟨pp, _, rfl, DGet.k hp, _, rfl, ?_⟩
  rw [getK_some rl]
  exact q H2 (e1.trans e2)
theorem dt_dnotIn {a b : Expr} {f g : PF} (hu : X.A.units + 64 < cLine) (ha : DP X c1 a f) (hb : DP X c2 b g) (hm : behindInMarks .NotIn b = false := by rfl) : DT X (.Compare a [.NotIn] [b] pos) (tc2 (dinT true) f g) := by
  refine pt_imp (pt_cmp (pc_dnotin (hu1 hu) ha hb) hm) fun σ H Q h => ?_
  obtain ⟨δ, N, F, hs, hn, ⟨o1, o2, o3, o4⟩, q⟩ := h
  refine ⟨δ, N, F, hs, hn, o1, fun v H1 fa e1 r1 k1 => ⟨δ, N, F, hs.ex e1, hn.ex e1, o2, fun w H2 fb e2 r2 k2 => ?_⟩⟩
  obtain ⟨pp, vs, f', rfl, hp, rl, hl, rfl⟩ := r2.dic_ o4
  have hw := r1.key_ o3
  subst hw
  refine ⟨pp, _, rfl, DGet.k hp, _, rfl, ?_⟩
  rw [getK_some rl]
  exact q H2 (e1.trans e2)

/-! ### dict(pairs) -/
def pK (x : D) : Key := toK ((toL x).getD 0 .non)
def pV (x : D) : D := (toL x).getD 1 .non
def IsPair (x : D) : Prop := ∃ k v, x = .tup [k, v] ∧ isKey k
def dictD (d : D) : PV := ⟨IsL d ∧ (∀ x ∈ toL d, IsPair x) ∧ ((toL d).map pK).Nodup, .dic ((toL d).map pK) ((toL d).map pV)⟩
theorem mergeK_nodup : ∀ {more kvs : List (Key × V)}, ((kvs ++ more).map (·.1)).Nodup → mergeK kvs more = kvs ++ more
  | [], kvs, _ => by simp [mergeK]
  | kv :: more, kvs, h => by
    have e : putK kvs kv.1 kv.2 = kvs ++ [kv] := by
      unfold putK
      rw [if_neg]
      intro z
      rw [List.any_eq_true] at z
      obtain ⟨x, hx, ex⟩ := z
      have ex := of_decide_eq_true ex
      rw [List.map_append, List.nodup_append] at h
      exact h.2.2 x.1 (List.mem_map.mpr ⟨x, hx, rfl⟩) kv.1 (by simp) ex
    show mergeK (putK kvs kv.1 kv.2) more = _
    rw [e, mergeK_nodup (by rw [List.append_assoc]; exact h), List.append_assoc]; rfl
theorem pairs_rd {K : PySem.W.Frag} {H : Hp} : ∀ {ds : List D} {vs : List V} {f : List Addr}, RpL H ds vs f → (∀ x ∈ ds, IsPair x) →
    ∃ (ps : List Addr) (ws : List V), vs = ps.map V.ref ∧ Paired (fun p kv => SqT K H p [kV kv.1, kv.2]) ps ((ds.map pK).zip ws) ∧ RpL H (ds.map pV) ws f ∧ (ds.map pK).length = ws.length
  | [], vs, f, h, _ => by obtain ⟨rfl, rfl⟩ := h; exact ⟨[], [], rfl, .nil, RpL.nil, rfl⟩
  | d :: ds, vs, f, h, hp => by
    obtain ⟨v, vr, f1, f2, rfl, h1, h2, rfl⟩ := h
    obtain ⟨k, x, rfl, hk⟩ := hp d (by simp)
    obtain ⟨ps, ws, rfl, a2, a3, a4⟩ := pairs_rd (K := K) h2 fun y hy => hp y (by simp [hy])
    obtain ⟨pp, us, rfl, hpp, rl⟩ := h1
    obtain ⟨v1, u1, g1, g2, rfl, r1, r2, rfl⟩ := rl
    obtain ⟨v2, u2, g3, g4, rfl, r3, r4, rfl⟩ := r2
    obtain ⟨rfl, rfl⟩ := r4
    have hv1 := r1.key_ hk
    have hg1 : g1 = [] := by cases k <;> first | exact r1.2 | exact hk.elim
    subst hv1 hg1
    refine ⟨pp :: ps, v2 :: ws, rfl, ?_, ?_, by simpa using a4⟩
    · exact .cons (SqT.of hpp) a2
    · refine ⟨v2, ws, g3, f2, rfl, r3, a3, by simp⟩
theorem zip_fst {α β : Type} : ∀ {as : List α} {bs : List β}, as.length = bs.length → (as.zip bs).map (·.1) = as
  | [], [], _ => rfl
  | [], _ :: _, h => by simp at h
  | _ :: _, [], h => by simp at h
  | a :: as, b :: bs, h => by simp [zip_fst (as := as) (bs := bs) (by simpa using h)]
theorem dp_dict {a : Expr} {f : PF} (hc : X.calm = true) (hg : Gl X "dict") (hm : X.mg "dict" = none) (ha : DP X c a f) (hs : starEach [a] X.env = (false, eval a X.env) :: starEach [] X.env := by rfl) : DP X c (.Call (.Name "dict" p) [a] [] pos) (p1 dictD f) :=
  cb1 (hf := dictD) (fun h => pe_callTy (call_dictP hc) hg hm (by decide +kernel) h (he := hs) (hpl := by rfl)) ha (fun F H H1 d v fp Q e1 r k ok q => by
    obtain ⟨o1, o2, o3⟩ := ok
    obtain ⟨pp, vs, f', rfl, hp, rl, rfl⟩ := r.lst_ o1
    obtain ⟨ps, ws, rfl, a2, a3, a4⟩ := pairs_rd (K := X.K) rl o2
    refine ⟨pp, ps, _, rfl, SqL.of hp, a2, fun l hl => ?_⟩
    have hmg : mergeK [] (((toL d).map pK).zip ws) = ((toL d).map pK).zip ws := by
      rw [mergeK_nodup]; · rfl
      rw [List.nil_append, zip_fst a4]; exact o3
    rw [hmg]
    have k2 := Cl.sub (f := f') k (fun q hq => by simp [hq]) fun n => (List.nodup_cons.mp n).2
    exact q _ _ (l :: f') (Ex.new hl) ⟨l, ws, f', rfl, upd_same, a3.ex (Ex.new hl), a4, rfl⟩ (Cl.cons e1 k2 (fun q' hq => let ⟨o, ho, _⟩ := RpL.there _ _ _ rl q' hq; ⟨o, ho⟩) hl)) hs
/-- sorted(a dict of numbers' keys) -/
def toN : Key → Int | .inl i => i | _ => 0
def sortdD (d : D) : PV := ⟨IsDic d ∧ (∀ k ∈ toKs d, ∃ i, k = .inl i) ∧ (toKs d).length < 64, .lst ((sortI ((toKs d).map toN)).map D.int)⟩
theorem dp_sortedD {a : Expr} {f : PF} (hc : X.calm = true) (hg : Gl X "sorted") (hm : X.mg "sorted" = none) (ha : DP X c1 a f) (hs : starEach [a] X.env = (false, eval a X.env) :: starEach [] X.env := by rfl) : DP X c (.Call (.Name "sorted" p) [a] [] pos) (p1 sortdD f) :=
  cb1 (hf := sortdD) (fun h => pe_callB (call_sortedDI hc) hg hm (by decide +kernel) h (he := hs) (hpl := by rfl)) ha (fun F H H1 d v fp Q e1 r k ok q => by
    obtain ⟨o1, o2, o3⟩ := ok
    obtain ⟨pp, vs, f', rfl, hp, rl, hl, rfl⟩ := r.dic_ o1
    have e : ∀ ks : List Key, (∀ k ∈ ks, ∃ i, k = .inl i) → ks = (ks.map toN).map Sum.inl := by
      intro ks; induction ks with
      | nil => intro _; rfl
      | cons k ks ih =>
        intro h
        obtain ⟨i, rfl⟩ := h k (by simp)
        rw [List.map_cons, List.map_cons, ← ih fun x hx => h x (by simp [hx])]; rfl
    refine ⟨pp, _, (toKs d).map toN, rfl, .inl hp, by rw [zip_fst hl]; exact e _ o2, by rw [List.length_map]; exact o3, fun ys l h1 h2 hl => ?_⟩
    rw [sortI_of h1 h2]
    exact new_lst (c := c) (F := F) e1 (RpL.of_ints _) Cl.nil hl q) hs
/-- len(set(numbers, each once)) -/
def lensetD (d : D) : PV := ⟨Ints d ∧ (toIs d).Nodup ∧ (toL d).length ≤ 4000, .int (toL d).length⟩
theorem dp_lenset {a : Expr} {f : PF} (hc : X.calm = true) (hg : Gl X "len") (hm : X.mg "len" = none) (hg2 : Gl X "set") (hm2 : X.mg "set" = none) (ha : DP X c1 a f) (na : starEach [a] X.env = (false, eval a X.env) :: starEach [] X.env := by rfl) :
    DP X c (.Call (.Name "len" p) [.Call (.Name "set" p2) [a] [] pos2] [] pos) (p1 lensetD f) := by
  refine pe_imp (RZ.pe_lenSetI hg hm hg2 hm2 ha hc na) fun σ H Q h => ?_
  obtain ⟨δ, N, F, hS, hn, ok, q⟩ := h
  refine ⟨δ, N, F, hS, hn, ok.1, fun v H1 fp e1 r1 k1 => ?_⟩
  obtain ⟨o1, o2, o3⟩ := ok.2
  obtain ⟨pp, rfl, hp⟩ := r1.ints o1
  have hl : (toIs (f δ N).val).length = (toL (f δ N).val).length := by unfold toIs; rw [List.length_map]
  refine ⟨pp, _, rfl, SqL.of hp, o2, by rw [hl]; exact o3, ?_⟩
  rw [hl]
  exact q _ H1 [] e1 ⟨rfl, rfl⟩ Cl.nil
/-! ### the sum of a tuple -/
def rSumT (K : PySem.W.Frag) : List V → Hp → VK → Prop := fun vs H Q => ∃ (a : Addr) (ns : List Int), vs = [V.ref a] ∧ SqT K H a (ns.map V.int) ∧ Q (.int ns.sum) H
open PyProof.Rows in
theorem cr_sumT (hc : X.calm = true) : CallR X (.builtin "sum") (rSumT X.K) := by
  intro pins s σ H vs us Q I r h
  obtain ⟨a, ns, rfl, hs, q⟩ := h
  obtain ⟨its, rv, hl, _⟩ := I.tuple hs
  rw [Vals.ref1 r]
  have hi := rv.ints
  obtain ⟨xs, hx⟩ := hi.allInts.items
  have hn : numsOf its.toArray.toList = ns := by rw [show its.toArray.toList = its from rfl, hi.numsOf]
  rw [hx] at hl hn
  rw [nums_intItems] at hn
  refine PySem.W.ktm_sumG (I.ok.hd hc) hl fun h' tk t' hk => ?_
  rw [preSum_eq, List.take_of_length_le (by simp), hn]
  exact ⟨.int _, H, I.kept hk, ⟨_, rfl⟩, q⟩
def sumTD (d : D) : PV := ⟨UInts d, .int (toIs d).sum⟩
theorem dp_sumT {a : Expr} {f : PF} (hc : X.calm = true) (hg : Gl X "sum") (hm : X.mg "sum" = none) (ha : DP X c1 a f) (hs : starEach [a] X.env = (false, eval a X.env) :: starEach [] X.env := by rfl) : DP X c (.Call (.Name "sum" p) [a] [] pos) (p1 sumTD f) :=
  cb1 (hf := sumTD) (fun h => pe_callB (cr_sumT hc) hg hm (by decide +kernel) h (he := hs) (hpl := by rfl)) ha (fun F H H1 d v fp Q e1 r k ok q => by
    have r2 := r
    rw [UInts.eq ok] at r2
    obtain ⟨pp, vs, rfl, hp, rl⟩ := r2
    obtain ⟨ev, _⟩ := rl.ints_ (fun d hd => by obtain ⟨i, _, rfl⟩ := List.mem_map.mp hd; trivial)
    rw [toI_ints] at ev
    subst ev
    exact ⟨pp, _, rfl, SqT.of hp, q _ H1 [] (Ex.refl _) ⟨rfl, rfl⟩ Cl.nil⟩) hs
/-! ### > of data that are alike -/
def rGtD (K : PySem.W.Frag) : R2 := fun x y H Q => ∃ (d e : PyData), Dp K H x d ∧ Dp K H y e ∧ PySem.W.alike d e = true ∧ d ≠ .none ∧ d.depth ≤ 60 ∧ Q (.bl (PySem.W.dataLt e d)) H
theorem op_gtD (hu : X.A.units + 64 < cLine) : OpR X (compareOp .Gt) (rGtD X.K) := by
  intro pins s σ H x y v u Q I rx ry h
  obtain ⟨d, e, h1, h2, ha, hn, hd, k⟩ := h
  obtain ⟨as, r1⟩ := Dp.reads I d _ _ h1 rx
  obtain ⟨bs, r2⟩ := Dp.reads I e _ _ h2 ry
  refine PySem.W.gt_data r1 r2 ha hn ?_ (fin_bl I k rfl)
  have := Nat.min_le_left d.depth e.depth
  omega
def cGtD (x y : D) : TV := ⟨okD 8 x ∧ okD 8 y ∧ PySem.W.alike (toPy x) (toPy y) = true ∧ toPy x ≠ .none, PySem.W.dataLt (toPy y) (toPy x)⟩
theorem cmpd_gtD {K : PySem.W.Frag} : CmpD (rGtD K) cGtD := fun H x y v w fa fb Q rx ry ok q => by
  obtain ⟨o1, o2, o3, o4⟩ := ok
  have := (okD.lay 8 x o1).2
  exact ⟨toPy x, toPy y, Rp.dp 8 _ _ _ rx o1, Rp.dp 8 _ _ _ ry o2, o3, o4, by omega, q⟩
theorem dp_gtD {a b : Expr} {f g : PF} (hu : X.A.units + 64 < cLine) (ha : DP X c1 a f) (hb : DP X c2 b g) : DP X c (.Compare a [.Gt] [b] pos) (pc2 cGtD f g) :=
  dp_cmp (hf := cGtD) (op_gtD hu) ha hb (nomark _) fun H2 x y v w fa fb Q rx ry ok q => cmpd_gtD H2 x y v w fa fb Q rx ry ok q
theorem dt_gtD {a b : Expr} {f g : PF} (hu : X.A.units + 64 < cLine) (ha : DP X c1 a f) (hb : DP X c2 b g) : DT X (.Compare a [.Gt] [b] pos) (tc2 cGtD f g) :=
  dt_cmp (hf := cGtD) (op_gtD hu) ha hb (nomark _) fun H2 x y v w fa fb Q rx ry ok q => cmpd_gtD H2 x y v w fa fb Q rx ry ok q
/-- t + u of tuples, a part impure -/
theorem opd_catU {K : PySem.W.Frag} : OpD (rCatA K) catU := fun F H x y v w fa fb Q rx ry ka kb ok q => by
  obtain ⟨p, vs, rfl, hp, rl⟩ := rx.tup_ ok.1
  obtain ⟨p', vs', rfl, hp', rl'⟩ := ry.tup_ ok.2.1
  have kk : Cl.cln.ok F H (fa ++ fb) := fun z hz => Or.inl ((List.mem_append.mp hz).elim (ka z) (kb z))
  refine ⟨p, p', vs, vs', rfl, rfl, SqT.of hp, SqT.of hp', sz (by rw [← rl.length, ← rl'.length]; exact ok.2.2), fun ev => ?_, fun _ ew => ?_, fun _ _ l hl => ?_⟩
  · subst ev
    have z := rl.length
    have z2 : toL x = [] := List.eq_nil_of_length_eq_zero z
    have zz := rl; rw [z2] at zz
    have z3 : fa = [] := zz.2
    subst z3
    refine q _ H fb (Ex.refl _) ⟨p', vs', rfl, hp', ?_⟩ (by simpa using kk)
    show RpL H (toL x ++ toL y) vs' fb
    rw [z2]; exact rl'
  · subst ew
    have z2 : toL y = [] := List.eq_nil_of_length_eq_zero rl'.length
    have zz := rl'; rw [z2] at zz
    have z3 : fb = [] := zz.2
    subst z3
    refine q _ H fa (Ex.refl _) ⟨p, vs, rfl, hp, ?_⟩ (by simpa using kk)
    show RpL H (toL x ++ toL y) vs fa
    rw [z2, List.append_nil]; exact rl
  · exact q _ _ (fa ++ fb) (Ex.new hl) ⟨l, _, rfl, upd_same, (rl.append rl').ex (Ex.new hl)⟩ kk
theorem de_catU {a b : Expr} {w u : WE} (ha : DE X E a w) (hb : DE X E b u) : DE X E (.BinOp a .Add b pos) (w2 catU w u) := de_bin op_catA opd_catU ha hb
/-! ### x, y = a new one that will be changed, an impure value -/
def sPar1 (i j : Nat) (f : PF) (w : WE) : WS := fun K δ N => (f δ N).ok ∧ IsC (f δ N).val ∧ ∀ a, N a = none → w δ (updN N a ⟨true, (f δ N).val⟩) (fun d N2 => i < δ.length ∧ j < δ.length ∧ K.nx ((δ.set i (some (.ref a))).set j (some d)) N2) K.ex
theorem ds_par1 {i j : Nat} {y z : Str} {a b : Expr} {f : PF} {w : WE} {px py pt : Pos} {kt k2 pt2} (hc : X.calm = true) (hN : X.N.Nodup) (hi : X.N[i]? = some y) (hj : X.N[j]? = some z)
    (hx : L2.Loc X.env.scope y) (hy : L2.Loc X.env.scope z) (ha : DP X .frs a f) (hb : DE X E b w)
    (hs : swapsWithSole [.Tuple [.Name y px, .Name z py] kt pt] (.Tuple [a, b] k2 pt2) pos.line X.env = pure false := by rfl) (hw : swappedStores [.Tuple [.Name y px, .Name z py] kt pt] (.Tuple [a, b] k2 pt2) X.env = pure none := by rfl)
    (h1 : (assignEach [.Tuple [.Name y px, .Name z py] kt pt] X.env).map (·.2) = [assign (.Tuple [.Name y px, .Name z py] kt pt) X.env] := by rfl)
    (hsa : starEach [a, b] X.env = (false, eval a X.env) :: starEach [b] X.env := by rfl) (hsb : starEach [b] X.env = (false, eval b X.env) :: starEach [] X.env := by rfl)
    (hga : (assignEach [.Name y px, .Name z py] X.env).map (·.2) = assign (.Name y px) X.env :: (assignEach [.Name z py] X.env).map (·.2) := by rfl) (hgb : (assignEach [.Name z py] X.env).map (·.2) = assign (.Name z py) X.env :: (assignEach [] X.env).map (·.2) := by rfl)
    (hn2 : (assignEach [.Name y px, .Name z py] X.env).length = 2 := by rfl) (hst : (assignEach [.Name y px, .Name z py] X.env).findIdx? (·.1) = none := by rfl)
    (hf1 : X.fn y = true ∨ X.env.scope.names.lookup y = some .local := by first | exact .inl rfl | exact .inr rfl | assumption) (hf2 : X.fn z = true ∨ X.env.scope.names.lookup z = some .local := by first | exact .inl rfl | exact .inr rfl | assumption) :
    DS X E rc (.Assign [.Tuple [.Name y px, .Name z py] kt pt] (.Tuple [a, b] k2 pt2) pos) (sPar1 i j f w) :=
  ps_imp (ps_asg (pe_tup (pa_cons ha (pa_cons hb pa_nil hsb) hsa)) (pg_tup hc (pgs_cons (pg_name hN hi hx hf1) (pgs_cons (pg_name hN hj hy hf2) pgs_nil hgb) hga) hn2 hst) hs hw h1) fun D σ H h => by
  obtain ⟨δ, N, F, P, K, o, ⟨ok, kc, q⟩, e⟩ := h
  refine ⟨δ, N, F, o.sr, o.nr, ok, fun v H1 fp e1 r1 k1 => ?_⟩
  obtain ⟨A, rfl, hA⟩ := r1.cell kc
  obtain ⟨hNA, o1, t1⟩ := o.alloc e1 r1 hA k1.1 k1.2
  refine ⟨δ, _, F, _, _, K.ex, o1, q A hNA, fun u H2 F2 P2 d N2 fq t2 o2 r2 k2 q2 => ?_, e.ex.tr t1⟩
  refine ⟨sz (show 2 ≤ SZ by decide), fun pt hp => ?_⟩
  obtain ⟨o3, t3⟩ := o2.ex (Ex.new (o := .tup [.ref A, u]) hp)
  refine ⟨pt, [.ref A, u], rfl, SqT.of upd_same, rfl, _, _, rfl, _, _, rfl, rfl, ?_⟩
  exact e.nx _ _ F2 P2 _ _ ((t1.trans t2).trans t3) ⟨o3.wf, (o3.sr.set (d := .ref A) (fp := []) ⟨rfl, rfl⟩ (by simp)).set (r2.ex (Ex.new hp)) k2⟩ q2.2.2
end
end DL
set_option maxHeartbeats 4000000
/-! The data layer, 25: a name given up: what it held is frozen. -/
namespace DL
open PySem L2
def remN (N : Nm) (a : Addr) : Nm := fun b => if b = a then none else N b
theorem remN_same {N : Nm} {a : Addr} : remN N a a = none := by unfold remN; rw [if_pos rfl]
theorem remN_ne {N : Nm} {a b : Addr} (h : b ≠ a) : remN N a b = N b := by unfold remN; rw [if_neg h]
theorem Ok.freeze {δ : Loc} {N : Nm} {F P : Addr → Prop} {σ : St} {H : Hp} {a : Addr} {d : D} (o : Ok δ N F P σ H) (hN : N a = some ⟨true, d⟩) :
    ∃ F' P' fp, Ok δ (remN N a) F' P' σ H ∧ Tr F P H F' P' H ∧ Rp H d (.ref a) fp ∧ ∀ p ∈ fp, F' p := by
  obtain ⟨fpm, w⟩ := o.wf
  obtain ⟨r, ha⟩ := w.cell a _ hN
  obtain ⟨nd, own⟩ := w.own a _ hN rfl
  have rem : ∀ {b c}, remN N a b = some c → N b = some c ∧ b ≠ a := fun {b c} h => by
    by_cases z : b = a
    · subst z; rw [remN_same] at h; cases h
    · rw [remN_ne z] at h; exact ⟨h, z⟩
  refine ⟨fun p => F p ∨ p ∈ fpm a, fun p => P p ∧ p ∉ fpm a, fpm a, ⟨⟨fpm, fun b c h => w.cell b c (rem h).1, fun b c h hw => ⟨(w.own b c (rem h).1 hw).1, fun p hp => ⟨(w.own b c (rem h).1 hw).2 p hp, w.sep b a c _ (rem h).2 (rem h).1 hw hN p hp⟩⟩, fun b b' c e hne h hw h' => w.sep b b' c e hne (rem h).1 hw (rem h').1, fun p h => ?_, fun p h => w.pr p h.1⟩, ⟨o.sr.len, fun p h => ?_, fun i d q => ?_⟩⟩, ⟨fun p h => .inl h, fun p ob h _ => h, fun p ob h => ⟨ob, h⟩, fun p h => .inl h.1, fun p h => h.imp id fun z => .inl (own p z)⟩, r, fun p hp => .inr hp⟩
  · rcases h with h | h
    · exact ⟨fun z => (w.fr p h).1 z.1, (w.fr p h).2⟩
    · obtain ⟨ob, ho, _⟩ := Rp.there _ _ _ r p h
      exact ⟨fun z => z.2 h, ob, ho⟩
  · rcases h with h | h
    · exact (w.fr p h).2
    · obtain ⟨ob, ho, _⟩ := Rp.there _ _ _ r p h
      exact ⟨ob, ho⟩
  · obtain ⟨v, fp, h1, h2, h3⟩ := o.sr.at_ i d q
    exact ⟨v, fp, h1, h2, fun p hp => .inl (h3 p hp)⟩
section
variable {X : Cx} {E : XK} {pos p : Pos}
/-- return x, x an own list of this name: it is frozen -/
def sRetZ (i : Nat) : WS := fun K δ N => lk δ i = some (.ref (rA (lk δ i))) ∧ ∃ d, N (rA (lk δ i)) = some ⟨true, d⟩ ∧ K.rt d (remN N (rA (lk δ i)))
theorem ds_retZ {x : Str} (i : Nat) (hN : X.N[i]? = some x := by rfl) (hv : Vis X.env.scope x := by first | exact Or.inl rfl | exact Or.inr (Or.inl rfl) | exact Or.inr (Or.inr rfl)) (hd : (x == ("__debug__" : Str)) = false := by decide)
    (hcd : (x == ("__classdict__" : Str)) = false := by decide) : DS X E false (.Return (some (.Name x p)) pos) (sRetZ i) := ps_imp (ps_ret (pe_var hN hv hd hcd)) fun D σ H h => by
  obtain ⟨δ, N, F, P, K, o, ⟨o1, d, hNa, q⟩, e⟩ := h
  obtain ⟨v, fp, h1, h2, h3⟩ := o.sr.at_ i _ (lk_get o1)
  have ev : v = .ref (rA (lk δ i)) := h2.1
  subst ev
  obtain ⟨F', P', fp', o', t', r', k'⟩ := o.freeze hNa
  exact ⟨_, h1, e.rt _ H F' P' d _ fp' t' o'.wf r' (by unfold RtC; rw [if_neg Bool.false_ne_true]; exact k') q⟩
end
end DL
set_option maxHeartbeats 4000000
/-! The data layer, 26: an own list's name given up where it is stored. -/
namespace DL
open PySem L2
section
variable {X : Cx} {E : XK} {pos p : Pos} {rc : Bool} {tg iter elt : Expr} {ifs : List Expr} {scope : Scope}
/-- x = e, e hands back an own list: it is frozen -/
def sSetZ (i : Nat) (w : WE) : WS := fun K δ N => w δ N (fun d N1 => ∃ a t, d = .ref a ∧ N1 a = some ⟨true, t⟩ ∧ K.nx (δ.set i (some t)) (remN N1 a)) K.ex
theorem setZ_rd {i : Nat} {w : WE} {D : Ends} {σ : St} {H : Hp} (h : tDS E rc (sSetZ i w) D σ H) : tDE E w σ H fun v H' => gName i v σ H' D.nx := by
  obtain ⟨δ, N, F, P, K, o, q, e⟩ := h
  refine ⟨δ, N, F, P, _, K.ex, o, q, fun v H1 F1 P1 d N1 fp t1 o1 r1 k1 q1 => ?_, e.ex⟩
  obtain ⟨a, t, rfl, hN, q2⟩ := q1
  obtain ⟨F2, P2, fq, o2, t2, r2, k2⟩ := o1.freeze hN
  have ev : v = .ref a := r1.1
  subst ev
  exact e.nx _ H1 F2 P2 _ _ (t1.trans t2) ⟨o2.wf, o2.sr.set r2 k2⟩ q2
theorem ds_setLcZ_ {i : Nat} {y : Str} {py : Pos} {spos : Pos} {te : TE} (h : PS X (.Assign [.Name y py] (.ListComp elt [⟨tg, iter, ifs, 0⟩] scope pos) spos) (tAsg te (gName i)))
    {w : WE} (hk : ∀ σ H Q, tDE E w σ H Q → te σ H Q) : DS X E rc (.Assign [.Name y py] (.ListComp elt [⟨tg, iter, ifs, 0⟩] scope pos) spos) (sSetZ i w) := ps_imp h fun D σ H h => hk σ H _ (setZ_rd h)
theorem ds_setZ {i : Nat} {y : Str} {e : Expr} {w : WE} {pos' : Pos} (hN : X.N.Nodup) (hi : X.N[i]? = some y) (hx : L2.Loc X.env.scope y) (he : DE X E e w) (hs : swapsWith e (some (.Name y pos')) pos.line X.env = pure false := by rfl)
    (hf : X.fn y = true ∨ X.env.scope.names.lookup y = some .local := by first | exact .inl rfl | exact .inr rfl | assumption) : DS X E rc (.Assign [.Name y pos'] e pos) (sSetZ i w) := ps_imp (ps_set hN hi hx he hs hf) fun D σ H h => setZ_rd h
variable {a b : Expr} {w u : WE}
/-- min(a, b), max(a, b), a part impure -/
theorem de_min2 (hc : X.calm = true) (hg : Gl X "min") (hm : X.mg "min" = none) (ha : DE X E a w) (hb : DE X E b u) (hs : starEach [a, b] X.env = (false, eval a X.env) :: starEach [b] X.env := by rfl) (hs2 : starEach [b] X.env = (false, eval b X.env) :: starEach [] X.env := by rfl)
    (hpl : (backTo pos (starEach [b] X.env)).any (·.1) = false := by rfl) : DE X E (.Call (.Name "min" p) [a, b] [] pos) (w2 bMin2 w u) := by
  refine pe_imp (pe_callB (call_min2 hc) hg hm (by decide +kernel) (pa_cons ha (pa_cons hb pa_nil hs2) hs) (he := hs) (hpl := hpl)) fun σ H Q h => ?_
  obtain ⟨δ, N, F, P, Q', E', o, q', q, qe⟩ := h
  refine ⟨δ, N, F, P, _, E', o, q', fun v H1 F1 P1 d N1 fp t1 o1 r1 k1 q1 => ⟨δ, N1, F1, P1, _, E', o1, q1, fun v2 H2 F2 P2 d2 N2 fq t2 o2 r2 k2 q2 => ?_, qe.tr t1⟩, qe⟩
  obtain ⟨⟨o3, o4, _⟩, q3⟩ := q2
  have e := (o1.keep t2 r1 k1).int_ o3; have e' := r2.int_ o4
  subst e e'
  refine ⟨_, _, rfl, ?_⟩
  have z : (if toI d2 < toI d then toI d2 else toI d) = min (toI d) (toI d2) := by split <;> omega
  rw [z]
  exact q _ H2 F2 P2 (.int (min (toI d) (toI d2))) N2 [] (t1.trans t2) o2 ⟨rfl, rfl⟩ (by simp) q3
theorem de_max2 (hc : X.calm = true) (hg : Gl X "max") (hm : X.mg "max" = none) (ha : DE X E a w) (hb : DE X E b u) (hs : starEach [a, b] X.env = (false, eval a X.env) :: starEach [b] X.env := by rfl) (hs2 : starEach [b] X.env = (false, eval b X.env) :: starEach [] X.env := by rfl)
    (hpl : (backTo pos (starEach [b] X.env)).any (·.1) = false := by rfl) : DE X E (.Call (.Name "max" p) [a, b] [] pos) (w2 bMax2 w u) := by
  refine pe_imp (pe_callB (call_max2 hc) hg hm (by decide +kernel) (pa_cons ha (pa_cons hb pa_nil hs2) hs) (he := hs) (hpl := hpl)) fun σ H Q h => ?_
  obtain ⟨δ, N, F, P, Q', E', o, q', q, qe⟩ := h
  refine ⟨δ, N, F, P, _, E', o, q', fun v H1 F1 P1 d N1 fp t1 o1 r1 k1 q1 => ⟨δ, N1, F1, P1, _, E', o1, q1, fun v2 H2 F2 P2 d2 N2 fq t2 o2 r2 k2 q2 => ?_, qe.tr t1⟩, qe⟩
  obtain ⟨⟨o3, o4, _⟩, q3⟩ := q2
  have e := (o1.keep t2 r1 k1).int_ o3; have e' := r2.int_ o4
  subst e e'
  refine ⟨_, _, rfl, ?_⟩
  have z : (if toI d2 > toI d then toI d2 else toI d) = max (toI d) (toI d2) := by split <;> omega
  rw [z]
  exact q _ H2 F2 P2 (.int (max (toI d) (toI d2))) N2 [] (t1.trans t2) o2 ⟨rfl, rfl⟩ (by simp) q3
end
end DL
set_option maxHeartbeats 4000000
/-! The data layer, 27: readings statement by statement. -/
namespace DL
open PySem L2
section
variable {K : EndD} {δ δ' : Loc} {N : Nm} {i j n : Nat} {f g : PF} {t : TF} {u w : WS} {d : D} {b : Bool}
theorem st_set (d : D) (h : (f δ N).ok ∧ (f δ N).val = d) (e : δ.set i (some d) = δ') (k : w K δ' N) : sSeq (sSet i (wP f)) w K δ N := ⟨h.1, by subst e; rw [h.2]; exact k⟩
theorem st_set1 (d : D) (h : (f δ N).ok ∧ (f δ N).val = d) (e : δ.set i (some d) = δ') (k : K.nx δ' N) : sSet i (wP f) K δ N := ⟨h.1, by subst e; show K.nx (δ.set i (some (f δ N).val)) N; rw [h.2]; exact k⟩
theorem st_asg {G : GF} (d : D) (h : (f δ N).ok ∧ (f δ N).val = d) (hg : (G d δ).ok ∧ (G d δ).loc = δ') (k : w K δ' N) : sSeq (sAsg (wP f) G) w K δ N := ⟨h.1, by rw [h.2]; exact ⟨hg.1, by rw [hg.2]; exact k⟩⟩
theorem st_if (b : Bool) (h : (t δ N).ok ∧ (t δ N).b = b) {a c : WS} (k : if b = true then a { K with nx := w K } δ N else c { K with nx := w K } δ N) : sSeq (sIf (wT t) a c) w K δ N := ⟨h.1, by rw [h.2]; exact k⟩
theorem st_if1 (b : Bool) (h : (t δ N).ok ∧ (t δ N).b = b) {a c : WS} (k : if b = true then a K δ N else c K δ N) : sIf (wT t) a c K δ N := ⟨h.1, by rw [h.2]; exact k⟩
theorem st_ifF (h : (t δ N).ok ∧ (t δ N).b = false) {a : WS} (k : w K δ N) : sSeq (sIf (wT t) a sNext) w K δ N := st_if false h ((if_neg Bool.false_ne_true).mpr k)
theorem st_ifF1 (h : (t δ N).ok ∧ (t δ N).b = false) {a : WS} (k : K.nx δ N) : sIf (wT t) a sNext K δ N := st_if1 false h ((if_neg Bool.false_ne_true).mpr k)
theorem st_ifT1 (h : (t δ N).ok ∧ (t δ N).b = true) {a c : WS} (k : a K δ N) : sIf (wT t) a c K δ N := st_if1 true h ((if_pos rfl).mpr k)
theorem st_ifT (h : (t δ N).ok ∧ (t δ N).b = true) {a c : WS} (k : a { K with nx := w K } δ N) : sSeq (sIf (wT t) a c) w K δ N := st_if true h ((if_pos rfl).mpr k)
theorem st_ifE (h : (t δ N).ok ∧ (t δ N).b = false) {a c : WS} (k : c { K with nx := w K } δ N) : sSeq (sIf (wT t) a c) w K δ N := st_if false h ((if_neg Bool.false_ne_true).mpr k)
theorem st_ifE1 (h : (t δ N).ok ∧ (t δ N).b = false) {a c : WS} (k : c K δ N) : sIf (wT t) a c K δ N := st_if1 false h ((if_neg Bool.false_ne_true).mpr k)
theorem st_for {fi : AF} {G : GF} (items : List D) (h : (fi δ N).ok ∧ (fi δ N).vals = items) (k : loopD G u { K with nx := w K } items δ N) : sSeq (sFor (wA fi) G u) w K δ N := ⟨h.1, by rw [h.2]; exact k⟩
theorem st_for1 {fi : AF} {G : GF} (items : List D) (h : (fi δ N).ok ∧ (fi δ N).vals = items) (k : loopD G u K items δ N) : sFor (wA fi) G u K δ N := ⟨h.1, by rw [h.2]; exact k⟩
theorem st_setM (d : D) (h : (f δ N).ok ∧ (f δ N).val = d) (hc : IsC d) (k : ∀ a, N a = none → w K (δ.set i (some (.ref a))) (updN N a ⟨true, d⟩)) : sSeq (sSetM i f) w K δ N := ⟨h.1, by rw [h.2]; exact hc, fun a ha => by rw [h.2]; exact k a ha⟩
theorem st_app {pl : PLF} {a : Addr} {π : Pth} {t0 : D} {xs : List D} (d : D) (h : (f δ N).ok ∧ (f δ N).val = d) (hp : (pl δ N).ok ∧ (pl δ N).a = a ∧ (pl δ N).π = π) (hN : N a = some ⟨true, t0⟩) (hs : sub t0 π = some (.lst xs)) (hz : xs.length < SZ) (k : w K δ (updN N a ⟨true, put t0 π (.lst (xs ++ [d]))⟩)) : sSeq (sApp pl f) w K δ N := by
  obtain ⟨h1, rfl⟩ := h
  obtain ⟨p1, rfl, rfl⟩ := hp
  exact ⟨p1, h1, t0, xs, hN, hs, hz, k⟩
theorem st_app1 {pl : PLF} {a : Addr} {π : Pth} {t0 : D} {xs : List D} (d : D) (h : (f δ N).ok ∧ (f δ N).val = d) (hp : (pl δ N).ok ∧ (pl δ N).a = a ∧ (pl δ N).π = π) (hN : N a = some ⟨true, t0⟩) (hs : sub t0 π = some (.lst xs)) (hz : xs.length < SZ) (k : K.nx δ (updN N a ⟨true, put t0 π (.lst (xs ++ [d]))⟩)) : sApp pl f K δ N := by
  obtain ⟨h1, rfl⟩ := h
  obtain ⟨p1, rfl, rfl⟩ := hp
  exact ⟨p1, h1, t0, xs, hN, hs, hz, k⟩
theorem st_ret {w : WE} (h : w δ N (fun d N1 => K.rt d N1) K.ex) : sRet w K δ N := h
end
theorem gC_cons {G : GF} {Gs : GFs} {d : D} {dr : List D} {δ : Loc} : gC G Gs (d :: dr) δ = ⟨(G d δ).ok ∧ (Gs dr (G d δ).loc).ok, (Gs dr (G d δ).loc).loc⟩ := rfl
theorem and_rfl {p : Prop} {α : Type} {a : α} (h : p) : p ∧ a = a := ⟨h, rfl⟩
end DL
set_option maxHeartbeats 4000000
/-! The data layer, 28: readings of impure statements, statement by statement. -/
namespace DL
open PySem L2
section
variable {K : EndD} {δ δ' : Loc} {N : Nm} {i j n : Nat} {f g : PF} {t : TF} {u : WS} {w : WE} {d : D} {b : Bool}
theorem st_setE (P : D → Nm → Prop) (hw : ∀ Q : D → Nm → Prop, (∀ d N1, P d N1 → Q d N1) → w δ N Q K.ex) (k : ∀ d N1, P d N1 → u K (δ.set i (some d)) N1) : sSeq (sSet i w) u K δ N := hw _ k
theorem st_setZ (P : D → Nm → Prop) (hw : ∀ Q : D → Nm → Prop, (∀ a t N1, N1 a = some ⟨true, t⟩ → P t (remN N1 a) → Q (.ref a) N1) → w δ N Q K.ex) (k : ∀ t N1, P t N1 → u K (δ.set i (some t)) N1) : sSeq (sSetZ i w) u K δ N :=
  hw _ fun a t N1 h1 h2 => ⟨a, t, rfl, h1, k t _ h2⟩
theorem st_par1 (P : Addr → D → Nm → Prop) (d : D) (h : (f δ N).ok ∧ (f δ N).val = d) (hc : IsC d) (hw : ∀ a, N a = none → ∀ Q : D → Nm → Prop, (∀ d2 N2, P a d2 N2 → Q d2 N2) → w δ (updN N a ⟨true, d⟩) Q K.ex) (hl : i < δ.length ∧ j < δ.length)
    (k : ∀ a d2 N2, P a d2 N2 → u K ((δ.set i (some (.ref a))).set j (some d2)) N2) : sSeq (sPar1 i j f w) u K δ N := by
  obtain ⟨h1, rfl⟩ := h
  exact ⟨h1, hc, fun a ha => hw a ha _ fun d2 N2 hp => ⟨hl.1, hl.2, k a d2 N2 hp⟩⟩
theorem st_asgE {G : GF} (P : D → Nm → Prop) (hw : ∀ Q : D → Nm → Prop, (∀ d N1, P d N1 → Q d N1) → w δ N Q K.ex) (k : ∀ d N1, P d N1 → (G d δ).ok ∧ u K (G d δ).loc N1) : sSeq (sAsg w G) u K δ N := hw _ k
theorem st_setM1 (d : D) (h : (f δ N).ok ∧ (f δ N).val = d) (hc : IsC d) (k : ∀ a, N a = none → K.nx (δ.set i (some (.ref a))) (updN N a ⟨true, d⟩)) : sSetM i f K δ N := ⟨h.1, by rw [h.2]; exact hc, fun a ha => by rw [h.2]; exact k a ha⟩
end
end DL
set_option maxHeartbeats 4000000
/-! The data layer, 29: strings. -/
namespace DL
open PySem L2
section
variable {X : Cx} {E : XK} {c c1 c2 c3 : Cl} {pos p : Pos} {rc : Bool}
/-- str(i) -/
def strD (d : D) : PV := ⟨IsI d ∧ (toI d).natAbs.log2 < 1920, .str (Str.ofString (toString (toI d)))⟩
theorem dp_strI {a : Expr} {f : PF} (hg : Gl X "str") (hm : X.mg "str" = none) (ha : DP X c1 a f) (hs : starEach [a] X.env = (false, eval a X.env) :: starEach [] X.env := by rfl) : DP X c (.Call (.Name "str" p) [a] [] pos) (p1 strD f) :=
  cb1 (hf := strD) (fun h => pe_callTy (T := "str") call_str_int hg hm (by decide +kernel) h (he := hs) (hpl := by rfl)) ha (fun F H H1 d v fp Q e1 r k ok q => by
    have e := r.int_ ok.1
    subst e
    exact ⟨_, rfl, ok.2, q _ H1 [] (Ex.refl _) ⟨rfl, rfl⟩ Cl.nil⟩) hs
/-- int(s) -/
def intSD (d : D) : PV := ⟨IsS d ∧ (PySem.intText? (toS d)).isSome = true ∧ (toS d).length ≤ 640, .int ((PySem.intText? (toS d)).getD 0)⟩
theorem dp_intS {a : Expr} {f : PF} (hg : Gl X "int") (hm : X.mg "int" = none) (ha : DP X c1 a f) (hs : starEach [a] X.env = (false, eval a X.env) :: starEach [] X.env := by rfl) : DP X c (.Call (.Name "int" p) [a] [] pos) (p1 intSD f) :=
  cb1 (hf := intSD) (fun h => pe_callTy (T := "int") call_int_str hg hm (by decide +kernel) h (he := hs) (hpl := by rfl)) ha (fun F H H1 d v fp Q e1 r k ok q => by
    obtain ⟨o1, o2, o3⟩ := ok
    have e := r.str_ o1
    subst e
    obtain ⟨n, hn⟩ := Option.isSome_iff_exists.mp o2
    exact ⟨_, n, rfl, hn, o3, q _ H1 [] (Ex.refl _) ⟨by rw [hn]; rfl, rfl⟩ Cl.nil⟩) hs
theorem RpL.strs_ {H : Hp} : ∀ {ds : List D} {vs : List V} {fp : List Addr}, RpL H ds vs fp → (∀ d ∈ ds, IsS d) → vs = (ds.map toS).map V.str ∧ fp = []
  | [], _, _, h, _ => h
  | d :: ds, vs, fp, h, k => by
    obtain ⟨v, vr, f, g, rfl, h1, h2, rfl⟩ := h
    have hd := k d (by simp)
    have e1 := h1.str_ hd
    rw [hd.eq] at h1
    obtain ⟨e3, e4⟩ := RpL.strs_ h2 fun e he => k e (by simp [he])
    subst e1 e3
    exact ⟨rfl, by rw [h1.2, e4]; rfl⟩
theorem RpL.of_strs {H : Hp} : ∀ (ns : List Str), RpL H (ns.map D.str) (ns.map V.str) []
  | [] => RpL.nil
  | n :: ns => ⟨_, _, [], [], rfl, ⟨rfl, rfl⟩, RpL.of_strs ns, rfl⟩
/-- a.join(list) -/
def joinD (x y : D) : PV := ⟨IsS x ∧ IsL y ∧ (∀ d ∈ toL y, IsS d) ∧ ((((toL y).map toS).map (·.length)).sum + ((toL y).map toS).length * (toS x).length ≤ SZ), .str (Txt.join (toS x) ((toL y).map toS))⟩
theorem dp_join {o e : Expr} {f g : PF} {apos : Pos} (ho : DP X c1 o f) (he : DP X c2 e g) (hs : starEach [e] X.env = [(false, eval e X.env)] := by rfl) (hbase : attributeBase o "join" X.env (eval o X.env) = eval o X.env := by rfl) (hline : (apos.endLine == pos.line) = true := by rfl) :
    DP X c (.Call (.Attribute o "join" apos) [e] [] pos) (p2 joinD f g) := by
  refine pe_imp (pe_join ho he hs hbase hline) fun σ H Q h => ?_
  obtain ⟨δ, N, F, hS, hn, ⟨o1, o2, o3, o4, o5, o6⟩, q⟩ := h
  refine ⟨δ, N, F, hS, hn, o1, fun v H1 fp e1 r1 k1 => ?_⟩
  have ev := r1.str_ o3
  subst ev
  refine ⟨⟨_, rfl⟩, δ, N, F, hS.ex e1, hn.ex e1, o2, fun w H2 fp2 e2 r2 k2 => ?_⟩
  obtain ⟨p, vs, f', rfl, hp, rl, rfl⟩ := r2.lst_ o4
  obtain ⟨rfl, _⟩ := rl.strs_ o5
  exact ⟨_, p, _, rfl, rfl, .inl (SqL.of hp), Nat.le_trans o6 (by decide), q _ H2 [] (e1.trans e2) ⟨rfl, rfl⟩ Cl.nil⟩
/-- a.split(sep) -/
def splitD (x y : D) : PV := ⟨IsS x ∧ IsS y ∧ ((toS y).length == 0) = false ∧ (toS x).length + 2 ≤ SZ, .lst ((Txt.split (toS x) (toS y)).map D.str)⟩
theorem dp_split {o e : Expr} {f g : PF} {apos : Pos} (ho : DP X c1 o f) (he : DP X c2 e g) (hs : starEach [e] X.env = [(false, eval e X.env)] := by rfl) (hbase : attributeBase o "split" X.env (eval o X.env) = eval o X.env := by rfl) (hline : (apos.endLine == pos.line) = true := by rfl) :
    DP X c (.Call (.Attribute o "split" apos) [e] [] pos) (p2 splitD f g) := by
  refine pe_imp (pe_split ho he hs hbase hline) fun σ H Q h => ?_
  obtain ⟨δ, N, F, hS, hn, ⟨o1, o2, o3, o4, o5, o6⟩, q⟩ := h
  refine ⟨δ, N, F, hS, hn, o1, fun v H1 fp e1 r1 k1 => ?_⟩
  have ev := r1.str_ o3
  subst ev
  refine ⟨⟨_, rfl⟩, δ, N, F, hS.ex e1, hn.ex e1, o2, fun w H2 fp2 e2 r2 k2 => ?_⟩
  have ew := r2.str_ o4
  subst ew
  refine ⟨_, _, rfl, rfl, o5, Nat.le_trans o6 (sz (Nat.le_refl _)), fun p hp => ?_⟩
  exact q _ _ [p] ((e1.trans e2).trans (Ex.new hp)) ⟨p, _, [], rfl, upd_same, RpL.of_strs _, rfl⟩ (Cl.cons (e1.trans e2) Cl.nil (by simp) hp)
/-- s[i] -/
def ixS (x y : D) : PV := ⟨IsS x ∧ IsI y ∧ (toS x).length ≤ SZ ∧ (atI (toS x).cps.toList (toI y)).isSome = true, .str ⟨#[(atI (toS x).cps.toList (toI y)).getD 0]⟩⟩
theorem dp_ixS {a b : Expr} {f g : PF} (ha : DP X c1 a f) (hb : DP X c2 b g) (hs : PlainIx b := by exact fun _ _ => rfl) : DP X c (.Subscript a b pos) (p2 ixS f g) := by
  refine pe_imp (pe_ix ix_str ha hb hs) fun σ H Q h => ?_
  obtain ⟨δ, N, F, hS, hn, ⟨o1, o2, o3, o4, o5, o6⟩, q⟩ := h
  refine ⟨δ, N, F, hS, hn, o1, fun v H1 fp e1 r1 k1 => ⟨δ, N, F, hS.ex e1, hn.ex e1, o2, fun w H2 fp2 e2 r2 k2 => ?_⟩⟩
  have ev := r1.str_ o3
  have ew := r2.int_ o4
  subst ev ew
  obtain ⟨cc, hc⟩ := Option.isSome_iff_exists.mp o6
  exact ⟨_, _, cc, rfl, rfl, Nat.le_trans o5 (sz (Nat.le_refl _)), hc, q _ H2 [] (e1.trans e2) ⟨by rw [hc]; rfl, rfl⟩ Cl.nil⟩
/-- a sign (not) in a text -/
def sgn (x : D) : Nat := ((toS x).cps.toList.head?).getD 0
def sinT (neg : Bool) (x y : D) : TV := ⟨x = .str ⟨#[sgn x]⟩ ∧ IsS y, if neg = true then !decide (sgn x ∈ (toS y).cps.toList) else decide (sgn x ∈ (toS y).cps.toList)⟩
theorem dt_notInS {a b : Expr} {f g : PF} (ha : DP X c1 a f) (hb : DP X c2 b g) (hm : behindInMarks .NotIn b = false := by rfl) : DT X (.Compare a [.NotIn] [b] pos) (tc2 (sinT true) f g) :=
  dt_cmp (hf := sinT true) op_notIn_sign ha hb hm fun H2 x y v w fa fb Q rx ry ok q => by
    obtain ⟨o1, o2⟩ := ok
    have e := ry.str_ o2
    subst e
    refine ⟨sgn x, _, ?_, rfl, q⟩
    rw [o1] at rx
    exact rx.1
theorem dt_inS {a b : Expr} {f g : PF} (ha : DP X c1 a f) (hb : DP X c2 b g) (hm : behindInMarks .In b = false := by rfl) : DT X (.Compare a [.In] [b] pos) (tc2 (sinT false) f g) :=
  dt_cmp (hf := sinT false) op_in_sign ha hb hm fun H2 x y v w fa fb Q rx ry ok q => by
    obtain ⟨o1, o2⟩ := ok
    have e := ry.str_ o2
    subst e
    refine ⟨sgn x, _, ?_, rfl, q⟩
    rw [o1] at rx
    exact rx.1
/-- for sign in text -/
def signs (s : Str) : List D := s.cps.toList.map fun n => .str ⟨#[n]⟩
def iS (f : PF) : AF := fun δ N => ⟨(f δ N).ok ∧ IsS (f δ N).val, signs (toS (f δ N).val)⟩
theorem di_str {tg e : Expr} {f : PF} (h : DP X c1 e f) : DI X c tg e (iS f) := by
  refine pi_imp (pi_str h) fun σ H R h => ?_
  obtain ⟨δ, N, F, hs, hn, ok, q⟩ := h
  refine ⟨δ, N, F, hs, hn, ok.1, fun v H1 fp e1 r1 k1 => ⟨_, r1.str_ ok.2, ?_⟩⟩
  refine q _ H1 [] e1 (by simp) Cl.nil fun i H2 kp => ⟨fun d hd => ?_, fun hl => ?_⟩
  · show i < _ ∧ _
    unfold iS signs at hd
    rw [List.getElem?_map] at hd
    obtain ⟨n, hn, rfl⟩ := Option.map_eq_some_iff.mp hd
    have hn : (toS (f δ N).val).cps[i]? = some n := by simpa using hn
    refine ⟨(Array.getElem?_eq_some_iff.mp hn).1, fun x H' y => ?_⟩
    obtain ⟨rfl, cc, hc, rfl⟩ := y
    rw [hn] at hc; cases hc
    exact ⟨Ex.refl _, [], ⟨rfl, rfl⟩, fun p hp => hp⟩
  · show _ ≤ i
    have : (signs (toS (f δ N).val)).length ≤ i := hl
    simpa [signs] using this
/-- enumerate(list) -/
def enu : Nat → List D → List D
  | _, [] => []
  | n, d :: ds => .tup [.int (n : Int), d] :: enu (n + 1) ds
theorem enu_get : ∀ {ds : List D} {n i : Nat}, (enu n ds)[i]? = ds[i]?.map fun d => D.tup [.int ((n + i : Nat) : Int), d]
  | [], n, i => by simp [enu]
  | d :: ds, n, 0 => by simp [enu]
  | d :: ds, n, i + 1 => by
    rw [enu, List.getElem?_cons_succ, List.getElem?_cons_succ, enu_get]
    have : n + 1 + i = n + (i + 1) := by omega
    rw [this]
theorem enu_length : ∀ {ds : List D} {n : Nat}, (enu n ds).length = ds.length
  | [], _ => rfl
  | d :: ds, n => by rw [enu, List.length_cons, List.length_cons, enu_length]
def iE (f : PF) : AF := fun δ N => ⟨(f δ N).ok ∧ IsL (f δ N).val, enu 0 (toL (f δ N).val)⟩
theorem di_enum {e : Expr} {f : PF} {elts : List Expr} {kk : Nat} {tpos : Pos} (hg : Gl X "enumerate") (hm : X.mg "enumerate" = none) (h : DP X c e f) (hs : starEach [e] X.env = (false, eval e X.env) :: starEach [] X.env := by rfl) (hs' : starEach [e] X.env = [(false, eval e X.env)] := by rfl) :
    DI X c (.Tuple elts kk tpos) (.Call (.Name "enumerate" p) [e] [] pos) (iE f) := by
  refine pi_imp (pi_enum hg hm (pa_cons h pa_nil hs) hs') fun σ H R h => ?_
  obtain ⟨δ, N, F, hS, hn, ok, q⟩ := h
  refine ⟨δ, N, F, hS, hn, ok.1, fun v H1 fp e1 r1 k1 => ?_⟩
  have tr := Rp.there _ _ _ r1
  obtain ⟨p, vs, f', rfl, hp, rl, rfl⟩ := r1.lst_ ok.2
  refine ⟨p, vs, rfl, SqL.of hp, q _ H1 (p :: f') e1 tr k1 fun i H2 kp => ⟨fun d hd => ?_, fun hl => ?_⟩⟩
  · have rl2 := rl.kp kp fun z hz => by simp [hz]
    have hp2 : H2 p = some (.lst vs) := by rw [kp.cell p (by simp)]; exact hp
    unfold iE at hd
    rw [enu_get] at hd
    obtain ⟨d0, hd0, rfl⟩ := Option.map_eq_some_iff.mp hd
    obtain ⟨u, fu, h1, h2, h3, h4⟩ := rl2.get hd0
    refine ⟨⟨vs, u, SqL.of hp2, h1⟩, fun x H' y => ?_⟩
    obtain ⟨T, x', rfl, hT, rfl, y⟩ := y
    have := y vs (SqL.of hp2)
    rw [h1] at this; cases this
    refine ⟨Ex.new hT, fu, ⟨T, _, rfl, upd_same, ?_⟩, fun z hz => by simp [h3 z hz]⟩
    exact ⟨_, _, [], fu, rfl, ⟨by rw [Nat.zero_add], rfl⟩, RpL.one (h2.ex (Ex.new hT)), rfl⟩
  · have hp2 : H2 p = some (.lst vs) := by rw [kp.cell p (by simp)]; exact hp
    unfold iE at hl
    rw [enu_length] at hl
    exact ⟨vs, SqL.of hp2, get_none rl hl⟩
/-- CALL.append(e): a new list, dropped -/
def sAppC (f g : PF) : WS := fun K δ N => (f δ N).ok ∧ (g δ N).ok ∧ IsL (f δ N).val ∧ (toL (f δ N).val).length < SZ ∧ K.nx δ N
theorem ds_appC {e a : Expr} {f g : PF} {apos ppos : Pos} (hs : swapsWith (.Call (.Attribute e "append" apos) [a] [] ppos) none pos.line X.env = pure false := by rfl)
    (hbm : PE X (.Call (.Attribute e "append" apos) [a] [] ppos) (tBM X.K "list" rAppend (tP .frs f) (tCons (tP .frs g) tNil))) : DS X E rc (.Expr (.Call (.Attribute e "append" apos) [a] [] ppos) pos) (sAppC f g) := ps_imp (ps_expr hbm hs) fun D σ H h => by
  obtain ⟨δ, N, F, P, K, o, ⟨o1, o2, o3, hz, q⟩, e⟩ := h
  refine ⟨δ, N, F, o.sr, o.nr, o1, fun u H1 fp e1 r1 k1 => ?_⟩
  obtain ⟨p, vs, f0, rfl, hp, rl, rfl⟩ := r1.lst_ o3
  refine ⟨.inl ⟨rfl, _, SqL.of hp⟩, δ, N, F, o.sr.ex e1, o.nr.ex e1, o2, fun v H2 fq e2 r2 k2 => ?_⟩
  refine ⟨p, vs, v, rfl, rfl, e2 _ _ hp, Nat.lt_of_lt_of_le (by rw [← rl.length]; exact hz) (sz (Nat.le_refl _)), ?_⟩
  have hnew : H p = none := k1.2 p (by simp)
  have ex : Ex H (upd H2 p (.lst (vs ++ [v]))) := fun a ob h => by
    have : a ≠ p := fun z => by rw [z, hnew] at h; cases h
    rw [upd_ne this]; exact e2 _ _ (e1 _ _ h)
  obtain ⟨o', t'⟩ := o.ex ex
  exact e.nx σ _ F P δ N t' o' q
end
end DL
set_option maxHeartbeats 4000000
/-! What the defs promise. -/
namespace K13
open PySem L2 DL
abbrev dI (ns : List Int) : D := .lst (ns.map .int)
abbrev dU (ns : List Int) : D := .tup (ns.map .int)
abbrev g0 (ds : List D) : D := ds.getD 0 .non
abbrev g1 (ds : List D) : D := ds.getD 1 .non
/-- the fillers' lengths: one to six, from 1, rising, none above 60 -/
structure FOk (fs : List Int) : Prop where
  one : fs.head? = some 1
  len : fs.length ≤ 6
  up : fs.Pairwise (· < ·)
  top : ∀ l ∈ fs, l ≤ 60
/-- [c0, .. cn]: how few fillers are together 0, .. n -/
def cntL (fs : List Int) : Nat → List Int
  | 0 => [0]
  | n + 1 => cntL fs n ++ [1 + minI ((fs.filter fun l => decide (l ≤ (n : Int) + 1)).map fun l => (cntL fs n).getD (n + 1 - l.toNat) 0)]
def cnt (fs : List Int) (n : Nat) : Int := (cntL fs n).getD n 0
/-- the lengths that may come first -/
def some_ (fs : List Int) (n : Nat) : List Int := fs.filter fun l => decide (l ≤ (n : Int)) && decide (cnt fs (n - l.toNat) = cnt fs n - 1)
def fillG (fs : List Int) : Nat → Nat → List Int
  | 0, _ => []
  | _, 0 => []
  | k + 1, n => maxI (some_ fs n) :: fillG fs k (n - (maxI (some_ fs n)).toNat)
def fill (fs : List Int) (n : Nat) : List Int := fillG fs n n
def isnum (x : D) (lo hi : Int) : Bool := match x with | .int i => decide (lo ≤ i) && decide (i ≤ hi) | _ => false
def ph_is_number : List D → Nm → PV := fun ds _ => ⟨∃ x lo hi, ds = [x, .int lo, .int hi] ∧ Ty x, .bl (isnum (g0 ds) (toI (g1 ds)) (toI (ds.getD 2 .non)))⟩
def ph_need_fillers : List D → Nm → PV := fun ds _ => ⟨∃ fs, ds = [dU fs] ∧ FOk fs, .non⟩
def ph_counts_to : List D → Nm → PV := fun ds _ => ⟨∃ (n : Nat) (fs : List Int), ds = [.int n, dU fs] ∧ FOk fs ∧ n ≤ 900, dI (cntL (toIs (g1 ds)) (toI (g0 ds)).toNat)⟩
def ph_filled_by : List D → Nm → PV := fun ds _ => ⟨∃ (n : Nat) (fs : List Int), ds = [.int n, dU fs] ∧ FOk fs ∧ n ≤ 900, dI (fill (toIs (g1 ds)) (toI (g0 ds)).toNat)⟩
/-! ### the law's own -/
def HSt (d : D) : Prop := ∃ s cs k, d = .lst [.int s, dI cs, .int k] ∧ 0 ≤ s ∧ s < 2147483647 ∧ 0 ≤ k
def sp_law_next : SpD := fun ds N Q _ => ∃ a many d, ds = [.ref a, .int many] ∧ N a = some ⟨true, d⟩ ∧ HSt d ∧ 0 < many ∧ many < 4294967296 ∧ ∀ r d', 0 ≤ r → r < many → HSt d' → Q (.int r) (updN N a ⟨true, d'⟩)
/-- plain data, no deeper than n -/
def Pl : Nat → D → Prop
  | 0, _ => False
  | _, .non | _, .bl _ | _, .int _ => True
  | _, .str s => PyData.strOk s = true
  | n + 1, .tup xs | n + 1, .lst xs => xs.length ≤ 100000 ∧ ∀ x ∈ xs, Pl n x
  | _, _ => False
def phr_law_alike : Nat → List D → Nm → PV
  | 0 => fun _ _ => ⟨False, .bl true⟩
  | n + 1 => fun ds _ => ⟨∃ x, ds = [x, x] ∧ Pl (n + 1) x, .bl true⟩
abbrev ph_law_alike : List D → Nm → PV := phr_law_alike 6
def sp_law_fillers : SpD := fun ds N Q _ => ∃ a d, ds = [.ref a] ∧ N a = some ⟨true, d⟩ ∧ HSt d ∧ ∀ fs d', FOk fs → HSt d' → Q (dU fs) (updN N a ⟨true, d'⟩)
/-- falling -/
def sortR (xs : List Int) : List Int := (sortI xs).reverse
def bestL (fs : List Int) : Nat → List (List Int)
  | 0 => [[]]
  | n + 1 =>
    let sm := (fs.filter fun l => decide (l ≤ (n : Int) + 1)).map fun l => l :: (bestL fs n).getD (n + 1 - l.toNat) []
    let few := minI (sm.map fun z => (z.length : Int))
    bestL fs n ++ [maxLs ((sm.filter fun z => decide ((z.length : Int) = few)).map sortR)]
def best (fs : List Int) (n : Nat) : List Int := (bestL fs n).getD n []
def ph_law_filled : List D → Nm → PV := fun ds _ => ⟨∃ (n : Nat) (fs : List Int), ds = [.int n, dU fs] ∧ FOk fs ∧ n ≤ 900, dI (best (toIs (g1 ds)) (toI (g0 ds)).toNat)⟩
/-! ### rows -/
structure Row where
  id : Int
  live : Bool
  len : Int
  mo : Option Int
def moD : Option Int → D
  | some m => .int m
  | none => .non
def kindS (b : Bool) : Str := cond b "live" "clip"
def rowD (r : Row) : D := .tup [.int r.id, .str (kindS r.live), .int r.len, moD r.mo]
abbrev dR (rs : List Row) : D := .lst (rs.map rowD)
structure ROk1 (r : Row) : Prop where
  id : 0 ≤ r.id ∧ r.id ≤ 99
  len : 1 ≤ r.len ∧ r.len ≤ 120
structure ROk (rs : List Row) (b e : Int) : Prop where
  n : rs.length ≤ 30
  one : ∀ r ∈ rs, ROk1 r
  nd : (rs.map Row.id).Nodup
  mo : ∀ m ∈ rs.filterMap Row.mo, b ≤ m ∧ m < e
  up : (rs.filterMap Row.mo).Pairwise (· < ·)
  be : 0 ≤ b ∧ b < e ∧ e ≤ 900
def ph_need_end : List D → Nm → PV := fun ds _ => ⟨∃ b e : Int, ds = [.int b, .int e] ∧ 0 ≤ b ∧ b < e ∧ e ≤ 900, .non⟩
def ph_is_row : List D → Nm → PV := fun ds _ => ⟨∃ r : Row, ds = [rowD r] ∧ ROk1 r ∧ ∀ m ∈ r.mo, 0 ≤ m ∧ m ≤ 900, .bl true⟩
def ph_need_rows : List D → Nm → PV := fun ds _ => ⟨∃ (rs : List Row) (b e : Int), ds = [dR rs, .int b, .int e] ∧ ROk rs b e, .non⟩
/-- the least number of rows that are left out -/
def fo : List Int → Int → Nat
  | [], _ => 0
  | a :: s, k => if a ≤ k then min (1 + fo s k) (fo s (k - a)) else 1 + fo s k
def ch : List Row → Int → List Row × List Row
  | [], _ => ([], [])
  | r :: s, k => if r.len ≤ k ∧ fo (s.map Row.len) (k - r.len) ≤ 1 + fo (s.map Row.len) k then (r :: (ch s (k - r.len)).1, (ch s (k - r.len)).2) else ((ch s k).1, r :: (ch s k).2)
def ph_fewest_out : List D → Nm → PV := fun ds _ => ⟨∃ (ls : List Int) (k : Int), ds = [dI ls, .int k] ∧ 0 ≤ k ∧ (∀ l ∈ ls, 1 ≤ l ∧ l ≤ 120) ∧ ls.length ≤ 30, .int (fo (toIs (g0 ds)) (toI (g1 ds)))⟩
/-- what a row is, read back -/
def toR (d : D) : Row := match d with
  | .tup [.int i, .str s, .int l, .int m] => ⟨i, decide (s = ("live" : Str)), l, some m⟩
  | .tup [.int i, .str s, .int l, .non] => ⟨i, decide (s = ("live" : Str)), l, none⟩
  | _ => ⟨0, false, 0, none⟩
def toRs (d : D) : List Row := (toL d).map toR
def ph_chosen : List D → Nm → PV := fun ds _ => ⟨∃ (rs : List Row) (k : Int), ds = [dR rs, .int k] ∧ 0 ≤ k ∧ k ≤ 900 ∧ (∀ r ∈ rs, ROk1 r) ∧ rs.length ≤ 30, .tup [dR (ch (toRs (g0 ds)) (toI (g1 ds))).1, dR (ch (toRs (g0 ds)) (toI (g1 ds))).2]⟩
/-- a stretch -/
structure Stt where
  start : Int
  last : Int
  first : Option Row
  some_ : List Row
def frD : Option Row → D
  | some r => rowD r
  | none => .non
def sttD (s : Stt) : D := .lst [.int s.start, .int s.last, frD s.first, dR s.some_]
/-- one more row -/
def addS (e : Int) : List Stt → Row → List Stt
  | [], _ => []
  | [s], r => match r.mo with
    | none => [{ s with some_ := s.some_ ++ [r] }]
    | some m => [{ s with last := m }, ⟨m, e, some r, []⟩]
  | s :: t :: ts, r => s :: addS e (t :: ts) r
def strz (rs : List Row) (b e : Int) : List Stt := rs.foldl (addS e) [⟨b, e, none, []⟩]
def ph_stretches : List D → Nm → PV := fun ds _ => ⟨∃ (rs : List Row) (b e : Int), ds = [dR rs, .int b, .int e] ∧ rs.length ≤ 30, .lst ((strz (toRs (g0 ds)) (toI (g1 ds)) (toI (ds.getD 2 .non))).map sttD)⟩
/-- an entry: what is aired -/
inductive Wh | row (i : Int) | fill (l : Int)
def whD : Wh → D
  | .row i => .int i
  | .fill l => .tup [.str "fill", .int l]
structure En where
  a : Int
  b : Int
  w : Wh
def enD (e : En) : D := .tup [.int e.a, .int e.b, whD e.w]
abbrev dE (es : List En) : D := .lst (es.map enD)
def airR : Int → List Row → List En
  | _, [] => []
  | n, r :: rs => ⟨n, n + r.len, .row r.id⟩ :: airR (n + r.len) rs
def airF : Int → List Int → List En
  | _, [] => []
  | n, l :: ls => ⟨n, n + l, .fill l⟩ :: airF (n + l) ls
def endR (n : Int) (rs : List Row) : Int := n + (rs.map Row.len).sum
/-- where the free part of a stretch begins -/
def fromS (s : Stt) : Int := match s.first with
  | some r => min s.last (s.start + r.len)
  | none => s.start
def headS (s : Stt) : List En := match s.first with
  | some r => [⟨s.start, min s.last (s.start + r.len), .row r.id⟩]
  | none => []
def layS (fs : List Int) : List Stt → List Row → List En × List Row
  | [], out => ([], out)
  | s :: ss, out =>
    let c := ch (out ++ s.some_) (s.last - fromS s)
    (headS s ++ airR (fromS s) c.1 ++ airF (endR (fromS s) c.1) (fill fs (s.last - endR (fromS s) c.1).toNat) ++ (layS fs ss c.2).1, (layS fs ss c.2).2)
def layD (rs : List Row) (fs : List Int) (b e : Int) : D := .tup [dE (layS fs (strz rs b e) []).1, dI ((layS fs (strz rs b e) []).2.map Row.id)]
def ph_lay : List D → Nm → PV := fun ds _ => ⟨∃ (rs : List Row) (fs : List Int) (b e : Int), ds = [dR rs, dU fs, .int b, .int e] ∧ ROk rs b e ∧ FOk fs, layD (toRs (g0 ds)) (toIs (g1 ds)) (toI (ds.getD 2 .non)) (toI (ds.getD 3 .non))⟩
def ph_laid : List D → Nm → PV := ph_lay
def ph_law_chosen : List D → Nm → PV := ph_chosen
def ph_law_laid : List D → Nm → PV := ph_lay
def sp_law_rows : SpD := fun ds N Q _ => ∃ a d b e most, ds = [.ref a, .int b, .int e, .int most] ∧ N a = some ⟨true, d⟩ ∧ HSt d ∧ 0 ≤ b ∧ b < e ∧ e ≤ 900 ∧ 0 ≤ most ∧ most ≤ 30 ∧
  ∀ d' rs N', ROk rs b e → (rs.length : Int) ≤ most → HSt d' → (∀ z c, z ≠ a → N z = some c → N' z = some c) → N' a = some ⟨true, d'⟩ → Q (dR rs) N'
/-! ### texts -/
def numS (i : Int) : Str := Str.ofString (toString i)
def wordsOf (r : Row) : List Str := [numS r.id, kindS r.live, numS r.len] ++ (match r.mo with | some m => [numS m] | none => [])
def lineS (r : Row) : Str := Txt.join " " (wordsOf r)
def textS (rs : List Row) : Str := Txt.join "\n" (rs.map lineS)
def rdI (s : Str) : Int := (PySem.intText? s).getD 0
def rdW (ws : List Str) : Row := ⟨rdI (ws.getD 0 ""), decide (ws.getD 1 "" = ("live" : Str)), rdI (ws.getD 2 ""), (ws[3]?).map rdI⟩
def rdT (t : Str) : List Row := if t = "" then [] else (Txt.split t "\n").map fun l => rdW (Txt.split l " ")
def ph_number_of : List D → Nm → PV := fun ds _ => ⟨∃ i : Int, ds = [.str (numS i)] ∧ 0 ≤ i ∧ i ≤ 999, .int (rdI (toS (g0 ds)))⟩
def ph_row_of : List D → Nm → PV := fun ds _ => ⟨∃ r : Row, ds = [.lst ((wordsOf r).map D.str)] ∧ ROk1 r ∧ ∀ m ∈ r.mo, 0 ≤ m ∧ m ≤ 899, rowD (rdW ((toL (g0 ds)).map toS))⟩
def ph_read : List D → Nm → PV := fun ds _ => ⟨∃ rs : List Row, ds = [.str (textS rs)] ∧ ROk rs 0 900, dR (rdT (toS (g0 ds)))⟩
def ph_written : List D → Nm → PV := fun ds _ => ⟨∃ rs : List Row, ds = [dR rs] ∧ ROk rs 0 900, .str (textS (toRs (g0 ds)))⟩
end K13
set_option maxHeartbeats 4000000
/-! Texts of rows: the plain law. -/
namespace K13
open PySem L2 DL TL
theorem getD_list {α : Type} {a : α} : ∀ {xs : List α} {n : Nat}, n < xs.length → xs[n]? = some (xs.getD n a) := by
  intro xs n h
  rw [List.getElem?_eq_getElem h, List.getD_eq_getElem?_getD, List.getElem?_eq_getElem h]; rfl
theorem FOk.pos {fs : List Int} (h : FOk fs) : ∀ l ∈ fs, 1 ≤ l := by
  obtain ⟨h1, h2, h3, h4⟩ := h
  cases fs with
  | nil => simp at h1
  | cons x xs =>
    simp at h1; subst h1
    intro l hl
    rcases List.mem_cons.mp hl with rfl | hl
    · omega
    · have := (List.pairwise_cons.mp h3).1 l hl; omega
theorem numS_nat {i : Int} (h : 0 ≤ i) : tl (numS i) = numL i.toNat := by
  obtain ⟨n, rfl⟩ := Int.eq_ofNat_of_zero_le h
  exact tl_num n
theorem numS_len {i : Int} (h : 0 ≤ i) (h1 : i ≤ 999) : 1 ≤ (numS i).length ∧ (numS i).length ≤ 3 := by
  rw [len_tl, numS_nat h]
  refine ⟨List.length_pos_iff.mpr (numL_ne _), numL_len (by decide) (by omega)⟩
theorem rdI_num {i : Int} (h : 0 ≤ i) (h1 : i ≤ 999) : PySem.intText? (numS i) = some i ∧ rdI (numS i) = i := by
  obtain ⟨n, rfl⟩ := Int.eq_ofNat_of_zero_le h
  have e : PySem.intText? (numS n) = some (n : Int) := int_num (Nat.le_trans (numL_len (k := 3) (by decide) (by omega)) (by decide))
  exact ⟨e, by unfold rdI; rw [e]; rfl⟩
theorem numS_free {i : Int} {s : Nat} (h : 0 ≤ i) (hs : s < 48 ∨ 57 < s) : s ∉ tl (numS i) := by rw [numS_nat h]; exact numL_free hs
theorem kind_tl (b : Bool) : tl (kindS b) = cond b [108, 105, 118, 101] [99, 108, 105, 112] := by cases b <;> rfl
theorem kind_dec (b : Bool) : decide (kindS b = ("live" : Str)) = b := by cases b <;> decide +kernel
/-- good fields -/
structure RF (r : Row) : Prop where
  id : 0 ≤ r.id ∧ r.id ≤ 999
  len : 0 ≤ r.len ∧ r.len ≤ 999
  mo : ∀ m ∈ r.mo, 0 ≤ m ∧ m ≤ 999
theorem ROk1.rf {r : Row} (h : ROk1 r) (k : ∀ m ∈ r.mo, 0 ≤ m ∧ m ≤ 899) : RF r := by
  have := h.id; have := h.len
  exact ⟨by omega, by omega, fun m hm => by have := k m hm; omega⟩
theorem words_free {r : Row} (h : RF r) {s : Nat} (hs : s = 32 ∨ s = 10) : ∀ p ∈ wordsOf r, s ∉ tl p := by
  have hf : s < 48 ∨ 57 < s := by omega
  have hk : s ∉ tl (kindS r.live) := by rw [kind_tl]; cases r.live <;> rcases hs with rfl | rfl <;> decide
  intro p hp
  unfold wordsOf at hp
  rcases List.mem_append.mp hp with hp | hp
  · simp at hp
    rcases hp with rfl | rfl | rfl
    · exact numS_free h.id.1 hf
    · exact hk
    · exact numS_free h.len.1 hf
  · cases hm : r.mo with
    | none => rw [hm] at hp; simp at hp
    | some m =>
      rw [hm] at hp
      have : p = numS m := by simpa using hp
      subst this
      exact numS_free (h.mo m hm).1 hf
theorem words_ne {r : Row} : wordsOf r ≠ [] := by simp [wordsOf]
theorem tl_sp : tl (" " : Str) = [32] := rfl
theorem tl_nl : tl ("\n" : Str) = [10] := rfl
theorem split_line {r : Row} (h : RF r) : Txt.split (lineS r) " " = wordsOf r := split_join tl_sp (by decide +kernel) words_ne (words_free h (.inl rfl))
theorem rdW_words {r : Row} (h : RF r) : rdW (wordsOf r) = r := by
  obtain ⟨i, l, n, m⟩ := r
  unfold rdW wordsOf
  have e1 := (rdI_num h.id.1 h.id.2).2
  have e2 := (rdI_num h.len.1 h.len.2).2
  have e3 := kind_dec l
  cases m with
  | none => simp at e1 e2 ⊢; exact ⟨e1, e3, e2⟩
  | some m =>
    have e4 := (rdI_num (h.mo m rfl).1 (h.mo m rfl).2).2
    simp at e1 e2 ⊢; exact ⟨e1, e3, e2, e4⟩
theorem mem_joinL {S : List Nat} {c : Nat} : ∀ {ps : List (List Nat)}, c ∈ joinL S ps → c ∈ S ∨ ∃ p ∈ ps, c ∈ p
  | [], h => by simp [joinL] at h
  | [p], h => .inr ⟨p, by simp, h⟩
  | p :: q :: r, h => by
    rw [joinL] at h
    rcases List.mem_append.mp h with h | h
    · exact .inr ⟨p, by simp, h⟩
    · rcases List.mem_append.mp h with h | h
      · exact .inl h
      · exact (mem_joinL h).imp id fun ⟨p, hp, hc⟩ => ⟨p, by simp [hp], hc⟩
theorem tl_tjoin (y : Str) (ps : List Str) : tl (Txt.join y ps) = joinL (tl y) (ps.map tl) := by rw [join_eq, tl_join]
theorem line_free {r : Row} (h : RF r) : 10 ∉ tl (lineS r) := by
  unfold lineS
  rw [tl_tjoin]
  intro z
  rcases mem_joinL z with z | ⟨p, hp, hc⟩
  · rw [tl_sp] at z; simp at z
  · obtain ⟨w, hw, rfl⟩ := List.mem_map.mp hp
    exact words_free h (.inr rfl) w hw hc
theorem split_text {rs : List Row} (hne : rs ≠ []) (h : ∀ r ∈ rs, RF r) : Txt.split (textS rs) "\n" = rs.map lineS :=
  split_join tl_nl (by decide +kernel) (by simpa using hne) fun p hp => by obtain ⟨r, hr, rfl⟩ := List.mem_map.mp hp; exact line_free (h r hr)
theorem joinL_len {S : List Nat} : ∀ {ps : List (List Nat)}, (joinL S ps).length ≤ (ps.map List.length).sum + ps.length * S.length
  | [] => by simp [joinL]
  | [p] => by simp [joinL]
  | p :: q :: r => by
    have := joinL_len (S := S) (ps := q :: r)
    rw [joinL]
    simp only [List.length_append, List.map_cons, List.sum_cons, List.length_cons, Nat.add_mul, Nat.one_mul] at this ⊢
    omega
theorem words_len {r : Row} (h : RF r) : ((wordsOf r).map (·.length)).sum ≤ 13 ∧ (wordsOf r).length ≤ 4 := by
  have a := (numS_len h.id.1 h.id.2).2
  have b := (numS_len h.len.1 h.len.2).2
  have c : (kindS r.live).length = 4 := by cases r.live <;> rfl
  unfold wordsOf
  cases hm : r.mo with
  | none => simp; omega
  | some m => have d := (numS_len (h.mo m hm).1 (h.mo m hm).2).2; simp; omega
theorem line_len {r : Row} (h : RF r) : (lineS r).length ≤ 17 := by
  have hw := words_len h
  unfold lineS
  rw [len_tl, tl_tjoin]
  refine Nat.le_trans joinL_len ?_
  rw [List.map_map, List.length_map, tl_sp]
  have e : (wordsOf r).map (List.length ∘ tl) = (wordsOf r).map (·.length) := List.map_congr_left fun x _ => (len_tl x).symm
  rw [e]
  simp; omega
theorem sum_lines {rs : List Row} (h : ∀ r ∈ rs, RF r) : ((rs.map lineS).map (·.length)).sum ≤ 17 * rs.length := by
  induction rs with
  | nil => simp
  | cons r rs ih =>
    have := ih fun x hx => h x (by simp [hx])
    have := line_len (h r (by simp))
    simp only [List.map_cons, List.sum_cons, List.length_cons]; omega
theorem text_len {rs : List Row} (h : ∀ r ∈ rs, RF r) : (textS rs).length ≤ 18 * rs.length := by
  have hs := sum_lines h
  unfold textS
  rw [len_tl, tl_tjoin]
  refine Nat.le_trans joinL_len ?_
  rw [List.map_map, List.length_map, List.length_map, tl_nl]
  have e : (rs.map lineS).map (List.length ∘ tl) = (rs.map lineS).map (·.length) := List.map_congr_left fun x _ => (len_tl x).symm
  rw [e]
  simp at hs ⊢; omega
theorem line_ne {r : Row} : tl (lineS r) ≠ [] := by
  unfold lineS wordsOf
  rw [tl_tjoin]
  simp only [List.cons_append, List.map_cons, joinL]
  rw [tl_sp]; simp
theorem text_ne {rs : List Row} (hne : rs ≠ []) : textS rs ≠ "" := by
  intro z
  have z : tl (textS rs) = [] := by rw [z]; rfl
  unfold textS at z
  rw [tl_tjoin] at z
  cases rs with
  | nil => exact hne rfl
  | cons r rs =>
    cases rs with
    | nil => exact line_ne z
    | cons q rs => simp only [List.map_cons, joinL] at z; exact line_ne (List.append_eq_nil_iff.mp z).1
theorem rdT_text {rs : List Row} (h : ∀ r ∈ rs, RF r) : rdT (textS rs) = rs := by
  unfold rdT
  by_cases hne : rs = []
  · subst hne; exact if_pos rfl
  · rw [if_neg (text_ne hne), split_text hne h, List.map_map]
    have : rs.map ((fun l => rdW (Txt.split l " ")) ∘ lineS) = rs.map id := List.map_congr_left fun r hr => by
      show rdW (Txt.split (lineS r) " ") = r
      rw [split_line (h r hr), rdW_words (h r hr)]
    rw [this, List.map_id]
theorem strOk_tl {s : Str} : PyData.strOk s = true ↔ ∀ c ∈ tl s, c < 0x110000 := by
  unfold PyData.strOk
  rw [Array.all_eq_true_iff_forall_mem]
  simp [tl]
theorem kind_lt : ∀ (b : Bool) (c : Nat), c ∈ cond b [108, 105, 118, 101] [99, 108, 105, 112] → c < 0x110000 := by
  intro b c h
  cases b <;> simp at h <;> omega
theorem text_ok {rs : List Row} (h : ∀ r ∈ rs, RF r) : PyData.strOk (textS rs) = true := by
  rw [strOk_tl]
  intro c hc
  unfold textS at hc
  rw [tl_tjoin] at hc
  rcases mem_joinL hc with z | ⟨p, hp, hc⟩
  · rw [tl_nl] at z; simp at z; omega
  · rw [List.map_map] at hp
    obtain ⟨r, hr, rfl⟩ := List.mem_map.mp hp
    have hc : c ∈ tl (lineS r) := hc
    unfold lineS at hc
    rw [tl_tjoin] at hc
    rcases mem_joinL hc with z | ⟨p, hp, hc⟩
    · rw [tl_sp] at z; simp at z; omega
    · obtain ⟨w, hw, rfl⟩ := List.mem_map.mp hp
      have dig : ∀ i : Int, 0 ≤ i → c ∈ tl (numS i) → c < 0x110000 := fun i hi hc => by
        rw [numS_nat hi] at hc
        have := numL_digits _ c hc
        omega
      have hR := h r hr
      unfold wordsOf at hw
      rcases List.mem_append.mp hw with hw | hw
      · simp at hw
        rcases hw with rfl | rfl | rfl
        · exact dig _ hR.id.1 hc
        · rw [kind_tl] at hc; exact kind_lt _ _ hc
        · exact dig _ hR.len.1 hc
      · cases hm : r.mo with
        | none => rw [hm] at hw; simp at hw
        | some m =>
          rw [hm] at hw
          have : w = numS m := by simpa using hw
          subst this
          exact dig _ (hR.mo m hm).1 hc
end K13
set_option maxHeartbeats 4000000
namespace K13
open PySem L2 DL
def top (i : Nat) : Stmt := PySem.Challenge.pw_airtime_k13_written_and_read.main.body.getD i (.Pass ⟨0, 0, 0, 0⟩)
structure Bi (mg : Str → Option Value) : Prop where
  b_bool : mg "bool" = none
  b_enumerate : mg "enumerate" = none
  b_int : mg "int" = none
  b_isinstance : mg "isinstance" = none
  b_len : mg "len" = none
  b_list : mg "list" = none
  b_max : mg "max" = none
  b_range : mg "range" = none
  b_set : mg "set" = none
  b_sorted : mg "sorted" = none
  b_str : mg "str" = none
  b_tuple : mg "tuple" = none
  c_CLIP : ∃ t, mg "CLIP" = some (.str "clip" t)
  c_FIGURES : ∃ t, mg "FIGURES" = some (.str "0123456789" t)
  c_LAST_MOMENT : ∃ t, mg "LAST_MOMENT" = some (.int 899 t)
  c_LIVE : ∃ t, mg "LIVE" = some (.str "live" t)
  c_MOST_END : ∃ t, mg "MOST_END" = some (.int 900 t)
  c_MOST_FIGURES : ∃ t, mg "MOST_FIGURES" = some (.int 3 t)
  c_MOST_ID : ∃ t, mg "MOST_ID" = some (.int 99 t)
  c_MOST_LENGTH : ∃ t, mg "MOST_LENGTH" = some (.int 120 t)
  c_MOST_ROWS : ∃ t, mg "MOST_ROWS" = some (.int 30 t)
section
variable {P : Program} {w : World} {K : PySem.W.Frag} {mg : Str → Option Value} {base : Heap}
abbrev s_is_number : Stmt := top 11
abbrev n_is_number : List Str := ["part", "low", "high"]
theorem sc_is_number : FnScope n_is_number ["part", "low", "high"] (defScope s_is_number) := ⟨rfl, rfl, rfl, by decide +kernel, rfl, by decide +kernel, by decide +kernel⟩
/-- 0 part 1 low 2 high -/
def w_is_number : WS := (sRetF (pAnd (pIsi "int" (pDr (pVar 0))) (pAnd (pNot (pIsi "bool" (pDr (pVar 0)))) (pChain (fun i j => decide (i ≤ j)) (fun i j => decide (i ≤ j)) (pDr (pVar 1)) (pDr (pVar 0)) (pDr (pVar 2))))))
theorem d_is_number {f : Addr} {cdv : Value} {A : Around} {outer : List Env} {s : Shared} {H : Hp} {E : XK} (B : Bi mg) (hr : Room 0 (A.deeper (PyProof.Rows.envOfC "is_number" (defScope s_is_number) s.heap.objs.size f cdv))) :
    DSs (cxOf (L2.CX P w) P w K mg base n_is_number "is_number" (defScope s_is_number) f cdv A outer s H E) E0 true (defBody s_is_number) w_is_number := by
  exact (dss_one (ds_retF (dp_and (c := .frs) (dp_isi (c := .any) kit_int (by rfl) B.b_isinstance (by rfl) B.b_int (by decide +kernel) (dp_dr (dp_va 0))) (dp_and (c := .any) (dp_not (c := .any) (dp_isi (c := .any) kit_bool (by rfl) B.b_isinstance (by rfl) B.b_bool (by decide +kernel) (dp_dr (dp_va 0)))) (dp_one (c := .any) (dp_chain (c := .any) (p := fun i j => decide (i ≤ j)) (p' := fun i j => decide (i ≤ j)) op_le op_le (dp_dr (dp_va 1)) (dp_dr (dp_va 0)) (dp_dr (dp_va 2)) (pe_chain op_le op_le (dp_dr (dp_va 1)) (dp_dr (dp_va 0)) (dp_dr (dp_va 2)))))))))
abbrev s_is_row : Stmt := top 12
abbrev n_is_row : List Str := ["row"]
theorem sc_is_row : FnScope n_is_row ["row"] (defScope s_is_row) := ⟨rfl, rfl, rfl, by decide +kernel, rfl, by decide +kernel, by decide +kernel⟩
/-- 0 row -/
def w_is_row : WS := (sSeq (sIf (wT (tOr2 (tNot1 (tOf (pIsi "tuple" (pDr (pVar 0))))) (tOr2 (tc2 (neT 8) (p1 lenD (pDr (pVar 0))) (pInt 4)) (tc2 (inT true) (p2 ixQ (pDr (pVar 0)) (pInt 1)) (pTup (aCons (pStr "clip") (aCons (pStr "live") aNil))))))) (sRetF (pBl false)) sNext)
    (sSeq (sIf (wT (tOr2 (tNot1 (tOf (pCall 3 ph_is_number (aCons (p2 ixQ (pDr (pVar 0)) (pInt 0)) (aCons (pInt 0) (aCons (pInt 99) aNil)))))) (tNot1 (tOf (pCall 3 ph_is_number (aCons (p2 ixQ (pDr (pVar 0)) (pInt 2)) (aCons (pInt 1) (aCons (pInt 120) aNil)))))))) (sRetF (pBl false)) sNext)
    (sRetF (pOr (pIsN (p2 ixQ (pDr (pVar 0)) (pInt 3))) (pCall 3 ph_is_number (aCons (p2 ixQ (pDr (pVar 0)) (pInt 3)) (aCons (pInt 0) (aCons (pInt 900) aNil))))))))
theorem d_is_row {f : Addr} {cdv : Value} {A : Around} {outer : List Env} {s : Shared} {H : Hp} {E : XK} (B : Bi mg) (hr : Room 1 (A.deeper (PyProof.Rows.envOfC "is_row" (defScope s_is_row) s.heap.objs.size f cdv))) (h_is_number : Has P w K mg base "is_number" 1 ["part", "low", "high"] (spP 3 ph_is_number)) :
    DSs (cxOf (L2.CX P w) P w K mg base n_is_row "is_row" (defScope s_is_row) f cdv A outer s H E) E0 true (defBody s_is_row) w_is_row := by
  exact (dss_cons (ds_if (dte_t (DW.dt (dw_or (dt_not (dt_val (dp_isi (c := .any) kit_tuple (by rfl) B.b_isinstance (by rfl) B.b_tuple (by decide +kernel) (dp_dr (dp_va 0))))) (dw_or (dt_ne hr.units (dp_len (c := .any) (by rfl) B.b_len (dp_dr (dp_va 0))) (dp_int (c := .any))) (dw_or1 (dt_notIn (dp_ix (c := .any) (dp_dr (dp_va 0)) (dp_int (c := .any))) (dp_tup (c := .any) (da_cons (dp_gstr (c := .any) (by rfl) B.c_CLIP) (da_cons (dp_gstr (c := .any) (by rfl) B.c_LIVE) (da_nil (c := .any))))))))))) (dss_one (ds_retF (dp_bl (c := .frs)))) dss_nil)
    (dss_cons (ds_if (dte_t (DW.dt (dw_or (dt_not (dt_val (dp_call (c := .any) h_is_number (hr.mono (by decide)) (by rfl) (da_cons (dp_ix (c := .any) (dp_dr (dp_va 0)) (dp_int (c := .any))) (da_cons (dp_int (c := .any)) (da_cons (dp_gint (c := .any) (by rfl) B.c_MOST_ID) (da_nil (c := .any)))))))) (dw_or1 (dt_not (dt_val (dp_call (c := .any) h_is_number (hr.mono (by decide)) (by rfl) (da_cons (dp_ix (c := .any) (dp_dr (dp_va 0)) (dp_int (c := .any))) (da_cons (dp_int (c := .any)) (da_cons (dp_gint (c := .any) (by rfl) B.c_MOST_LENGTH) (da_nil (c := .any)))))))))))) (dss_one (ds_retF (dp_bl (c := .frs)))) dss_nil)
    (dss_one (ds_retF (dp_or (c := .frs) (dp_isN (c := .any) (dp_ix (c := .any) (dp_dr (dp_va 0)) (dp_int (c := .any)))) (dp_one (c := .any) (dp_call (c := .any) h_is_number (hr.mono (by decide)) (by rfl) (da_cons (dp_ix (c := .any) (dp_dr (dp_va 0)) (dp_int (c := .any))) (da_cons (dp_int (c := .any)) (da_cons (dp_gint (c := .any) (by rfl) B.c_MOST_END) (da_nil (c := .any))))))))))))
abbrev s_need_rows : Stmt := top 13
abbrev n_need_rows : List Str := ["rows", "begin", "end", "ids", "least", "at", "row"]
theorem sc_need_rows : FnScope n_need_rows ["rows", "begin", "end"] (defScope s_need_rows) := ⟨rfl, rfl, rfl, by decide +kernel, rfl, by decide +kernel, by decide +kernel⟩
/-- 0 rows 1 begin 2 end 3 ids 4 least 5 at 6 row -/
def w_need_rows : WS := (sSeq (sSetM 3 (pLst aNil))
    (sSeq (sSet 4 (wP (pVar 1)))
    (sFor (wA (iR1 (p1 lenD (pDr (pVar 0))))) (gN 5) (sSeq (sSet 6 (wP (pLf (p2 ixQ (pDr (pVar 0)) (pDr (pVar 5))))))
    (sSeq (sIf (wT (tOr2 (tc2 cGe (pDr (pVar 5)) (pInt 30)) (tOr2 (tNot1 (tOf (pCall 1 ph_is_row (aCons (pDr (pVar 6)) aNil)))) (tc2 (inT false) (p2 ixQ (pDr (pVar 6)) (pInt 0)) (pDr (pVar 3)))))) (fun _ _ _ => False) sNext)
    (sSeq (sIf (wT (tNotN (p2 ixQ (pDr (pVar 6)) (pInt 3)))) (sSeq (sIf (wT (tNot1 (tChn (fun i j => decide (i ≤ j)) (fun i j => decide (i < j)) (pDr (pVar 4)) (p2 ixQ (pDr (pVar 6)) (pInt 3)) (pDr (pVar 2))))) (fun _ _ _ => False) sNext)
    (sSet 4 (wP (p2 bAddI (p2 ixQ (pDr (pVar 6)) (pInt 3)) (pInt 1))))) sNext)
    (sApp (lV 3) (pLf (p2 ixQ (pDr (pVar 6)) (pInt 0))))))))))
theorem d_need_rows {f : Addr} {cdv : Value} {A : Around} {outer : List Env} {s : Shared} {H : Hp} {E : XK} (B : Bi mg) (hr : Room 2 (A.deeper (PyProof.Rows.envOfC "need_rows" (defScope s_need_rows) s.heap.objs.size f cdv))) (h_is_row : Has P w K mg base "is_row" 2 ["row"] (spP 1 ph_is_row)) :
    DSs (cxOf (L2.CX P w) P w K mg base n_need_rows "need_rows" (defScope s_need_rows) f cdv A outer s H E) E0 true (defBody s_need_rows) w_need_rows := by
  exact (dss_cons (ds_setM (i := 3) sc_need_rows.nd rfl (by first | exact Or.inl rfl | exact Or.inr rfl) (dp_lst (c := .frs) (da_nil (c := .frs))))
    (dss_cons (ds_set (i := 4) sc_need_rows.nd rfl (by first | exact Or.inl rfl | exact Or.inr rfl) (de_p (dp_vc 1)))
    (dss_one (ds_for (passes_of rfl) rfl (die_p (di_range1 (c := .cln) (by rfl) B.b_range (dp_len (c := .any) (by rfl) B.b_len (dp_dr (dp_va 0))))) (dg_name (i := 5) sc_need_rows.nd rfl (by first | exact Or.inl rfl | exact Or.inr rfl)) (dss_cons (ds_set (i := 6) sc_need_rows.nd rfl (by first | exact Or.inl rfl | exact Or.inr rfl) (de_p (dp_lf (c := .cln) (dp_ix (dp_dr (dp_va 0)) (dp_dr (dp_va 5))))))
    (dss_cons (ds_if (dte_t (DW.dt (dw_or (dt_ge (dp_dr (dp_va 5)) (dp_gint (c := .any) (by rfl) B.c_MOST_ROWS)) (dw_or (dt_not (dt_val (dp_call (c := .any) h_is_row (hr.mono (by decide)) (by rfl) (da_cons (dp_dr (dp_va 6)) (da_nil (c := .any)))))) (dw_or1 (dt_in (dp_ix (c := .any) (dp_dr (dp_va 6)) (dp_int (c := .any))) (dp_dr (dp_va 3)))))))) (dss_one ds_never) dss_nil)
    (dss_cons (ds_if (dte_t (dt_notN (dp_ix (c := .any) (dp_dr (dp_va 6)) (dp_int (c := .any))))) (dss_cons (ds_if (dte_t (dt_not (dt_chain (p := fun i j => decide (i ≤ j)) (p' := fun i j => decide (i < j)) op_le op_lt (dp_dr (dp_va 4)) (dp_ix (c := .any) (dp_dr (dp_va 6)) (dp_int (c := .any))) (dp_dr (dp_va 2))))) (dss_one ds_never) dss_nil)
    (dss_one (ds_set (i := 4) sc_need_rows.nd rfl (by first | exact Or.inl rfl | exact Or.inr rfl) (de_p (dp_addI (c := .cln) (dp_ix (c := .any) (dp_dr (dp_va 6)) (dp_int (c := .any))) (dp_int (c := .any))))))) dss_nil)
    (dss_one (ds_app (pl_var 3) (dp_lf (c := .frs) (dp_ix (dp_dr (dp_va 6)) (dp_int (c := .any)))) (hbm := pe_bm PySem.F.plainAttrs_list PySem.F.slot_list_append PySem.F.type_list_append mt_append (pl_var 3) (pa_cons (dp_lf (c := .frs) (dp_ix (dp_dr (dp_va 6)) (dp_int (c := .any)))) pa_nil)))))))))))
abbrev s_written : Stmt := top 18
abbrev n_written : List Str := ["rows", "found", "number", "kind", "length", "moment", "words"]
theorem sc_written : FnScope n_written ["rows"] (defScope s_written) := ⟨rfl, rfl, rfl, by decide +kernel, rfl, by decide +kernel, by decide +kernel⟩
/-- 0 rows 1 found 2 number 3 kind 4 length 5 moment 6 words -/
def w_written : WS := (sSeq (sDrop (wP (pCall 3 ph_need_rows (aCons (pDr (pVar 0)) (aCons (pInt 0) (aCons (p2 bAddI (pInt 899) (pInt 1)) aNil))))))
    (sSeq (sSetM 1 (pLst aNil))
    (sSeq (sFor (wA (iL (pVar 0))) (gT 4 (gC (gN 2) (gC (gN 3) (gC (gN 4) (gC (gN 5) gNl))))) (sSeq (sSet 6 (wP (p2 catL (pLst (aCons (p1 strD (pDr (pVar 2))) (aCons (pVar 3) (aCons (p1 strD (pDr (pVar 4))) aNil)))) (pIf (tNotN (pDr (pVar 5))) (pLst (aCons (p1 strD (pDr (pVar 5))) aNil)) (pLst aNil)))))
    (sApp (lV 1) (p2 joinD (pStr " ") (pDr (pVar 6))))))
    (sRetF (p2 joinD (pStr "\n") (pDr (pVar 1)))))))
theorem d_written {f : Addr} {cdv : Value} {A : Around} {outer : List Env} {s : Shared} {H : Hp} {E : XK} (B : Bi mg) (hr : Room 3 (A.deeper (PyProof.Rows.envOfC "written" (defScope s_written) s.heap.objs.size f cdv))) (h_need_rows : Has P w K mg base "need_rows" 3 ["rows", "begin", "end"] (spP 3 ph_need_rows)) :
    DSs (cxOf (L2.CX P w) P w K mg base n_written "written" (defScope s_written) f cdv A outer s H E) E0 true (defBody s_written) w_written := by
  exact (dss_cons (ds_expr (de_p (dp_call (c := .cln) h_need_rows (hr.mono (by decide)) (by rfl) (da_cons (dp_dr (dp_va 0)) (da_cons (dp_int (c := .any)) (da_cons (dp_addI (c := .any) (dp_gint (c := .any) (by rfl) B.c_LAST_MOMENT) (dp_int (c := .any))) (da_nil (c := .any))))))))
    (dss_cons (ds_setM (i := 1) sc_written.nd rfl (by first | exact Or.inl rfl | exact Or.inr rfl) (dp_lst (c := .frs) (da_nil (c := .frs))))
    (dss_cons (ds_for (passes_of rfl) rfl (die_p (di_list (dp_vc 0))) (dg_tup (n := 4) rfl (dgs_cons (dg_name (i := 2) sc_written.nd rfl (by first | exact Or.inl rfl | exact Or.inr rfl)) (dgs_cons (dg_name (i := 3) sc_written.nd rfl (by first | exact Or.inl rfl | exact Or.inr rfl)) (dgs_cons (dg_name (i := 4) sc_written.nd rfl (by first | exact Or.inl rfl | exact Or.inr rfl)) (dgs_cons (dg_name (i := 5) sc_written.nd rfl (by first | exact Or.inl rfl | exact Or.inr rfl)) dgs_nil))))) (dss_cons (ds_set (i := 6) sc_written.nd rfl (by first | exact Or.inl rfl | exact Or.inr rfl) (de_p (dp_cat (c := .cln) (dp_lst (c := .cln) (da_cons (dp_strI (c := .cln) (by rfl) B.b_str (dp_dr (dp_va 2))) (da_cons (dp_vc 3) (da_cons (dp_strI (c := .cln) (by rfl) B.b_str (dp_dr (dp_va 4))) (da_nil (c := .cln)))))) (dp_if (c := .cln) (dt_notN (dp_dr (dp_va 5))) (dp_lst (c := .cln) (da_cons (dp_strI (c := .cln) (by rfl) B.b_str (dp_dr (dp_va 5))) (da_nil (c := .cln)))) (dp_lst (c := .cln) (da_nil (c := .cln)))))))
    (dss_one (ds_app (pl_var 1) (dp_join (c := .frs) (dp_str (c := .any)) (dp_dr (dp_va 6))) (hbm := pe_bm PySem.F.plainAttrs_list PySem.F.slot_list_append PySem.F.type_list_append mt_append (pl_var 1) (pa_cons (dp_join (c := .frs) (dp_str (c := .any)) (dp_dr (dp_va 6))) pa_nil))))))
    (dss_one (ds_retF (dp_join (c := .frs) (dp_str (c := .any)) (dp_dr (dp_va 1))))))))
abbrev s_number_of : Stmt := top 19
abbrev n_number_of : List Str := ["word", "sign"]
theorem sc_number_of : FnScope n_number_of ["word"] (defScope s_number_of) := ⟨rfl, rfl, rfl, by decide +kernel, rfl, by decide +kernel, by decide +kernel⟩
/-- 0 word 1 sign -/
def w_number_of : WS := (sSeq (sIf (wT (tOr2 (tNot1 (tChn (fun i j => decide (i ≤ j)) (fun i j => decide (i ≤ j)) (pInt 1) (p1 lenD (pDr (pVar 0))) (pInt 3))) (tc2 (neT 8) (pLc (iS (pDr (pVar 0))) (gN 1) (tc2 (sinT true) (pDr (pVar 1)) (pStr "0123456789")) (pVar 1) [1]) (pLst aNil)))) (sRetF pNon) sNext)
    (sRetF (pIf (tAnd2 (tc2 (eqT 8) (p2 ixS (pDr (pVar 0)) (pInt 0)) (pStr "0")) (tc2 (neT 8) (pDr (pVar 0)) (pStr "0"))) pNon (p1 intSD (pDr (pVar 0))))))
theorem d_number_of {f : Addr} {cdv : Value} {A : Around} {outer : List Env} {s : Shared} {H : Hp} {E : XK} (B : Bi mg) (hr : Room 0 (A.deeper (PyProof.Rows.envOfC "number_of" (defScope s_number_of) s.heap.objs.size f cdv))) :
    DSs (cxOf (L2.CX P w) P w K mg base n_number_of "number_of" (defScope s_number_of) f cdv A outer s H E) E0 true (defBody s_number_of) w_number_of := by
  exact (dss_cons (ds_if (dte_t (DW.dt (dw_or (dt_not (dt_chain (p := fun i j => decide (i ≤ j)) (p' := fun i j => decide (i ≤ j)) op_le op_le (dp_int (c := .any)) (dp_len (c := .any) (by rfl) B.b_len (dp_dr (dp_va 0))) (dp_gint (c := .any) (by rfl) B.c_MOST_FIGURES))) (dw_or1 (dt_ne hr.units (dp_lcA (own := [("sign", 1)]) rfl sc_number_of.nd (di_str (c := .any) (dp_dr (dp_va 0))) (blkOk_by (own := [("sign", 1)]) (N := n_number_of) (sc := defScope s_number_of) (by decide +kernel)) (by decide) (fun _ _ _ _ _ => (dg_name (i := 1) sc_number_of.nd rfl (by first | exact Or.inl rfl | exact Or.inr rfl))) (fun _ _ _ _ _ => (dts_one (dt_notInS (dp_dr (dp_va 1)) (dp_gstr (c := .any) (by rfl) B.c_FIGURES)))) (fun _ _ _ _ _ => (dp_vc 1))) (dp_lst (c := .any) (da_nil (c := .any)))))))) (dss_one (ds_retF (dp_non (c := .frs)))) dss_nil)
    (dss_one (ds_retF (dp_if (c := .frs) (DW.dt (dw_and (dt_eq hr.units (dp_ixS (c := .any) (dp_dr (dp_va 0)) (dp_int (c := .any))) (dp_str (c := .any))) (dw_and1 (dt_ne hr.units (dp_dr (dp_va 0)) (dp_str (c := .any)))))) (dp_non (c := .frs)) (dp_intS (c := .frs) (by rfl) B.b_int (dp_dr (dp_va 0)))))))
abbrev s_row_of : Stmt := top 20
abbrev n_row_of : List Str := ["words", "numbers", "moment", "row", "word"]
theorem sc_row_of : FnScope n_row_of ["words"] (defScope s_row_of) := ⟨rfl, rfl, rfl, by decide +kernel, rfl, by decide +kernel, by decide +kernel⟩
/-- 0 words 1 numbers 2 moment 3 row 4 word -/
def w_row_of : WS := (sSeq (sIf (wT (tOr2 (tc2 (inT true) (p1 lenD (pDr (pVar 0))) (pTup (aCons (pInt 3) (aCons (pInt 4) aNil)))) (tc2 (inT true) (p2 ixQ (pDr (pVar 0)) (pInt 1)) (pTup (aCons (pStr "clip") (aCons (pStr "live") aNil)))))) (sRetF pNon) sNext)
    (sSeq (sSet 1 (wP (pLc (iL (p2 catL (pLst (aCons (pLf (p2 ixQ (pDr (pVar 0)) (pInt 0))) aNil)) (pSl (pVar 0) (sfS (pInt 2)) sfN))) (gN 4) tYesF (pCall 1 ph_number_of (aCons (pDr (pVar 4)) aNil)) [4])))
    (sSeq (sIf (wT (tc2 (inT false) pNon (pDr (pVar 1)))) (sRetF pNon) sNext)
    (sSeq (sSet 2 (wP (pIf (tc2 (eqT 8) (p1 lenD (pDr (pVar 1))) (pInt 3)) (pLf (p2 ixQ (pDr (pVar 1)) (pInt 2))) pNon)))
    (sSeq (sSet 3 (wP (pTup (aCons (pLf (p2 ixQ (pDr (pVar 1)) (pInt 0))) (aCons (pLf (p2 ixQ (pDr (pVar 0)) (pInt 1))) (aCons (pLf (p2 ixQ (pDr (pVar 1)) (pInt 1))) (aCons (pVar 2) aNil)))))))
    (sRetF (pIf (tAnd2 (tOf (pCall 1 ph_is_row (aCons (pDr (pVar 3)) aNil))) (tOr2 (tIsN (pDr (pVar 2))) (tc2 cLe (pDr (pVar 2)) (pInt 899)))) (pLf (pVar 3)) pNon)))))))
theorem d_row_of {f : Addr} {cdv : Value} {A : Around} {outer : List Env} {s : Shared} {H : Hp} {E : XK} (B : Bi mg) (hr : Room 2 (A.deeper (PyProof.Rows.envOfC "row_of" (defScope s_row_of) s.heap.objs.size f cdv))) (h_number_of : Has P w K mg base "number_of" 1 ["word"] (spP 1 ph_number_of)) (h_is_row : Has P w K mg base "is_row" 2 ["row"] (spP 1 ph_is_row)) :
    DSs (cxOf (L2.CX P w) P w K mg base n_row_of "row_of" (defScope s_row_of) f cdv A outer s H E) E0 true (defBody s_row_of) w_row_of := by
  exact (dss_cons (ds_if (dte_t (DW.dt (dw_or (dt_notIn (dp_len (c := .any) (by rfl) B.b_len (dp_dr (dp_va 0))) (dp_tup (c := .any) (da_cons (dp_int (c := .any)) (da_cons (dp_int (c := .any)) (da_nil (c := .any)))))) (dw_or1 (dt_notIn (dp_ix (c := .any) (dp_dr (dp_va 0)) (dp_int (c := .any))) (dp_tup (c := .any) (da_cons (dp_gstr (c := .any) (by rfl) B.c_CLIP) (da_cons (dp_gstr (c := .any) (by rfl) B.c_LIVE) (da_nil (c := .any)))))))))) (dss_one (ds_retF (dp_non (c := .frs)))) dss_nil)
    (dss_cons (ds_setLc_ (ps_setLc (i := 1) (own := [("word", 4)]) rfl sc_row_of.nd rfl rfl (sw_true rfl rfl rfl (by decide +kernel)) (di_list (dp_cat (c := .cln) (dp_lst (c := .cln) (da_cons (dp_lf (c := .cln) (dp_ix (dp_dr (dp_va 0)) (dp_int (c := .any)))) (da_nil (c := .cln)))) (dp_sl (c := .cln) (dp_vc 0) (do_some (dp_int (c := .any))) do_none))) (blkOk_by (own := [("word", 4)]) (N := n_row_of) (sc := defScope s_row_of) (by decide +kernel)) (fun _ _ _ _ _ => (dg_name (i := 4) sc_row_of.nd rfl (by first | exact Or.inl rfl | exact Or.inr rfl))) (fun _ _ _ _ _ => dts_nil) (fun _ _ _ _ _ => (dp_call (c := .cln) h_number_of (hr.mono (by decide)) (by rfl) (da_cons (dp_dr (dp_va 4)) (da_nil (c := .any)))))) (lcC_rd (fun z => nomatch z) (by decide)))
    (dss_cons (ds_if (dte_t (dt_in (dp_non (c := .any)) (dp_dr (dp_va 1)))) (dss_one (ds_retF (dp_non (c := .frs)))) dss_nil)
    (dss_cons (ds_set (i := 2) sc_row_of.nd rfl (by first | exact Or.inl rfl | exact Or.inr rfl) (de_p (dp_if (c := .cln) (dt_eq hr.units (dp_len (c := .any) (by rfl) B.b_len (dp_dr (dp_va 1))) (dp_int (c := .any))) (dp_lf (c := .cln) (dp_ix (dp_dr (dp_va 1)) (dp_int (c := .any)))) (dp_non (c := .cln)))))
    (dss_cons (ds_set (i := 3) sc_row_of.nd rfl (by first | exact Or.inl rfl | exact Or.inr rfl) (de_p (dp_tup (c := .cln) (da_cons (dp_lf (c := .cln) (dp_ix (dp_dr (dp_va 1)) (dp_int (c := .any)))) (da_cons (dp_lf (c := .cln) (dp_ix (dp_dr (dp_va 0)) (dp_int (c := .any)))) (da_cons (dp_lf (c := .cln) (dp_ix (dp_dr (dp_va 1)) (dp_int (c := .any)))) (da_cons (dp_vc 2) (da_nil (c := .cln)))))))))
    (dss_one (ds_retF (dp_if (c := .frs) (DW.dt (dw_and (dt_val (dp_call (c := .any) h_is_row (hr.mono (by decide)) (by rfl) (da_cons (dp_dr (dp_va 3)) (da_nil (c := .any))))) (dw_and1 (DW.dt (dw_or (dt_isN (dp_dr (dp_va 2))) (dw_or1 (dt_le (dp_dr (dp_va 2)) (dp_gint (c := .any) (by rfl) B.c_LAST_MOMENT)))))))) (dp_lf (c := .frs) (dp_va 3)) (dp_non (c := .frs))))))))))
abbrev s_read : Stmt := top 21
abbrev n_read : List Str := ["text", "found", "line", "row", "one"]
theorem sc_read : FnScope n_read ["text"] (defScope s_read) := ⟨rfl, rfl, rfl, by decide +kernel, rfl, by decide +kernel, by decide +kernel⟩
/-- 0 text 1 found 2 line 3 row 4 one -/
def w_read : WS := (sSeq (sSetM 1 (pLst aNil))
    (sSeq (sFor (wA (iE (pIf (tc2 (neT 8) (pDr (pVar 0)) (pStr "")) (p2 splitD (pDr (pVar 0)) (pStr "\n")) (pLst aNil)))) (gT 2 (gC (gN 2) (gC (gN 3) gNl))) (sSeq (sSet 4 (wP (pCall 1 ph_row_of (aCons (p2 splitD (pDr (pVar 3)) (pStr " ")) aNil))))
    (sSeq (sIf (wT (tIsN (pDr (pVar 4)))) (fun _ _ _ => False) sNext)
    (sApp (lV 1) (pLf (pVar 4))))))
    (sRetF (pLf (pVar 1)))))
theorem d_read {f : Addr} {cdv : Value} {A : Around} {outer : List Env} {s : Shared} {H : Hp} {E : XK} (B : Bi mg) (hr : Room 3 (A.deeper (PyProof.Rows.envOfC "read" (defScope s_read) s.heap.objs.size f cdv))) (h_row_of : Has P w K mg base "row_of" 3 ["words"] (spP 1 ph_row_of)) :
    DSs (cxOf (L2.CX P w) P w K mg base n_read "read" (defScope s_read) f cdv A outer s H E) E0 true (defBody s_read) w_read := by
  exact (dss_cons (ds_setM (i := 1) sc_read.nd rfl (by first | exact Or.inl rfl | exact Or.inr rfl) (dp_lst (c := .frs) (da_nil (c := .frs))))
    (dss_cons (ds_for (passes_of rfl) rfl (die_p (di_enum (c := .cln) (by rfl) B.b_enumerate (dp_if (c := .cln) (dt_ne hr.units (dp_dr (dp_va 0)) (dp_str (c := .any))) (dp_split (c := .cln) (dp_dr (dp_va 0)) (dp_str (c := .any))) (dp_lst (c := .cln) (da_nil (c := .cln)))))) (dg_tup (n := 2) rfl (dgs_cons (dg_name (i := 2) sc_read.nd rfl (by first | exact Or.inl rfl | exact Or.inr rfl)) (dgs_cons (dg_name (i := 3) sc_read.nd rfl (by first | exact Or.inl rfl | exact Or.inr rfl)) dgs_nil))) (dss_cons (ds_set (i := 4) sc_read.nd rfl (by first | exact Or.inl rfl | exact Or.inr rfl) (de_p (dp_call (c := .cln) h_row_of (hr.mono (by decide)) (by rfl) (da_cons (dp_split (c := .any) (dp_dr (dp_va 3)) (dp_str (c := .any))) (da_nil (c := .any))))))
    (dss_cons (ds_if (dte_t (dt_isN (dp_dr (dp_va 4)))) (dss_one ds_never) dss_nil)
    (dss_one (ds_app (pl_var 1) (dp_lf (c := .frs) (dp_va 4)) (hbm := pe_bm PySem.F.plainAttrs_list PySem.F.slot_list_append PySem.F.type_list_append mt_append (pl_var 1) (pa_cons (dp_lf (c := .frs) (dp_va 4)) pa_nil)))))))
    (dss_one (ds_retF (dp_lf (c := .frs) (dp_va 1))))))
abbrev s_law_next : Stmt := top 24
abbrev n_law_next : List Str := ["_law_h", "_law_many", "_law_at", "_law_cell"]
theorem sc_law_next : FnScope n_law_next ["_law_h", "_law_many"] (defScope s_law_next) := ⟨rfl, rfl, rfl, by decide +kernel, rfl, by decide +kernel, by decide +kernel⟩
/-- 0 _law_h 1 _law_many 2 _law_at 3 _law_cell -/
def w_law_next : WS := (sSeq (sSet 2 (wP (p2 bMod (p2 ixQ (pDr (pVar 0)) (pInt 2)) (p2 bMax2 (pInt 1) (p1 lenD (p2 ixQ (pDr (pVar 0)) (pInt 1)))))))
    (sSeq (sSet 3 (wP (pIf (tc2 (neT 8) (p2 ixQ (pDr (pVar 0)) (pInt 1)) (pLst aNil)) (pLf (p2 ixQ (p2 ixQ (pDr (pVar 0)) (pInt 1)) (pDr (pVar 2)))) (pInt 0))))
    (sSeq (sIf (wT (tc2 cGe (pDr (pVar 3)) (p2 bPow (pInt 10) (pInt 18)))) (sSeq (sSetIx (wP (p2 bFdiv (pDr (pVar 3)) (pDr (pVar 1)))) (lIx (lV 0) (pInt 1)) (pDr (pVar 2)))
    (sRet (wP (p2 bMod (pDr (pVar 3)) (pDr (pVar 1)))))) sNext)
    (sSeq (sSetIx (wP (p2 bMod (p2 bAddI (p2 bAddI (p2 bMul (p2 ixQ (pDr (pVar 0)) (pInt 0)) (pInt 48271)) (p2 bMul (pDr (pVar 3)) (pInt 69621))) (pInt 11)) (pInt 2147483647))) (lV 0) (pInt 0))
    (sSeq (sSetIx (wP (p2 bAddI (p2 ixQ (pDr (pVar 0)) (pInt 2)) (pInt 1))) (lV 0) (pInt 2))
    (sRet (wP (p2 bMod (p2 bFdiv (p2 ixQ (pDr (pVar 0)) (pInt 0)) (pInt 7)) (pDr (pVar 1))))))))))
theorem d_law_next {f : Addr} {cdv : Value} {A : Around} {outer : List Env} {s : Shared} {H : Hp} {E : XK} (B : Bi mg) (hr : Room 0 (A.deeper (PyProof.Rows.envOfC "_law_next" (defScope s_law_next) s.heap.objs.size f cdv))) :
    DSs (cxOf (L2.CX P w) P w K mg base n_law_next "_law_next" (defScope s_law_next) f cdv A outer s H E) E false (defBody s_law_next) w_law_next := by
  have hx : Passes (L2.CX P w) (cxOf (L2.CX P w) P w K mg base n_law_next "_law_next" (defScope s_law_next) f cdv A outer s H E) E := passes_call (takes_of rfl rfl rfl rfl) (fun _ _ _ _ z => z)
  exact (dss_cons (ds_set (i := 2) sc_law_next.nd rfl (by first | exact Or.inl rfl | exact Or.inr rfl) (de_p (dp_mod (c := .cln) (dp_ix (c := .any) (dp_dr (dp_va 0)) (dp_int (c := .any))) (dp_max2 (c := .any) rfl (by rfl) B.b_max (dp_int (c := .any)) (dp_len (c := .any) (by rfl) B.b_len (dp_ix (c := .any) (dp_dr (dp_va 0)) (dp_int (c := .any))))))))
    (dss_cons (ds_set (i := 3) sc_law_next.nd rfl (by first | exact Or.inl rfl | exact Or.inr rfl) (de_p (dp_if (c := .cln) (dt_ne hr.units (dp_ix (c := .any) (dp_dr (dp_va 0)) (dp_int (c := .any))) (dp_lst (c := .any) (da_nil (c := .any)))) (dp_lf (c := .cln) (dp_ix (dp_ix (c := .any) (dp_dr (dp_va 0)) (dp_int (c := .any))) (dp_dr (dp_va 2)))) (dp_int (c := .cln)))))
    (dss_cons (ds_if (dte_t (dt_ge (dp_dr (dp_va 3)) (dp_pow (c := .any) (dp_int (c := .any)) (dp_int (c := .any))))) (dss_cons (ds_setIx (de_p (dp_fdiv (c := .cln) (dp_dr (dp_va 3)) (dp_dr (dp_va 1)))) (pl_ix (pl_var 0) (dp_int (c := .any))) (dp_dr (dp_va 2)))
    (dss_one (ds_ret (de_p (dp_mod (c := .cln) (dp_dr (dp_va 3)) (dp_dr (dp_va 1))))))) dss_nil)
    (dss_cons (ds_setIx (de_p (dp_mod (c := .cln) (dp_addI (c := .any) (dp_addI (c := .any) (dp_mul (c := .any) (dp_ix (c := .any) (dp_dr (dp_va 0)) (dp_int (c := .any))) (dp_int (c := .any))) (dp_mul (c := .any) (dp_dr (dp_va 3)) (dp_int (c := .any)))) (dp_int (c := .any))) (dp_int (c := .any)))) (pl_var 0) (dp_int (c := .any)))
    (dss_cons (ds_setIx (de_p (dp_addI (c := .cln) (dp_ix (c := .any) (dp_dr (dp_va 0)) (dp_int (c := .any))) (dp_int (c := .any)))) (pl_var 0) (dp_int (c := .any)))
    (dss_one (ds_ret (de_p (dp_mod (c := .cln) (dp_fdiv (c := .any) (dp_ix (c := .any) (dp_dr (dp_va 0)) (dp_int (c := .any))) (dp_int (c := .any))) (dp_dr (dp_va 1)))))))))))
abbrev s_law_alike : Stmt := top 25
abbrev n_law_alike : List Str := ["_law_found", "_law_due", "_law_k"]
theorem sc_law_alike : FnScope n_law_alike ["_law_found", "_law_due"] (defScope s_law_alike) := ⟨rfl, rfl, rfl, by decide +kernel, rfl, by decide +kernel, by decide +kernel⟩
/-- 0 _law_found 1 _law_due 2 _law_k -/
def w_law_alike (n : Nat) : WS := (sSeq (sIf (wT (tOf (pIsi2 (pDr (pVar 1))))) (sSeq (sIf (wT (tOr2 (tNot1 (tOf (pIsi2 (pDr (pVar 0))))) (tc2 (neT 8) (pIsi "list" (pDr (pVar 0))) (pIsi "list" (pDr (pVar 1)))))) (sRetF (pBl false)) sNext)
    (sSeq (sIf (wT (tc2 (neT 8) (p1 lenD (pDr (pVar 0))) (p1 lenD (pDr (pVar 1))))) (sRetF (pBl false)) sNext)
    (sRetF (pc2 (eqT 8) (pLc (iR1 (p1 lenD (pDr (pVar 1)))) (gN 2) (tNot1 (tOf (pCall 2 (phr_law_alike n) (aCons (p2 ixQ (pDr (pVar 0)) (pDr (pVar 2))) (aCons (p2 ixQ (pDr (pVar 1)) (pDr (pVar 2))) aNil))))) (pVar 2) [2]) (pLst aNil))))) sNext)
    (sSeq (sIf (wT (tIsN (pDr (pVar 1)))) (sRetF (pIsN (pDr (pVar 0)))) sNext)
    (sSeq (sIf (wT (tOf (pIsi "str" (pDr (pVar 1))))) (sRetF (pAnd (pIsi "str" (pDr (pVar 0))) (pc2 (eqT 8) (pDr (pVar 0)) (pDr (pVar 1))))) sNext)
    (sSeq (sIf (wT (tOr2 (tOf (pIsi "bool" (pDr (pVar 1)))) (tOf (pIsi "bool" (pDr (pVar 0)))))) (sRetF (pAnd (pIsi "bool" (pDr (pVar 1))) (pAnd (pIsi "bool" (pDr (pVar 0))) (pc2 (eqT 8) (pDr (pVar 0)) (pDr (pVar 1)))))) sNext)
    (sRetF (pAnd (pIsi "int" (pDr (pVar 0))) (pc2 (eqT 8) (pDr (pVar 0)) (pDr (pVar 1)))))))))
theorem d_law_alike {n : Nat} {f : Addr} {cdv : Value} {A : Around} {outer : List Env} {s : Shared} {H : Hp} {E : XK} (B : Bi mg) (hr : Room n (A.deeper (PyProof.Rows.envOfC "_law_alike" (defScope s_law_alike) s.heap.objs.size f cdv))) (h_law_alike : Has P w K mg base "_law_alike" n ["_law_found", "_law_due"] (spP 2 (phr_law_alike n))) :
    DSs (cxOf (L2.CX P w) P w K mg base n_law_alike "_law_alike" (defScope s_law_alike) f cdv A outer s H E) E0 true (defBody s_law_alike) (w_law_alike n) := by
  exact (dss_cons (ds_if (dte_t (dt_val (dp_isi2 (c := .any) (by rfl) B.b_isinstance (by rfl) B.b_tuple (by rfl) B.b_list (dp_dr (dp_va 1))))) (dss_cons (ds_if (dte_t (DW.dt (dw_or (dt_not (dt_val (dp_isi2 (c := .any) (by rfl) B.b_isinstance (by rfl) B.b_tuple (by rfl) B.b_list (dp_dr (dp_va 0))))) (dw_or1 (dt_ne hr.units (dp_isi (c := .any) kit_list (by rfl) B.b_isinstance (by rfl) B.b_list (by decide +kernel) (dp_dr (dp_va 0))) (dp_isi (c := .any) kit_list (by rfl) B.b_isinstance (by rfl) B.b_list (by decide +kernel) (dp_dr (dp_va 1)))))))) (dss_one (ds_retF (dp_bl (c := .frs)))) dss_nil)
    (dss_cons (ds_if (dte_t (dt_ne hr.units (dp_len (c := .any) (by rfl) B.b_len (dp_dr (dp_va 0))) (dp_len (c := .any) (by rfl) B.b_len (dp_dr (dp_va 1))))) (dss_one (ds_retF (dp_bl (c := .frs)))) dss_nil)
    (dss_one (ds_retF (dp_eq (c := .frs) hr.units (dp_lcA (own := [("_law_k", 2)]) rfl sc_law_alike.nd (di_range1 (c := .any) (by rfl) B.b_range (dp_len (c := .any) (by rfl) B.b_len (dp_dr (dp_va 1)))) (blkOk_by (own := [("_law_k", 2)]) (N := n_law_alike) (sc := defScope s_law_alike) (by decide +kernel)) (by decide) (fun _ _ _ _ _ => (dg_name (i := 2) sc_law_alike.nd rfl (by first | exact Or.inl rfl | exact Or.inr rfl))) (fun _ _ _ _ _ => (dts_one (dt_not (dt_val (dp_call (c := .any) h_law_alike (hr.mono (Nat.le_refl _)) (by rfl) (da_cons (dp_ix (c := .any) (dp_dr (dp_va 0)) (dp_dr (dp_va 2))) (da_cons (dp_ix (c := .any) (dp_dr (dp_va 1)) (dp_dr (dp_va 2))) (da_nil (c := .any))))))))) (fun _ _ _ _ _ => (dp_vc 2))) (dp_lst (c := .any) (da_nil (c := .any)))))))) dss_nil)
    (dss_cons (ds_if (dte_t (dt_isN (dp_dr (dp_va 1)))) (dss_one (ds_retF (dp_isN (c := .frs) (dp_dr (dp_va 0))))) dss_nil)
    (dss_cons (ds_if (dte_t (dt_val (dp_isi (c := .any) kit_str (by rfl) B.b_isinstance (by rfl) B.b_str (by decide +kernel) (dp_dr (dp_va 1))))) (dss_one (ds_retF (dp_and (c := .frs) (dp_isi (c := .any) kit_str (by rfl) B.b_isinstance (by rfl) B.b_str (by decide +kernel) (dp_dr (dp_va 0))) (dp_one (c := .any) (dp_eq (c := .any) hr.units (dp_dr (dp_va 0)) (dp_dr (dp_va 1))))))) dss_nil)
    (dss_cons (ds_if (dte_t (DW.dt (dw_or (dt_val (dp_isi (c := .any) kit_bool (by rfl) B.b_isinstance (by rfl) B.b_bool (by decide +kernel) (dp_dr (dp_va 1)))) (dw_or1 (dt_val (dp_isi (c := .any) kit_bool (by rfl) B.b_isinstance (by rfl) B.b_bool (by decide +kernel) (dp_dr (dp_va 0)))))))) (dss_one (ds_retF (dp_and (c := .frs) (dp_isi (c := .any) kit_bool (by rfl) B.b_isinstance (by rfl) B.b_bool (by decide +kernel) (dp_dr (dp_va 1))) (dp_and (c := .any) (dp_isi (c := .any) kit_bool (by rfl) B.b_isinstance (by rfl) B.b_bool (by decide +kernel) (dp_dr (dp_va 0))) (dp_one (c := .any) (dp_eq (c := .any) hr.units (dp_dr (dp_va 0)) (dp_dr (dp_va 1)))))))) dss_nil)
    (dss_one (ds_retF (dp_and (c := .frs) (dp_isi (c := .any) kit_int (by rfl) B.b_isinstance (by rfl) B.b_int (by decide +kernel) (dp_dr (dp_va 0))) (dp_one (c := .any) (dp_eq (c := .any) hr.units (dp_dr (dp_va 0)) (dp_dr (dp_va 1)))))))))))
abbrev s_law_fillers : Stmt := top 26
abbrev n_law_fillers : List Str := ["_law_h", "_law_found", "_law_k", "_law_length"]
theorem sc_law_fillers : FnScope n_law_fillers ["_law_h"] (defScope s_law_fillers) := ⟨rfl, rfl, rfl, by decide +kernel, rfl, by decide +kernel, by decide +kernel⟩
/-- 0 _law_h 1 _law_found 2 _law_k 3 _law_length -/
def w_law_fillers : WS := (sSeq (sSet 1 (wP (pLst (aCons (pInt 1) aNil))))
    (sSeq (sFor (wR1 (wCall 2 sp_law_next (wACons (wP (pVar 0)) (wACons (wP (pInt 6)) wANil)))) (gN 2) (sSeq (sSet 3 (w2 bAddI (wP (p2 bAddI (p2 ixQ (pDr (pVar 1)) (pNeg (pInt 1))) (pInt 1))) (wCall 2 sp_law_next (wACons (wP (pVar 0)) (wACons (w2 ixQ (wP (pLst (aCons (pInt 3) (aCons (pInt 15) aNil)))) (wCall 2 sp_law_next (wACons (wP (pVar 0)) (wACons (wP (pInt 2)) wANil)))) wANil)))))
    (sSet 1 (wP (p2 catL (pVar 1) (p2 repL (pLst (aCons (pDr (pVar 3)) aNil)) (p1 intD (pc2 cLt (pDr (pVar 3)) (pInt 61)))))))))
    (sRet (wP (p1 tupD (pVar 1))))))
theorem d_law_fillers {f : Addr} {cdv : Value} {A : Around} {outer : List Env} {s : Shared} {H : Hp} {E : XK} (B : Bi mg) (hr : Room 1 (A.deeper (PyProof.Rows.envOfC "_law_fillers" (defScope s_law_fillers) s.heap.objs.size f cdv))) (h_law_next : Has P w K mg base "_law_next" 1 ["_law_h", "_law_many"] (spM 2 sp_law_next)) :
    DSs (cxOf (L2.CX P w) P w K mg base n_law_fillers "_law_fillers" (defScope s_law_fillers) f cdv A outer s H E) E false (defBody s_law_fillers) w_law_fillers := by
  have hx : Passes (L2.CX P w) (cxOf (L2.CX P w) P w K mg base n_law_fillers "_law_fillers" (defScope s_law_fillers) f cdv A outer s H E) E := passes_call (takes_of rfl rfl rfl rfl) (fun _ _ _ _ z => z)
  exact (dss_cons (ds_set (i := 1) sc_law_fillers.nd rfl (by first | exact Or.inl rfl | exact Or.inr rfl) (de_p (dp_lst (c := .cln) (da_cons (dp_int (c := .cln)) (da_nil (c := .cln))))))
    (dss_cons (ds_for (passes_of rfl) rfl (die_range1 (by rfl) B.b_range (de_call h_law_next (hr.mono (by decide)) (by rfl) hx (dae_cons (de_p (dp_vc 0)) (dae_cons (de_p (dp_int (c := .cln))) dae_nil)))) (dg_name (i := 2) sc_law_fillers.nd rfl (by first | exact Or.inl rfl | exact Or.inr rfl)) (dss_cons (ds_set (i := 3) sc_law_fillers.nd rfl (by first | exact Or.inl rfl | exact Or.inr rfl) (de_addI (de_p (dp_addI (c := .cln) (dp_ix (c := .any) (dp_dr (dp_va 1)) (dp_neg (c := .any) (dp_int (c := .any)))) (dp_int (c := .any)))) (de_call h_law_next (hr.mono (by decide)) (by rfl) hx (dae_cons (de_p (dp_vc 0)) (dae_cons (de_ix (de_p (dp_lst (c := .cln) (da_cons (dp_int (c := .cln)) (da_cons (dp_int (c := .cln)) (da_nil (c := .cln)))))) (de_call h_law_next (hr.mono (by decide)) (by rfl) hx (dae_cons (de_p (dp_vc 0)) (dae_cons (de_p (dp_int (c := .cln))) dae_nil)))) dae_nil)))))
    (dss_one (ds_set (i := 1) sc_law_fillers.nd rfl (by first | exact Or.inl rfl | exact Or.inr rfl) (de_p (dp_cat (c := .cln) (dp_vc 1) (dp_rep (c := .cln) (dp_lst (c := .any) (da_cons (dp_dr (dp_va 3)) (da_nil (c := .any)))) (dp_int1 (c := .any) (by rfl) B.b_int (dp_lt (c := .any) (dp_dr (dp_va 3)) (dp_int (c := .any)))))))))))
    (dss_one (ds_ret (de_p (dp_tuple (c := .cln) (by rfl) B.b_tuple (dp_vc 1)))))))
abbrev s_law_rows : Stmt := top 27
abbrev n_law_rows : List Str := ["_law_h", "_law_begin", "_law_end", "_law_most", "_law_left", "_law_often", "_law_moments", "_law_found", "_law_k", "_law_kind", "_law_length", "_law_moment"]
theorem sc_law_rows : FnScope n_law_rows ["_law_h", "_law_begin", "_law_end", "_law_most"] (defScope s_law_rows) := ⟨rfl, rfl, rfl, by decide +kernel, rfl, by decide +kernel, by decide +kernel⟩
/-- 0 _law_h 1 _law_begin 2 _law_end 3 _law_most 4 _law_left 5 _law_often 6 _law_moments 7 _law_found 8 _law_k 9 _law_kind 10 _law_length 11 _law_moment -/
def w_law_rows : WS := (sSeq (sSetM 4 (p1 lrD (pInt 100)))
    (sSeq (sSet 5 (wCall 2 sp_law_next (wACons (wP (pVar 0)) (wACons (wP (pInt 4)) wANil))))
    (sSeq (sSetMS 6 sortsetD (wLc (wR1 (w2 bMul (wCall 2 sp_law_next (wACons (wP (pVar 0)) (wACons (wP (pInt 6)) wANil))) (wP (p1 intD (pc2 cGt (pDr (pVar 5)) (pInt 0)))))) (gN 8) wYes (w2 bAddI (wP (pVar 1)) (wCall 2 sp_law_next (wACons (wP (pVar 0)) (wACons (wP (p2 bSub (pDr (pVar 2)) (pDr (pVar 1)))) wANil)))) [8]))
    (sSeq (sSetM 7 (pLst aNil))
    (sSeq (sFor (wR1 (wCall 2 sp_law_next (wACons (wP (pVar 0)) (wACons (wP (p2 bAddI (pDr (pVar 3)) (pInt 1))) wANil)))) (gN 8) (sSeq (sSet 9 (w2 ixQ (wP (pLst (aCons (pStr "clip") (aCons (pStr "live") aNil)))) (wCall 2 sp_law_next (wACons (wP (pVar 0)) (wACons (wP (pInt 2)) wANil)))))
    (sSeq (sSet 10 (w2 bAddI (wP (pInt 1)) (wCall 2 sp_law_next (wACons (wP (pVar 0)) (wACons (w2 ixQ (wP (pLst (aCons (pInt 6) (aCons (pInt 40) (aCons (pInt 120) aNil))))) (wCall 2 sp_law_next (wACons (wP (pVar 0)) (wACons (wP (pInt 3)) wANil)))) wANil)))))
    (sSeq (sSet 11 (wP pNon))
    (sSeq (sIf (wAnd (wT (tc2 (neT 8) (pDr (pVar 6)) (pLst aNil))) (w2t cLt (wCall 2 sp_law_next (wACons (wP (pVar 0)) (wACons (wP (pInt 4)) wANil))) (wP (pVar 5)))) (sSet 11 (wPop 6 (wP (pInt 0)))) sNext)
    (sAppR 7 (wTup (wACons (wPop 4 (wCall 2 sp_law_next (wACons (wP (pVar 0)) (wACons (wP (p1 lenD (pDr (pVar 4)))) wANil)))) (wACons (wP (pVar 9)) (wACons (wP (pVar 10)) (wACons (wP (pVar 11)) wANil)))))))))))
    (sRetZ 7))))))
theorem d_law_rows {f : Addr} {cdv : Value} {A : Around} {outer : List Env} {s : Shared} {H : Hp} {E : XK} (B : Bi mg) (hr : Room 1 (A.deeper (PyProof.Rows.envOfC "_law_rows" (defScope s_law_rows) s.heap.objs.size f cdv))) (h_law_next : Has P w K mg base "_law_next" 1 ["_law_h", "_law_many"] (spM 2 sp_law_next)) :
    DSs (cxOf (L2.CX P w) P w K mg base n_law_rows "_law_rows" (defScope s_law_rows) f cdv A outer s H E) E false (defBody s_law_rows) w_law_rows := by
  have hx : Passes (L2.CX P w) (cxOf (L2.CX P w) P w K mg base n_law_rows "_law_rows" (defScope s_law_rows) f cdv A outer s H E) E := passes_call (takes_of rfl rfl rfl rfl) (fun _ _ _ _ z => z)
  exact (dss_cons (ds_setM (i := 4) sc_law_rows.nd rfl (by first | exact Or.inl rfl | exact Or.inr rfl) (dp_listrange (c := .frs) rfl (by rfl) B.b_list (by rfl) B.b_range (dp_int (c := .any))))
    (dss_cons (ds_set (i := 5) sc_law_rows.nd rfl (by first | exact Or.inl rfl | exact Or.inr rfl) (de_call h_law_next (hr.mono (by decide)) (by rfl) hx (dae_cons (de_p (dp_vc 0)) (dae_cons (de_p (dp_int (c := .cln))) dae_nil))))
    (dss_cons (ds_setMS (i := 6) sc_law_rows.nd rfl (by first | exact Or.inl rfl | exact Or.inr rfl) rfl (by rfl) B.b_sorted (by rfl) B.b_set (de_lc (own := [("_law_k", 8)]) rfl sc_law_rows.nd (die_range1 (by rfl) B.b_range (de_mul (de_call h_law_next (hr.mono (by decide)) (by rfl) hx (dae_cons (de_p (dp_vc 0)) (dae_cons (de_p (dp_int (c := .cln))) dae_nil))) (de_p (dp_int1 (c := .cln) (by rfl) B.b_int (dp_gt (c := .any) (dp_dr (dp_va 5)) (dp_int (c := .any))))))) (blkOk_by (own := [("_law_k", 8)]) (N := n_law_rows) (sc := defScope s_law_rows) (by decide +kernel)) (by decide) (fun _ _ _ _ _ => (dg_name (i := 8) sc_law_rows.nd rfl (by first | exact Or.inl rfl | exact Or.inr rfl))) (fun _ _ _ _ _ => dtse_nil) (fun _ _ _ _ _ => (de_addI (de_p (dp_vc 1)) (de_call h_law_next (hr.mono (by decide)) (by rfl) passL (dae_cons (de_p (dp_vc 0)) (dae_cons (de_p (dp_sub (c := .cln) (dp_dr (dp_va 2)) (dp_dr (dp_va 1)))) dae_nil)))))))
    (dss_cons (ds_setM (i := 7) sc_law_rows.nd rfl (by first | exact Or.inl rfl | exact Or.inr rfl) (dp_lst (c := .frs) (da_nil (c := .frs))))
    (dss_cons (ds_for (passes_of rfl) rfl (die_range1 (by rfl) B.b_range (de_call h_law_next (hr.mono (by decide)) (by rfl) hx (dae_cons (de_p (dp_vc 0)) (dae_cons (de_p (dp_addI (c := .cln) (dp_dr (dp_va 3)) (dp_int (c := .any)))) dae_nil)))) (dg_name (i := 8) sc_law_rows.nd rfl (by first | exact Or.inl rfl | exact Or.inr rfl)) (dss_cons (ds_set (i := 9) sc_law_rows.nd rfl (by first | exact Or.inl rfl | exact Or.inr rfl) (de_ix (de_p (dp_lst (c := .cln) (da_cons (dp_str (c := .cln)) (da_cons (dp_str (c := .cln)) (da_nil (c := .cln)))))) (de_call h_law_next (hr.mono (by decide)) (by rfl) hx (dae_cons (de_p (dp_vc 0)) (dae_cons (de_p (dp_int (c := .cln))) dae_nil)))))
    (dss_cons (ds_set (i := 10) sc_law_rows.nd rfl (by first | exact Or.inl rfl | exact Or.inr rfl) (de_addI (de_p (dp_int (c := .cln))) (de_call h_law_next (hr.mono (by decide)) (by rfl) hx (dae_cons (de_p (dp_vc 0)) (dae_cons (de_ix (de_p (dp_lst (c := .cln) (da_cons (dp_int (c := .cln)) (da_cons (dp_int (c := .cln)) (da_cons (dp_int (c := .cln)) (da_nil (c := .cln))))))) (de_call h_law_next (hr.mono (by decide)) (by rfl) hx (dae_cons (de_p (dp_vc 0)) (dae_cons (de_p (dp_int (c := .cln))) dae_nil)))) dae_nil)))))
    (dss_cons (ds_set (i := 11) sc_law_rows.nd rfl (by first | exact Or.inl rfl | exact Or.inr rfl) (de_p (dp_non (c := .cln))))
    (dss_cons (ds_if (PW.pt (dwe_and (dte_t (dt_ne hr.units (dp_dr (dp_va 6)) (dp_lst (c := .any) (da_nil (c := .any))))) (dwe_and1 (dte_lt (de_call h_law_next (hr.mono (by decide)) (by rfl) hx (dae_cons (de_p (dp_vc 0)) (dae_cons (de_p (dp_int (c := .cln))) dae_nil))) (de_p (dp_vc 5)))))) (dss_one (ds_set (i := 11) sc_law_rows.nd rfl (by first | exact Or.inl rfl | exact Or.inr rfl) (de_pop 6 (pe_bm PySem.F.plainAttrs_list PySem.F.slot_list_pop PySem.F.type_list_pop mt_popAt (pv 6) (pa_cons (de_p (dp_int (c := .cln))) pa_nil))))) dss_nil)
    (dss_one (ds_appR 7 rfl (by first | exact Or.inl rfl | exact Or.inr (Or.inl rfl) | exact Or.inr (Or.inr rfl)) (hbm := pe_bm PySem.F.plainAttrs_list PySem.F.slot_list_append PySem.F.type_list_append mt_append (pv 7) (pa_cons (de_tup (dae_cons (de_pop 4 (pe_bm PySem.F.plainAttrs_list PySem.F.slot_list_pop PySem.F.type_list_pop mt_popAt (pv 4) (pa_cons (de_call h_law_next (hr.mono (by decide)) (by rfl) hx (dae_cons (de_p (dp_vc 0)) (dae_cons (de_p (dp_len (c := .cln) (by rfl) B.b_len (dp_dr (dp_va 4)))) dae_nil))) pa_nil))) (dae_cons (de_p (dp_vc 9)) (dae_cons (de_p (dp_vc 10)) (dae_cons (de_p (dp_vc 11)) dae_nil))))) pa_nil)))))))))
    (dss_one (ds_retZ 7)))))))
abbrev s_law_mix : Stmt := top 23
abbrev n_law_mix : List Str := ["_law_script", "_law_seed", "_law_mixed", "_law_cell"]
theorem sc_law_mix : FnScope n_law_mix ["_law_script", "_law_seed"] (defScope s_law_mix) := ⟨rfl, rfl, rfl, by decide +kernel, rfl, by decide +kernel, by decide +kernel⟩
theorem d_law_mix {f : Addr} {cdv : Value} {A : Around} {outer : List Env} {s : Shared} {H : Hp} {E : XK} (B : Bi mg) :
    PSs (cxOf (L2.CX P w) P w K mg base n_law_mix "_law_mix" (defScope s_law_mix) f cdv A outer s H E) (defBody s_law_mix) (t_mix K) :=
  pss_cons (ps_set (i := 2) sc_law_mix.nd rfl (Or.inl rfl) (pv 1)) (pss_cons (ps_for (passes_of rfl) rfl (pi_list (pv 0)) (pg_name (i := 3) sc_law_mix.nd rfl (Or.inl rfl)) (pss_one (ps_set (i := 2) sc_law_mix.nd rfl (Or.inl rfl) (pe_op op_mod (pe_op op_add (pe_op op_add (pe_op op_mul (pv 2) pe_int) (pe_op op_mod (pv 3) pe_int)) pe_int) pe_int))))
    (pss_one (ps_ret (pe_lst (pa_cons (pv 2) (pa_cons (pe_callTy call_list_of rfl B.b_list (by decide +kernel) (pa_cons (pv 0) pa_nil)) (pa_cons pe_int pa_nil)))))))
theorem has_law_mix0 (B : Bi mg) {f : Addr} {fd : FuncData} (F : L2.Fun K "_law_mix" "_law_mix" s_law_mix f fd) (m : mg "_law_mix" = some (.ref f)) : Has P w K mg base "_law_mix" 1 ["_law_script", "_law_seed"] (spMix K) :=
  ⟨f, fd, F.okX sc_law_mix (fun vs H Q E h => (by obtain ⟨a, ns, m, rfl, _⟩ := h; rfl)) (fun cdv A outer s H vs Q E hr h => ⟨_, d_law_mix B, r_mix rfl vs H Q E h⟩), m, F.kp, F.binds fun _ _ _ _ _ _ us hl => match us, hl with | [_, _], _ => rfl⟩
abbrev s_law : Stmt := top 28
abbrev n_law : List Str := ["_law_script", "_law_h", "_law_turn", "_law_rows_here", "_law_lines", "_law_number", "_law_kind", "_law_length", "_law_moment", "_law_line", "_law_handed", "_law_text"]
theorem sc_law : FnScope n_law ["_law_script"] (defScope s_law) := ⟨rfl, rfl, rfl, by decide +kernel, rfl, by decide +kernel, by decide +kernel⟩
/-- 0 _law_script 1 _law_h 2 _law_turn 3 _law_rows_here 4 _law_lines 5 _law_number 6 _law_kind 7 _law_length 8 _law_moment 9 _law_line 10 _law_handed 11 _law_text -/
def w_law : WS := (sSeq (sFor (wA (iR1 (pInt 6))) (gN 2) (sSeq (sSet 3 (wCall 4 sp_law_rows (wACons (wP (pVar 1)) (wACons (wP (pInt 0)) (wACons (w2 bAddI (wP (pInt 1)) (wCall 2 sp_law_next (wACons (wP (pVar 1)) (wACons (wP (pInt 900)) wANil)))) (wACons (w2 ixQ (wP (pLst (aCons (pInt 6) (aCons (pInt 30) aNil)))) (wCall 2 sp_law_next (wACons (wP (pVar 1)) (wACons (wP (pInt 2)) wANil)))) wANil))))))
    (sSeq (sSetM 4 (pLst aNil))
    (sSeq (sFor (wA (iL (pVar 3))) (gT 4 (gC (gN 5) (gC (gN 6) (gC (gN 7) (gC (gN 8) gNl))))) (sSeq (sSet 9 (wP (p2 catS (p2 catS (p2 catS (p2 catS (p1 strD (pDr (pVar 5))) (pStr " ")) (pDr (pVar 6))) (pStr " ")) (p1 strD (pDr (pVar 7))))))
    (sApp (lV 4) (pIf (tIsN (pDr (pVar 8))) (pLf (pVar 9)) (p2 catS (p2 catS (pDr (pVar 9)) (pStr " ")) (p1 strD (pDr (pVar 8))))))))
    (sSeq (sSet 10 (wP (p1 lstD (pVar 3))))
    (sSeq (sSet 11 (wP (p2 joinD (pStr "\n") (pDr (pVar 4)))))
    (sSeq (sIf (wT (tOr2 (tNot1 (tOf (pCall 2 ph_law_alike (aCons (pCall 1 ph_written (aCons (pDr (pVar 10)) aNil)) (aCons (pDr (pVar 11)) aNil))))) (tOr2 (tc2 (neT 8) (pDr (pVar 10)) (pDr (pVar 3))) (tNot1 (tOf (pCall 2 ph_law_alike (aCons (pCall 1 ph_read (aCons (pDr (pVar 11)) aNil)) (aCons (pDr (pVar 3)) aNil)))))))) (sRet (wP (pBl false))) sNext)
    (sAppC (pCall 1 ph_read (aCons (pDr (pVar 11)) aNil)) (pTup aNil)))))))))
    (sRet (wP (pAnd (pc2 (eqT 8) (pCall 1 ph_read (aCons (pStr "") aNil)) (pLst aNil)) (pc2 (eqT 8) (pCall 1 ph_written (aCons (pLst aNil) aNil)) (pStr ""))))))
theorem d_law {f : Addr} {cdv : Value} {A : Around} {outer : List Env} {s : Shared} {H : Hp} {E : XK} (B : Bi mg) (hr : Room 6 (A.deeper (PyProof.Rows.envOfC "law" (defScope s_law) s.heap.objs.size f cdv))) (h_law_mix : Has P w K mg base "_law_mix" 1 ["_law_script", "_law_seed"] (spMix K)) (h_law_rows : Has P w K mg base "_law_rows" 2 ["_law_h", "_law_begin", "_law_end", "_law_most"] (spM 4 sp_law_rows)) (h_read : Has P w K mg base "read" 4 ["text"] (spP 1 ph_read)) (h_written : Has P w K mg base "written" 4 ["rows"] (spP 1 ph_written)) (h_law_next : Has P w K mg base "_law_next" 1 ["_law_h", "_law_many"] (spM 2 sp_law_next)) (h_law_alike : Has P w K mg base "_law_alike" 6 ["_law_found", "_law_due"] (spP 2 ph_law_alike)) :
    PSs (cxOf (L2.CX P w) P w K mg base n_law "law" (defScope s_law) f cdv A outer s H E) (defBody s_law) (tSeq (tAsg (tCall (spMix K) [] E0 (tCons (tVar 0) (tCons (tC (.int 43)) tNil))) (gName 1)) (tDS E false w_law)) := by
  have hx : Passes (L2.CX P w) (cxOf (L2.CX P w) P w K mg base n_law "law" (defScope s_law) f cdv A outer s H E) E := passes_call (takes_of rfl rfl rfl rfl) (fun _ _ _ _ z => z)
  obtain ⟨f', fd, Fn, hm, hk, hb⟩ := h_law_mix.ex
  exact pss_cons (ps_set (i := 1) sc_law.nd rfl (by first | exact Or.inl rfl | exact Or.inr rfl) (pe_call Fn (hr.mono (by decide)) rfl hm hk hb .nil passL (pa_cons (pv 0) (pa_cons pe_int pa_nil)))) (dss_cons (ds_for (passes_of rfl) rfl (die_p (di_range1 (c := .cln) (by rfl) B.b_range (dp_int (c := .any)))) (dg_name (i := 2) sc_law.nd rfl (by first | exact Or.inl rfl | exact Or.inr rfl)) (dss_cons (ds_set (i := 3) sc_law.nd rfl (by first | exact Or.inl rfl | exact Or.inr rfl) (de_call h_law_rows (hr.mono (by decide)) (by rfl) hx (dae_cons (de_p (dp_vc 1)) (dae_cons (de_p (dp_int (c := .cln))) (dae_cons (de_addI (de_p (dp_int (c := .cln))) (de_call h_law_next (hr.mono (by decide)) (by rfl) hx (dae_cons (de_p (dp_vc 1)) (dae_cons (de_p (dp_int (c := .cln))) dae_nil)))) (dae_cons (de_ix (de_p (dp_lst (c := .cln) (da_cons (dp_int (c := .cln)) (da_cons (dp_int (c := .cln)) (da_nil (c := .cln)))))) (de_call h_law_next (hr.mono (by decide)) (by rfl) hx (dae_cons (de_p (dp_vc 1)) (dae_cons (de_p (dp_int (c := .cln))) dae_nil)))) dae_nil))))))
    (dss_cons (ds_setM (i := 4) sc_law.nd rfl (by first | exact Or.inl rfl | exact Or.inr rfl) (dp_lst (c := .frs) (da_nil (c := .frs))))
    (dss_cons (ds_for (passes_of rfl) rfl (die_p (di_list (dp_vc 3))) (dg_tup (n := 4) rfl (dgs_cons (dg_name (i := 5) sc_law.nd rfl (by first | exact Or.inl rfl | exact Or.inr rfl)) (dgs_cons (dg_name (i := 6) sc_law.nd rfl (by first | exact Or.inl rfl | exact Or.inr rfl)) (dgs_cons (dg_name (i := 7) sc_law.nd rfl (by first | exact Or.inl rfl | exact Or.inr rfl)) (dgs_cons (dg_name (i := 8) sc_law.nd rfl (by first | exact Or.inl rfl | exact Or.inr rfl)) dgs_nil))))) (dss_cons (ds_set (i := 9) sc_law.nd rfl (by first | exact Or.inl rfl | exact Or.inr rfl) (de_p (dp_catS (c := .cln) (dp_catS (c := .any) (dp_catS (c := .any) (dp_catS (c := .any) (dp_strI (c := .any) (by rfl) B.b_str (dp_dr (dp_va 5))) (dp_str (c := .any))) (dp_dr (dp_va 6))) (dp_str (c := .any))) (dp_strI (c := .any) (by rfl) B.b_str (dp_dr (dp_va 7))))))
    (dss_one (ds_app (pl_var 4) (dp_if (c := .frs) (dt_isN (dp_dr (dp_va 8))) (dp_lf (c := .frs) (dp_va 9)) (dp_catS (c := .frs) (dp_catS (c := .any) (dp_dr (dp_va 9)) (dp_str (c := .any))) (dp_strI (c := .any) (by rfl) B.b_str (dp_dr (dp_va 8))))) (hbm := pe_bm PySem.F.plainAttrs_list PySem.F.slot_list_append PySem.F.type_list_append mt_append (pl_var 4) (pa_cons (dp_if (c := .frs) (dt_isN (dp_dr (dp_va 8))) (dp_lf (c := .frs) (dp_va 9)) (dp_catS (c := .frs) (dp_catS (c := .any) (dp_dr (dp_va 9)) (dp_str (c := .any))) (dp_strI (c := .any) (by rfl) B.b_str (dp_dr (dp_va 8))))) pa_nil))))))
    (dss_cons (ds_set (i := 10) sc_law.nd rfl (by first | exact Or.inl rfl | exact Or.inr rfl) (de_p (dp_list (c := .cln) (by rfl) B.b_list (dp_vc 3))))
    (dss_cons (ds_set (i := 11) sc_law.nd rfl (by first | exact Or.inl rfl | exact Or.inr rfl) (de_p (dp_join (c := .cln) (dp_str (c := .any)) (dp_dr (dp_va 4)))))
    (dss_cons (ds_if (dte_t (DW.dt (dw_or (dt_not (dt_val (dp_call (c := .any) h_law_alike (hr.mono (by decide)) (by rfl) (da_cons (dp_call (c := .any) h_written (hr.mono (by decide)) (by rfl) (da_cons (dp_dr (dp_va 10)) (da_nil (c := .any)))) (da_cons (dp_dr (dp_va 11)) (da_nil (c := .any))))))) (dw_or (dt_ne hr.units (dp_dr (dp_va 10)) (dp_dr (dp_va 3))) (dw_or1 (dt_not (dt_val (dp_call (c := .any) h_law_alike (hr.mono (by decide)) (by rfl) (da_cons (dp_call (c := .any) h_read (hr.mono (by decide)) (by rfl) (da_cons (dp_dr (dp_va 11)) (da_nil (c := .any)))) (da_cons (dp_dr (dp_va 3)) (da_nil (c := .any)))))))))))) (dss_one (ds_ret (de_p (dp_bl (c := .cln))))) dss_nil)
    (dss_one (ds_appC (hbm := pe_bm PySem.F.plainAttrs_list PySem.F.slot_list_append PySem.F.type_list_append mt_append (dp_call (c := .frs) h_read (hr.mono (by decide)) (by rfl) (da_cons (dp_dr (dp_va 11)) (da_nil (c := .any)))) (pa_cons (dp_tup (c := .frs) (da_nil (c := .frs))) pa_nil)))))))))))
    (dss_one (ds_ret (de_p (dp_and (c := .cln) (dp_eq (c := .any) hr.units (dp_call (c := .any) h_read (hr.mono (by decide)) (by rfl) (da_cons (dp_str (c := .any)) (da_nil (c := .any)))) (dp_lst (c := .any) (da_nil (c := .any)))) (dp_one (c := .any) (dp_eq (c := .any) hr.units (dp_call (c := .any) h_written (hr.mono (by decide)) (by rfl) (da_cons (dp_lst (c := .any) (da_nil (c := .any))) (da_nil (c := .any)))) (dp_str (c := .any)))))))))
end
structure Fs (K : PySem.W.Frag) (mg : Str → Option Value) : Prop where
  f_is_number : ∃ f fd, L2.Fun K "is_number" "is_number" s_is_number f fd ∧ mg "is_number" = some (.ref f)
  f_is_row : ∃ f fd, L2.Fun K "is_row" "is_row" s_is_row f fd ∧ mg "is_row" = some (.ref f)
  f_need_rows : ∃ f fd, L2.Fun K "need_rows" "need_rows" s_need_rows f fd ∧ mg "need_rows" = some (.ref f)
  f_written : ∃ f fd, L2.Fun K "written" "written" s_written f fd ∧ mg "written" = some (.ref f)
  f_number_of : ∃ f fd, L2.Fun K "number_of" "number_of" s_number_of f fd ∧ mg "number_of" = some (.ref f)
  f_row_of : ∃ f fd, L2.Fun K "row_of" "row_of" s_row_of f fd ∧ mg "row_of" = some (.ref f)
  f_read : ∃ f fd, L2.Fun K "read" "read" s_read f fd ∧ mg "read" = some (.ref f)
  f_law_mix : ∃ f fd, L2.Fun K "_law_mix" "_law_mix" s_law_mix f fd ∧ mg "_law_mix" = some (.ref f)
  f_law_next : ∃ f fd, L2.Fun K "_law_next" "_law_next" s_law_next f fd ∧ mg "_law_next" = some (.ref f)
  f_law_alike : ∃ f fd, L2.Fun K "_law_alike" "_law_alike" s_law_alike f fd ∧ mg "_law_alike" = some (.ref f)
  f_law_fillers : ∃ f fd, L2.Fun K "_law_fillers" "_law_fillers" s_law_fillers f fd ∧ mg "_law_fillers" = some (.ref f)
  f_law_rows : ∃ f fd, L2.Fun K "_law_rows" "_law_rows" s_law_rows f fd ∧ mg "_law_rows" = some (.ref f)
  f_law : ∃ f fd, L2.Fun K "law" "law" s_law f fd ∧ mg "law" = some (.ref f)
end K13
set_option maxHeartbeats 4000000
namespace K13
open PySem L2 DL
theorem r_is_number (ds : List D) (M : Nm) (hl : ds.length = 3) (h : (ph_is_number ds M).ok) : w_is_number { nx := fun _ _ => (ph_is_number ds M).val = .non, rt := fun d M' => RES M' d (ph_is_number ds M).val } (startD n_is_number.length ds) (ro M) := by
  obtain ⟨x, lo, hi, rfl, ht⟩ := h
  simp only [w_is_number, ph_is_number, n_is_number, DL.sSetZ, DL.sRetZ, DL.sPar1, DL.sSeq, DL.sIf, DL.sSet, DL.sSetM, DL.sSetMN, DL.sAppN, DL.sSetMT, DL.sSetMS, DL.wLc, DL.wYes, DL.wPop, DL.wSl, DL.w1, DL.w1r, DL.lcW, DL.sFor, DL.sNext, DL.sRet, DL.sRetF, DL.sRetN, DL.sDrop, DL.sApp, DL.sAppR, DL.sSetIx, DL.sPar, DL.sParM, DL.sAsg, DL.wP, DL.wT, DL.wA, DL.wCall, DL.wCallP, DL.wACons, DL.wANil, DL.w2, DL.w2c, DL.w2t, DL.wIf, DL.wTup, DL.wLst, DL.wR1, DL.wAnd, DL.wOr, DL.wNot, DL.wTV, DL.pVar, DL.pInt, DL.pBl, DL.pStr, DL.pNon, DL.pDr, DL.pLf, DL.p1, DL.p2, DL.bI, DL.pc2, DL.tc2, DL.cI, DL.pAnd, DL.pOr, DL.pNot, DL.pIf, DL.pIsi, DL.pIsi2, DL.pChain, DL.tOf, DL.tNot1, DL.tAnd2, DL.tOr2, DL.tChn, DL.tIsN, DL.tNotN, DL.pIsN, DL.pNotN, DL.pNeg, DL.pSl, DL.pSlF, DL.pSlU, DL.pRev, DL.sfN, DL.sfS, DL.iU, DL.iL, DL.iR1, DL.iR2, DL.aCons, DL.aNil, DL.pLst, DL.pTup, DL.pLc, DL.pLcF, DL.pCall, DL.lV, DL.lIx, DL.lk, DL.startD, DL.ro, DL.gN, DL.gT, DL.gTL, DL.gC_cons, DL.gNl, DL.iS, DL.iE, DL.sAppC, DL.IsI_int, DL.toI_int, DL.IsB_bl, DL.toB_bl, DL.IsS_str, DL.toS_str, DL.IsL_lst, DL.IsU_tup, DL.IsQ_lst, DL.IsQ_tup, DL.toL_lst, DL.toL_tup, DL.drf_int, DL.drf_bl, DL.drf_str, DL.drf_non, DL.drf_lst, DL.drf_tup, DL.drf_obj, DL.drf_upd, DL.lenD_lst, DL.lenD_tup, DL.intD_int, DL.intD_bl, DL.rA_ref, DL.lf_int, DL.lf_bl, DL.lf_non, DL.lf_str, DL.lf_ref, DL.IsC_lst, DL.Ty_int, DL.Ty_tup, DL.Ty_lst, DL.Ty_bl, DL.Ty_str, DL.Ty_non, DL.wipeD, DL.ixQ, DL.tYesF, DL.bAddI, DL.bSub, DL.bMul, DL.bMod, DL.bFdiv, DL.bPow, DL.bMax2, DL.bMin2, DL.cLt, DL.cLe, DL.cGt, DL.cGe, List.set, List.map, List.length, List.length_cons, List.length_nil, List.replicate, List.nil_append, List.cons_append, List.append_nil, Option.isSome_some, Option.getD_some, Option.isSome_none, Bool.not_true, Bool.not_false, and_true, true_and, and_self, implies_true, Nat.zero_add, List.length_set, List.length_replicate]
  cases x <;> simp [Ty, isiB, tyN, IsI, IsB, toB, RES_bl, isnum, toI, lk, drf] at ht ⊢
  rfl
end K13
set_option maxHeartbeats 4000000
namespace K13
open PySem L2 DL
theorem r_law_next (ds : List D) (M : Nm) (Q' : D → Nm → Prop) (E' : ED) (hl : ds.length = 2) (h : sp_law_next ds M Q' E') : w_law_next { nx := fun _ M' => Q' .non M', rt := Q', ex := E' } (startD n_law_next.length ds) M := by
  obtain ⟨a, many, d, rfl, hN, ⟨s, cs, k, rfl, h1, h2, h3⟩, hm, hm2, q⟩ := h
  simp only [w_law_next, n_law_next, dI, DL.sSetZ, DL.sRetZ, DL.sPar1, DL.sSeq, DL.sIf, DL.sSet, DL.sSetM, DL.sSetMN, DL.sAppN, DL.sSetMT, DL.sSetMS, DL.wLc, DL.wYes, DL.wPop, DL.wSl, DL.w1, DL.w1r, DL.lcW, DL.sFor, DL.sNext, DL.sRet, DL.sRetF, DL.sRetN, DL.sDrop, DL.sApp, DL.sAppR, DL.sSetIx, DL.sPar, DL.sParM, DL.sAsg, DL.wP, DL.wT, DL.wA, DL.wCall, DL.wCallP, DL.wACons, DL.wANil, DL.w2, DL.w2c, DL.w2t, DL.wIf, DL.wTup, DL.wLst, DL.wR1, DL.wAnd, DL.wOr, DL.wNot, DL.wTV, DL.pVar, DL.pInt, DL.pBl, DL.pStr, DL.pNon, DL.pDr, DL.pLf, DL.p1, DL.p2, DL.bI, DL.pc2, DL.tc2, DL.cI, DL.pAnd, DL.pOr, DL.pNot, DL.pIf, DL.pIsi, DL.pIsi2, DL.pChain, DL.tOf, DL.tNot1, DL.tAnd2, DL.tOr2, DL.tChn, DL.tIsN, DL.tNotN, DL.pIsN, DL.pNotN, DL.pNeg, DL.pSl, DL.pSlF, DL.pSlU, DL.pRev, DL.sfN, DL.sfS, DL.iU, DL.iL, DL.iR1, DL.iR2, DL.aCons, DL.aNil, DL.pLst, DL.pTup, DL.pLc, DL.pLcF, DL.pCall, DL.lV, DL.lIx, DL.lk, DL.startD, DL.ro, DL.gN, DL.gT, DL.gTL, DL.gC_cons, DL.gNl, DL.iS, DL.iE, DL.sAppC, DL.IsI_int, DL.toI_int, DL.IsB_bl, DL.toB_bl, DL.IsS_str, DL.toS_str, DL.IsL_lst, DL.IsU_tup, DL.IsQ_lst, DL.IsQ_tup, DL.toL_lst, DL.toL_tup, DL.drf_int, DL.drf_bl, DL.drf_str, DL.drf_non, DL.drf_lst, DL.drf_tup, DL.drf_obj, DL.drf_upd, DL.lenD_lst, DL.lenD_tup, DL.intD_int, DL.intD_bl, DL.rA_ref, DL.lf_int, DL.lf_bl, DL.lf_non, DL.lf_str, DL.lf_ref, DL.IsC_lst, DL.Ty_int, DL.Ty_tup, DL.Ty_lst, DL.Ty_bl, DL.Ty_str, DL.Ty_non, DL.wipeD, DL.ixQ, DL.tYesF, DL.bAddI, DL.bSub, DL.bMul, DL.bMod, DL.bFdiv, DL.bPow, DL.bMax2, DL.bMin2, DL.cLt, DL.cLe, DL.cGt, DL.cGe, List.set, List.map, List.length, List.length_cons, List.length_nil, List.replicate, List.nil_append, List.cons_append, List.append_nil, Option.isSome_some, Option.getD_some, Option.isSome_none, Bool.not_true, Bool.not_false, and_true, true_and, and_self, implies_true, Nat.zero_add, List.length_set, List.length_replicate]
  simp only [drf_ref hN, DL.sSetZ, DL.sRetZ, DL.sPar1, DL.sSeq, DL.sIf, DL.sSet, DL.sSetM, DL.sSetMN, DL.sAppN, DL.sSetMT, DL.sSetMS, DL.wLc, DL.wYes, DL.wPop, DL.wSl, DL.w1, DL.w1r, DL.lcW, DL.sFor, DL.sNext, DL.sRet, DL.sRetF, DL.sRetN, DL.sDrop, DL.sApp, DL.sAppR, DL.sSetIx, DL.sPar, DL.sParM, DL.sAsg, DL.wP, DL.wT, DL.wA, DL.wCall, DL.wCallP, DL.wACons, DL.wANil, DL.w2, DL.w2c, DL.w2t, DL.wIf, DL.wTup, DL.wLst, DL.wR1, DL.wAnd, DL.wOr, DL.wNot, DL.wTV, DL.pVar, DL.pInt, DL.pBl, DL.pStr, DL.pNon, DL.pDr, DL.pLf, DL.p1, DL.p2, DL.bI, DL.pc2, DL.tc2, DL.cI, DL.pAnd, DL.pOr, DL.pNot, DL.pIf, DL.pIsi, DL.pIsi2, DL.pChain, DL.tOf, DL.tNot1, DL.tAnd2, DL.tOr2, DL.tChn, DL.tIsN, DL.tNotN, DL.pIsN, DL.pNotN, DL.pNeg, DL.pSl, DL.pSlF, DL.pSlU, DL.pRev, DL.sfN, DL.sfS, DL.iU, DL.iL, DL.iR1, DL.iR2, DL.aCons, DL.aNil, DL.pLst, DL.pTup, DL.pLc, DL.pLcF, DL.pCall, DL.lV, DL.lIx, DL.lk, DL.startD, DL.ro, DL.gN, DL.gT, DL.gTL, DL.gC_cons, DL.gNl, DL.iS, DL.iE, DL.sAppC, DL.IsI_int, DL.toI_int, DL.IsB_bl, DL.toB_bl, DL.IsS_str, DL.toS_str, DL.IsL_lst, DL.IsU_tup, DL.IsQ_lst, DL.IsQ_tup, DL.toL_lst, DL.toL_tup, DL.drf_int, DL.drf_bl, DL.drf_str, DL.drf_non, DL.drf_lst, DL.drf_tup, DL.drf_obj, DL.drf_upd, DL.lenD_lst, DL.lenD_tup, DL.intD_int, DL.intD_bl, DL.rA_ref, DL.lf_int, DL.lf_bl, DL.lf_non, DL.lf_str, DL.lf_ref, DL.IsC_lst, DL.Ty_int, DL.Ty_tup, DL.Ty_lst, DL.Ty_bl, DL.Ty_str, DL.Ty_non, DL.wipeD, DL.ixQ, DL.tYesF, DL.bAddI, DL.bSub, DL.bMul, DL.bMod, DL.bFdiv, DL.bPow, DL.bMax2, DL.bMin2, DL.cLt, DL.cLe, DL.cGt, DL.cGe, List.set, List.map, List.length, List.length_cons, List.length_nil, List.replicate, List.nil_append, List.cons_append, List.append_nil, Option.isSome_some, Option.getD_some, Option.isSome_none, Bool.not_true, Bool.not_false, and_true, true_and, and_self, implies_true, Nat.zero_add, List.length_set, List.length_replicate, atI_0, atI_1, atI_2]
  have hc : ∃ c : Int, (if (neT 8 (.lst (cs.map .int)) (.lst [])).b = true then (atI (cs.map D.int) (k % max 1 ↑(cs.map D.int).length)).getD .non else .int 0) = .int c ∧ (neT 8 (.lst (cs.map .int)) (.lst [])).ok ∧
      ((neT 8 (.lst (cs.map .int)) (.lst [])).b = true → (atI (cs.map D.int) (k % max 1 ↑(cs.map D.int).length)).isSome = true ∧ lf ((atI (cs.map D.int) (k % max 1 ↑(cs.map D.int).length)).getD .non)) ∧ (cs = [] → c = 0) := by
    cases cs with
    | nil => exact ⟨0, by simp [neT, eqD_lst, eqDs_nil], by simp [neT, okD], by simp [neT, eqD_lst, eqDs_nil], fun _ => rfl⟩
    | cons x xs =>
      have h4 : (0 : Int) ≤ k % max 1 ↑((x :: xs).map D.int).length := Int.emod_nonneg _ (by omega)
      have h5 : k % max 1 ↑((x :: xs).map D.int).length < max 1 ↑((x :: xs).map D.int).length := Int.emod_lt_of_pos _ (by omega)
      have h6 : (max 1 (((x :: xs).map D.int).length : Int)) = ((x :: xs).length : Nat) := by simp; omega
      have e : atI ((x :: xs).map D.int) (k % max 1 ↑((x :: xs).map D.int).length) = some (.int ((x :: xs).getD (k % max 1 ↑((x :: xs).map D.int).length).toNat 0)) := by
        rw [atI_map, atI_nn h4, getD_list (a := 0) (by rw [h6] at h5 h4 ⊢; omega)]; rfl
      rw [e]
      exact ⟨_, by simp [neT, eqD_lst, eqDs_cn]; rfl, by simp [neT, okD], fun _ => ⟨rfl, by simp [lf]⟩, fun z => by simp at z⟩
  obtain ⟨c, ec, ho, hs, hn⟩ := hc
  refine ⟨by omega, ⟨⟨by simp [SZ], ho⟩, ?_⟩, ?_⟩
  · split
    · rename_i hb; exact hs hb
    · trivial
  rw [ec]
  simp only [DL.sSetZ, DL.sRetZ, DL.sPar1, DL.sSeq, DL.sIf, DL.sSet, DL.sSetM, DL.sSetMN, DL.sAppN, DL.sSetMT, DL.sSetMS, DL.wLc, DL.wYes, DL.wPop, DL.wSl, DL.w1, DL.w1r, DL.lcW, DL.sFor, DL.sNext, DL.sRet, DL.sRetF, DL.sRetN, DL.sDrop, DL.sApp, DL.sAppR, DL.sSetIx, DL.sPar, DL.sParM, DL.sAsg, DL.wP, DL.wT, DL.wA, DL.wCall, DL.wCallP, DL.wACons, DL.wANil, DL.w2, DL.w2c, DL.w2t, DL.wIf, DL.wTup, DL.wLst, DL.wR1, DL.wAnd, DL.wOr, DL.wNot, DL.wTV, DL.pVar, DL.pInt, DL.pBl, DL.pStr, DL.pNon, DL.pDr, DL.pLf, DL.p1, DL.p2, DL.bI, DL.pc2, DL.tc2, DL.cI, DL.pAnd, DL.pOr, DL.pNot, DL.pIf, DL.pIsi, DL.pIsi2, DL.pChain, DL.tOf, DL.tNot1, DL.tAnd2, DL.tOr2, DL.tChn, DL.tIsN, DL.tNotN, DL.pIsN, DL.pNotN, DL.pNeg, DL.pSl, DL.pSlF, DL.pSlU, DL.pRev, DL.sfN, DL.sfS, DL.iU, DL.iL, DL.iR1, DL.iR2, DL.aCons, DL.aNil, DL.pLst, DL.pTup, DL.pLc, DL.pLcF, DL.pCall, DL.lV, DL.lIx, DL.lk, DL.startD, DL.ro, DL.gN, DL.gT, DL.gTL, DL.gC_cons, DL.gNl, DL.iS, DL.iE, DL.sAppC, DL.IsI_int, DL.toI_int, DL.IsB_bl, DL.toB_bl, DL.IsS_str, DL.toS_str, DL.IsL_lst, DL.IsU_tup, DL.IsQ_lst, DL.IsQ_tup, DL.toL_lst, DL.toL_tup, DL.drf_int, DL.drf_bl, DL.drf_str, DL.drf_non, DL.drf_lst, DL.drf_tup, DL.drf_obj, DL.drf_upd, DL.lenD_lst, DL.lenD_tup, DL.intD_int, DL.intD_bl, DL.rA_ref, DL.lf_int, DL.lf_bl, DL.lf_non, DL.lf_str, DL.lf_ref, DL.IsC_lst, DL.Ty_int, DL.Ty_tup, DL.Ty_lst, DL.Ty_bl, DL.Ty_str, DL.Ty_non, DL.wipeD, DL.ixQ, DL.tYesF, DL.bAddI, DL.bSub, DL.bMul, DL.bMod, DL.bFdiv, DL.bPow, DL.bMax2, DL.bMin2, DL.cLt, DL.cLe, DL.cGt, DL.cGe, List.set, List.map, List.length, List.length_cons, List.length_nil, List.replicate, List.nil_append, List.cons_append, List.append_nil, Option.isSome_some, Option.getD_some, Option.isSome_none, Bool.not_true, Bool.not_false, and_true, true_and, and_self, implies_true, Nat.zero_add, List.length_set, List.length_replicate]
  refine ⟨⟨by omega, by omega, by decide⟩, ?_⟩
  split
  · rename_i hbig
    have hbig : (1000000000000000000 : Int) ≤ c := of_decide_eq_true hbig
    have hne : cs ≠ [] := fun z => by have := hn z; omega
    have hl0 : 0 < cs.length := List.length_pos_iff.mpr hne
    have h4 : (0 : Int) ≤ k % max 1 ↑(cs.map D.int).length := Int.emod_nonneg _ (by omega)
    have h5 : k % max 1 ↑(cs.map D.int).length < max 1 ↑(cs.map D.int).length := Int.emod_lt_of_pos _ (by omega)
    have h6 : (max 1 ((cs.map D.int).length : Int)) = (cs.length : Nat) := by simp; omega
    refine ⟨cdivW hm hm2, _, cs.map D.int, (k % max 1 ↑(cs.map D.int).length).toNat, hN, by simp [sub, stpIx, ixN, kids], ?_, hm, ?_⟩
    · rw [List.length_map] at h5 h4 ⊢
      exact ixN_nn h4 (by simp at h6; omega)
    · refine q _ _ (Int.emod_nonneg _ (by omega)) (Int.emod_lt_of_pos _ hm) ⟨s, cs.set (k % max 1 ↑(cs.map D.int).length).toNat (c / many), k, ?_, h1, h2, h3⟩
      simp [put, stpIx, ixN, kids, setKid, dI, List.map_set]
  · refine ⟨⟨⟨.inr ⟨by decide, by decide⟩, .inr ⟨by decide, by decide⟩⟩, by decide⟩, _, _, 0, hN, sub_nil, rfl, ?_⟩
    simp only [put_nil, atI_0, atI_1, atI_2, DL.sSetZ, DL.sRetZ, DL.sPar1, DL.sSeq, DL.sIf, DL.sSet, DL.sSetM, DL.sSetMN, DL.sAppN, DL.sSetMT, DL.sSetMS, DL.wLc, DL.wYes, DL.wPop, DL.wSl, DL.w1, DL.w1r, DL.lcW, DL.sFor, DL.sNext, DL.sRet, DL.sRetF, DL.sRetN, DL.sDrop, DL.sApp, DL.sAppR, DL.sSetIx, DL.sPar, DL.sParM, DL.sAsg, DL.wP, DL.wT, DL.wA, DL.wCall, DL.wCallP, DL.wACons, DL.wANil, DL.w2, DL.w2c, DL.w2t, DL.wIf, DL.wTup, DL.wLst, DL.wR1, DL.wAnd, DL.wOr, DL.wNot, DL.wTV, DL.pVar, DL.pInt, DL.pBl, DL.pStr, DL.pNon, DL.pDr, DL.pLf, DL.p1, DL.p2, DL.bI, DL.pc2, DL.tc2, DL.cI, DL.pAnd, DL.pOr, DL.pNot, DL.pIf, DL.pIsi, DL.pIsi2, DL.pChain, DL.tOf, DL.tNot1, DL.tAnd2, DL.tOr2, DL.tChn, DL.tIsN, DL.tNotN, DL.pIsN, DL.pNotN, DL.pNeg, DL.pSl, DL.pSlF, DL.pSlU, DL.pRev, DL.sfN, DL.sfS, DL.iU, DL.iL, DL.iR1, DL.iR2, DL.aCons, DL.aNil, DL.pLst, DL.pTup, DL.pLc, DL.pLcF, DL.pCall, DL.lV, DL.lIx, DL.lk, DL.startD, DL.ro, DL.gN, DL.gT, DL.gTL, DL.gC_cons, DL.gNl, DL.iS, DL.iE, DL.sAppC, DL.IsI_int, DL.toI_int, DL.IsB_bl, DL.toB_bl, DL.IsS_str, DL.toS_str, DL.IsL_lst, DL.IsU_tup, DL.IsQ_lst, DL.IsQ_tup, DL.toL_lst, DL.toL_tup, DL.drf_int, DL.drf_bl, DL.drf_str, DL.drf_non, DL.drf_lst, DL.drf_tup, DL.drf_obj, DL.drf_upd, DL.lenD_lst, DL.lenD_tup, DL.intD_int, DL.intD_bl, DL.rA_ref, DL.lf_int, DL.lf_bl, DL.lf_non, DL.lf_str, DL.lf_ref, DL.IsC_lst, DL.Ty_int, DL.Ty_tup, DL.Ty_lst, DL.Ty_bl, DL.Ty_str, DL.Ty_non, DL.wipeD, DL.ixQ, DL.tYesF, DL.bAddI, DL.bSub, DL.bMul, DL.bMod, DL.bFdiv, DL.bPow, DL.bMax2, DL.bMin2, DL.cLt, DL.cLe, DL.cGt, DL.cGe, List.set, List.map, List.length, List.length_cons, List.length_nil, List.replicate, List.nil_append, List.cons_append, List.append_nil, Option.isSome_some, Option.getD_some, Option.isSome_none, Bool.not_true, Bool.not_false, and_true, true_and, and_self, implies_true, Nat.zero_add, List.length_set, List.length_replicate]
    refine ⟨_, _, 2, updN_same, sub_nil, rfl, ?_⟩
    simp only [put_nil, atI_0, atI_1, atI_2, DL.sSetZ, DL.sRetZ, DL.sPar1, DL.sSeq, DL.sIf, DL.sSet, DL.sSetM, DL.sSetMN, DL.sAppN, DL.sSetMT, DL.sSetMS, DL.wLc, DL.wYes, DL.wPop, DL.wSl, DL.w1, DL.w1r, DL.lcW, DL.sFor, DL.sNext, DL.sRet, DL.sRetF, DL.sRetN, DL.sDrop, DL.sApp, DL.sAppR, DL.sSetIx, DL.sPar, DL.sParM, DL.sAsg, DL.wP, DL.wT, DL.wA, DL.wCall, DL.wCallP, DL.wACons, DL.wANil, DL.w2, DL.w2c, DL.w2t, DL.wIf, DL.wTup, DL.wLst, DL.wR1, DL.wAnd, DL.wOr, DL.wNot, DL.wTV, DL.pVar, DL.pInt, DL.pBl, DL.pStr, DL.pNon, DL.pDr, DL.pLf, DL.p1, DL.p2, DL.bI, DL.pc2, DL.tc2, DL.cI, DL.pAnd, DL.pOr, DL.pNot, DL.pIf, DL.pIsi, DL.pIsi2, DL.pChain, DL.tOf, DL.tNot1, DL.tAnd2, DL.tOr2, DL.tChn, DL.tIsN, DL.tNotN, DL.pIsN, DL.pNotN, DL.pNeg, DL.pSl, DL.pSlF, DL.pSlU, DL.pRev, DL.sfN, DL.sfS, DL.iU, DL.iL, DL.iR1, DL.iR2, DL.aCons, DL.aNil, DL.pLst, DL.pTup, DL.pLc, DL.pLcF, DL.pCall, DL.lV, DL.lIx, DL.lk, DL.startD, DL.ro, DL.gN, DL.gT, DL.gTL, DL.gC_cons, DL.gNl, DL.iS, DL.iE, DL.sAppC, DL.IsI_int, DL.toI_int, DL.IsB_bl, DL.toB_bl, DL.IsS_str, DL.toS_str, DL.IsL_lst, DL.IsU_tup, DL.IsQ_lst, DL.IsQ_tup, DL.toL_lst, DL.toL_tup, DL.drf_int, DL.drf_bl, DL.drf_str, DL.drf_non, DL.drf_lst, DL.drf_tup, DL.drf_obj, DL.drf_upd, DL.lenD_lst, DL.lenD_tup, DL.intD_int, DL.intD_bl, DL.rA_ref, DL.lf_int, DL.lf_bl, DL.lf_non, DL.lf_str, DL.lf_ref, DL.IsC_lst, DL.Ty_int, DL.Ty_tup, DL.Ty_lst, DL.Ty_bl, DL.Ty_str, DL.Ty_non, DL.wipeD, DL.ixQ, DL.tYesF, DL.bAddI, DL.bSub, DL.bMul, DL.bMod, DL.bFdiv, DL.bPow, DL.bMax2, DL.bMin2, DL.cLt, DL.cLe, DL.cGt, DL.cGe, List.set, List.map, List.length, List.length_cons, List.length_nil, List.replicate, List.nil_append, List.cons_append, List.append_nil, Option.isSome_some, Option.getD_some, Option.isSome_none, Bool.not_true, Bool.not_false, and_true, true_and, and_self, implies_true, Nat.zero_add, List.length_set, List.length_replicate, updN_twice]
    have g1 : (0 : Int) ≤ (s * 48271 + c * 69621 + 11) % 2147483647 := Int.emod_nonneg _ (by decide)
    have g2 : (s * 48271 + c * 69621 + 11) % 2147483647 < 2147483647 := Int.emod_lt_of_pos _ (by decide)
    refine ⟨⟨cdivW (by decide) (by decide), hm⟩, q _ _ (Int.emod_nonneg _ (by omega)) (Int.emod_lt_of_pos _ hm) ⟨_, cs, k + 1, rfl, g1, g2, by omega⟩⟩
theorem Pl.ok : ∀ (n : Nat) (x : D), Pl n x → Ty x
  | 0, _, h => h.elim
  | n + 1, .non, _ | n + 1, .bl _, _ | n + 1, .int _, _ | n + 1, .str _, _ | n + 1, .tup _, _ | n + 1, .lst _, _ => trivial
  | n + 1, .dic _ _, h | n + 1, .obj _ _ _ _, h | n + 1, .ref _, h => h.elim
theorem r_law_alike (n : Nat) (ds : List D) (M : Nm) (hl : ds.length = 2) (h : (phr_law_alike (n + 1) ds M).ok) : w_law_alike n { nx := fun _ _ => (phr_law_alike (n + 1) ds M).val = .non, rt := fun d M' => RES M' d (phr_law_alike (n + 1) ds M).val } (startD n_law_alike.length ds) (ro M) := by
  obtain ⟨x, rfl, hp⟩ := h
  show w_law_alike n { nx := fun _ _ => (D.bl true) = .non, rt := fun d M' => RES M' d (.bl true) } [some x, some x, none] (ro M)
  simp only [w_law_alike, DL.sSetZ, DL.sRetZ, DL.sPar1, DL.sSeq, DL.sIf, DL.sSet, DL.sSetM, DL.sSetMN, DL.sAppN, DL.sSetMT, DL.sSetMS, DL.wLc, DL.wYes, DL.wPop, DL.wSl, DL.w1, DL.w1r, DL.lcW, DL.sFor, DL.sNext, DL.sRet, DL.sRetF, DL.sRetN, DL.sDrop, DL.sApp, DL.sAppR, DL.sSetIx, DL.sPar, DL.sParM, DL.sAsg, DL.wP, DL.wT, DL.wA, DL.wCall, DL.wCallP, DL.wACons, DL.wANil, DL.w2, DL.w2c, DL.w2t, DL.wIf, DL.wTup, DL.wLst, DL.wR1, DL.wAnd, DL.wOr, DL.wNot, DL.wTV, DL.pVar, DL.pInt, DL.pBl, DL.pStr, DL.pNon, DL.pDr, DL.pLf, DL.p1, DL.p2, DL.bI, DL.pc2, DL.tc2, DL.cI, DL.pAnd, DL.pOr, DL.pNot, DL.pIf, DL.pIsi, DL.pIsi2, DL.pChain, DL.tOf, DL.tNot1, DL.tAnd2, DL.tOr2, DL.tChn, DL.tIsN, DL.tNotN, DL.pIsN, DL.pNotN, DL.pNeg, DL.pSl, DL.pSlF, DL.pSlU, DL.pRev, DL.sfN, DL.sfS, DL.iU, DL.iL, DL.iR1, DL.iR2, DL.aCons, DL.aNil, DL.pLst, DL.pTup, DL.pLc, DL.pLcF, DL.pCall, DL.lV, DL.lIx, DL.lk, DL.startD, DL.ro, DL.gN, DL.gT, DL.gTL, DL.gC_cons, DL.gNl, DL.iS, DL.iE, DL.sAppC, DL.IsI_int, DL.toI_int, DL.IsB_bl, DL.toB_bl, DL.IsS_str, DL.toS_str, DL.IsL_lst, DL.IsU_tup, DL.IsQ_lst, DL.IsQ_tup, DL.toL_lst, DL.toL_tup, DL.drf_int, DL.drf_bl, DL.drf_str, DL.drf_non, DL.drf_lst, DL.drf_tup, DL.drf_obj, DL.drf_upd, DL.lenD_lst, DL.lenD_tup, DL.intD_int, DL.intD_bl, DL.rA_ref, DL.lf_int, DL.lf_bl, DL.lf_non, DL.lf_str, DL.lf_ref, DL.IsC_lst, DL.Ty_int, DL.Ty_tup, DL.Ty_lst, DL.Ty_bl, DL.Ty_str, DL.Ty_non, DL.wipeD, DL.ixQ, DL.tYesF, DL.bAddI, DL.bSub, DL.bMul, DL.bMod, DL.bFdiv, DL.bPow, DL.bMax2, DL.bMin2, DL.cLt, DL.cLe, DL.cGt, DL.cGe, List.set, List.map, List.length, List.length_cons, List.length_nil, List.replicate, List.nil_append, List.cons_append, List.append_nil, Option.isSome_some, Option.getD_some, Option.isSome_none, Bool.not_true, Bool.not_false, and_true, true_and, and_self, implies_true, Nat.zero_add, List.length_set, List.length_replicate]
  have hseq : ∀ xs : List D, xs.length ≤ 100000 → (∀ x ∈ xs, Pl n x) → 
      (∀ d ∈ (rng 0 (xs.length : Int).toNat).map D.int, IsI (drf (ro M) d) ∧ (atI xs (toI (drf (ro M) d))).isSome = true ∧ (phr_law_alike n [(atI xs (toI (drf (ro M) d))).getD .non, (atI xs (toI (drf (ro M) d))).getD .non] (ro M)).ok ∧ (phr_law_alike n [(atI xs (toI (drf (ro M) d))).getD .non, (atI xs (toI (drf (ro M) d))).getD .non] (ro M)).val = .bl true) := fun xs h1 h2 d hd => by
    obtain ⟨i, hi, rfl⟩ := List.mem_map.mp hd
    obtain ⟨j, hj⟩ := List.getElem?_of_mem hi
    have hj2 : j < xs.length := by
      have := (List.getElem?_eq_some_iff.mp hj).1; simpa [rng_length] using this
    rw [rng_get _ _ _ (by simpa using hj2)] at hj
    have : i = (j : Int) := by simp at hj; omega
    subst this
    have ea : atI xs (toI (drf (ro M) (.int (j : Int)))) = some xs[j] := by
      rw [drf_int, toI_int, DL.atI_nat, List.getElem?_eq_getElem hj2]
    have hpl := h2 xs[j] (List.getElem_mem hj2)
    rw [ea]
    refine ⟨trivial, rfl, ?_⟩
    cases n with
    | zero => exact hpl.elim
    | succ n => exact ⟨⟨_, rfl, hpl⟩, rfl⟩
  cases x with
  | non => simp [isiB, tyN, isN, RES_bl, DL.sSetZ, DL.sRetZ, DL.sPar1, DL.sSeq, DL.sIf, DL.sSet, DL.sSetM, DL.sSetMN, DL.sAppN, DL.sSetMT, DL.sSetMS, DL.wLc, DL.wYes, DL.wPop, DL.wSl, DL.w1, DL.w1r, DL.lcW, DL.sFor, DL.sNext, DL.sRet, DL.sRetF, DL.sRetN, DL.sDrop, DL.sApp, DL.sAppR, DL.sSetIx, DL.sPar, DL.sParM, DL.sAsg, DL.wP, DL.wT, DL.wA, DL.wCall, DL.wCallP, DL.wACons, DL.wANil, DL.w2, DL.w2c, DL.w2t, DL.wIf, DL.wTup, DL.wLst, DL.wR1, DL.wAnd, DL.wOr, DL.wNot, DL.wTV, DL.pVar, DL.pInt, DL.pBl, DL.pStr, DL.pNon, DL.pDr, DL.pLf, DL.p1, DL.p2, DL.bI, DL.pc2, DL.tc2, DL.cI, DL.pAnd, DL.pOr, DL.pNot, DL.pIf, DL.pIsi, DL.pIsi2, DL.pChain, DL.tOf, DL.tNot1, DL.tAnd2, DL.tOr2, DL.tChn, DL.tIsN, DL.tNotN, DL.pIsN, DL.pNotN, DL.pNeg, DL.pSl, DL.pSlF, DL.pSlU, DL.pRev, DL.sfN, DL.sfS, DL.iU, DL.iL, DL.iR1, DL.iR2, DL.aCons, DL.aNil, DL.pLst, DL.pTup, DL.pLc, DL.pLcF, DL.pCall, DL.lV, DL.lIx, DL.lk, DL.startD, DL.ro, DL.gN, DL.gT, DL.gTL, DL.gC_cons, DL.gNl, DL.iS, DL.iE, DL.sAppC, DL.IsI_int, DL.toI_int, DL.IsB_bl, DL.toB_bl, DL.IsS_str, DL.toS_str, DL.IsL_lst, DL.IsU_tup, DL.IsQ_lst, DL.IsQ_tup, DL.toL_lst, DL.toL_tup, DL.drf_int, DL.drf_bl, DL.drf_str, DL.drf_non, DL.drf_lst, DL.drf_tup, DL.drf_obj, DL.drf_upd, DL.lenD_lst, DL.lenD_tup, DL.intD_int, DL.intD_bl, DL.rA_ref, DL.lf_int, DL.lf_bl, DL.lf_non, DL.lf_str, DL.lf_ref, DL.IsC_lst, DL.Ty_int, DL.Ty_tup, DL.Ty_lst, DL.Ty_bl, DL.Ty_str, DL.Ty_non, DL.wipeD, DL.ixQ, DL.tYesF, DL.bAddI, DL.bSub, DL.bMul, DL.bMod, DL.bFdiv, DL.bPow, DL.bMax2, DL.bMin2, DL.cLt, DL.cLe, DL.cGt, DL.cGe, List.set, List.map, List.length, List.length_cons, List.length_nil, List.replicate, List.nil_append, List.cons_append, List.append_nil, Option.isSome_some, Option.getD_some, Option.isSome_none, Bool.not_true, Bool.not_false, and_true, true_and, and_self, implies_true, Nat.zero_add, List.length_set, List.length_replicate]
  | bl b => simp [isiB, tyN, isN, RES_bl, eqT, okD, eqD_bl, DL.sSetZ, DL.sRetZ, DL.sPar1, DL.sSeq, DL.sIf, DL.sSet, DL.sSetM, DL.sSetMN, DL.sAppN, DL.sSetMT, DL.sSetMS, DL.wLc, DL.wYes, DL.wPop, DL.wSl, DL.w1, DL.w1r, DL.lcW, DL.sFor, DL.sNext, DL.sRet, DL.sRetF, DL.sRetN, DL.sDrop, DL.sApp, DL.sAppR, DL.sSetIx, DL.sPar, DL.sParM, DL.sAsg, DL.wP, DL.wT, DL.wA, DL.wCall, DL.wCallP, DL.wACons, DL.wANil, DL.w2, DL.w2c, DL.w2t, DL.wIf, DL.wTup, DL.wLst, DL.wR1, DL.wAnd, DL.wOr, DL.wNot, DL.wTV, DL.pVar, DL.pInt, DL.pBl, DL.pStr, DL.pNon, DL.pDr, DL.pLf, DL.p1, DL.p2, DL.bI, DL.pc2, DL.tc2, DL.cI, DL.pAnd, DL.pOr, DL.pNot, DL.pIf, DL.pIsi, DL.pIsi2, DL.pChain, DL.tOf, DL.tNot1, DL.tAnd2, DL.tOr2, DL.tChn, DL.tIsN, DL.tNotN, DL.pIsN, DL.pNotN, DL.pNeg, DL.pSl, DL.pSlF, DL.pSlU, DL.pRev, DL.sfN, DL.sfS, DL.iU, DL.iL, DL.iR1, DL.iR2, DL.aCons, DL.aNil, DL.pLst, DL.pTup, DL.pLc, DL.pLcF, DL.pCall, DL.lV, DL.lIx, DL.lk, DL.startD, DL.ro, DL.gN, DL.gT, DL.gTL, DL.gC_cons, DL.gNl, DL.iS, DL.iE, DL.sAppC, DL.IsI_int, DL.toI_int, DL.IsB_bl, DL.toB_bl, DL.IsS_str, DL.toS_str, DL.IsL_lst, DL.IsU_tup, DL.IsQ_lst, DL.IsQ_tup, DL.toL_lst, DL.toL_tup, DL.drf_int, DL.drf_bl, DL.drf_str, DL.drf_non, DL.drf_lst, DL.drf_tup, DL.drf_obj, DL.drf_upd, DL.lenD_lst, DL.lenD_tup, DL.intD_int, DL.intD_bl, DL.rA_ref, DL.lf_int, DL.lf_bl, DL.lf_non, DL.lf_str, DL.lf_ref, DL.IsC_lst, DL.Ty_int, DL.Ty_tup, DL.Ty_lst, DL.Ty_bl, DL.Ty_str, DL.Ty_non, DL.wipeD, DL.ixQ, DL.tYesF, DL.bAddI, DL.bSub, DL.bMul, DL.bMod, DL.bFdiv, DL.bPow, DL.bMax2, DL.bMin2, DL.cLt, DL.cLe, DL.cGt, DL.cGe, List.set, List.map, List.length, List.length_cons, List.length_nil, List.replicate, List.nil_append, List.cons_append, List.append_nil, Option.isSome_some, Option.getD_some, Option.isSome_none, Bool.not_true, Bool.not_false, and_true, true_and, and_self, implies_true, Nat.zero_add, List.length_set, List.length_replicate]
  | int b => simp [isiB, tyN, isN, RES_bl, eqT, okD, eqD_int, DL.sSetZ, DL.sRetZ, DL.sPar1, DL.sSeq, DL.sIf, DL.sSet, DL.sSetM, DL.sSetMN, DL.sAppN, DL.sSetMT, DL.sSetMS, DL.wLc, DL.wYes, DL.wPop, DL.wSl, DL.w1, DL.w1r, DL.lcW, DL.sFor, DL.sNext, DL.sRet, DL.sRetF, DL.sRetN, DL.sDrop, DL.sApp, DL.sAppR, DL.sSetIx, DL.sPar, DL.sParM, DL.sAsg, DL.wP, DL.wT, DL.wA, DL.wCall, DL.wCallP, DL.wACons, DL.wANil, DL.w2, DL.w2c, DL.w2t, DL.wIf, DL.wTup, DL.wLst, DL.wR1, DL.wAnd, DL.wOr, DL.wNot, DL.wTV, DL.pVar, DL.pInt, DL.pBl, DL.pStr, DL.pNon, DL.pDr, DL.pLf, DL.p1, DL.p2, DL.bI, DL.pc2, DL.tc2, DL.cI, DL.pAnd, DL.pOr, DL.pNot, DL.pIf, DL.pIsi, DL.pIsi2, DL.pChain, DL.tOf, DL.tNot1, DL.tAnd2, DL.tOr2, DL.tChn, DL.tIsN, DL.tNotN, DL.pIsN, DL.pNotN, DL.pNeg, DL.pSl, DL.pSlF, DL.pSlU, DL.pRev, DL.sfN, DL.sfS, DL.iU, DL.iL, DL.iR1, DL.iR2, DL.aCons, DL.aNil, DL.pLst, DL.pTup, DL.pLc, DL.pLcF, DL.pCall, DL.lV, DL.lIx, DL.lk, DL.startD, DL.ro, DL.gN, DL.gT, DL.gTL, DL.gC_cons, DL.gNl, DL.iS, DL.iE, DL.sAppC, DL.IsI_int, DL.toI_int, DL.IsB_bl, DL.toB_bl, DL.IsS_str, DL.toS_str, DL.IsL_lst, DL.IsU_tup, DL.IsQ_lst, DL.IsQ_tup, DL.toL_lst, DL.toL_tup, DL.drf_int, DL.drf_bl, DL.drf_str, DL.drf_non, DL.drf_lst, DL.drf_tup, DL.drf_obj, DL.drf_upd, DL.lenD_lst, DL.lenD_tup, DL.intD_int, DL.intD_bl, DL.rA_ref, DL.lf_int, DL.lf_bl, DL.lf_non, DL.lf_str, DL.lf_ref, DL.IsC_lst, DL.Ty_int, DL.Ty_tup, DL.Ty_lst, DL.Ty_bl, DL.Ty_str, DL.Ty_non, DL.wipeD, DL.ixQ, DL.tYesF, DL.bAddI, DL.bSub, DL.bMul, DL.bMod, DL.bFdiv, DL.bPow, DL.bMax2, DL.bMin2, DL.cLt, DL.cLe, DL.cGt, DL.cGe, List.set, List.map, List.length, List.length_cons, List.length_nil, List.replicate, List.nil_append, List.cons_append, List.append_nil, Option.isSome_some, Option.getD_some, Option.isSome_none, Bool.not_true, Bool.not_false, and_true, true_and, and_self, implies_true, Nat.zero_add, List.length_set, List.length_replicate]
  | str b => 
    have hp : PyData.strOk b = true := hp
    simp [isiB, tyN, isN, RES_bl, eqT, okD, eqD_str, hp, DL.sSetZ, DL.sRetZ, DL.sPar1, DL.sSeq, DL.sIf, DL.sSet, DL.sSetM, DL.sSetMN, DL.sAppN, DL.sSetMT, DL.sSetMS, DL.wLc, DL.wYes, DL.wPop, DL.wSl, DL.w1, DL.w1r, DL.lcW, DL.sFor, DL.sNext, DL.sRet, DL.sRetF, DL.sRetN, DL.sDrop, DL.sApp, DL.sAppR, DL.sSetIx, DL.sPar, DL.sParM, DL.sAsg, DL.wP, DL.wT, DL.wA, DL.wCall, DL.wCallP, DL.wACons, DL.wANil, DL.w2, DL.w2c, DL.w2t, DL.wIf, DL.wTup, DL.wLst, DL.wR1, DL.wAnd, DL.wOr, DL.wNot, DL.wTV, DL.pVar, DL.pInt, DL.pBl, DL.pStr, DL.pNon, DL.pDr, DL.pLf, DL.p1, DL.p2, DL.bI, DL.pc2, DL.tc2, DL.cI, DL.pAnd, DL.pOr, DL.pNot, DL.pIf, DL.pIsi, DL.pIsi2, DL.pChain, DL.tOf, DL.tNot1, DL.tAnd2, DL.tOr2, DL.tChn, DL.tIsN, DL.tNotN, DL.pIsN, DL.pNotN, DL.pNeg, DL.pSl, DL.pSlF, DL.pSlU, DL.pRev, DL.sfN, DL.sfS, DL.iU, DL.iL, DL.iR1, DL.iR2, DL.aCons, DL.aNil, DL.pLst, DL.pTup, DL.pLc, DL.pLcF, DL.pCall, DL.lV, DL.lIx, DL.lk, DL.startD, DL.ro, DL.gN, DL.gT, DL.gTL, DL.gC_cons, DL.gNl, DL.iS, DL.iE, DL.sAppC, DL.IsI_int, DL.toI_int, DL.IsB_bl, DL.toB_bl, DL.IsS_str, DL.toS_str, DL.IsL_lst, DL.IsU_tup, DL.IsQ_lst, DL.IsQ_tup, DL.toL_lst, DL.toL_tup, DL.drf_int, DL.drf_bl, DL.drf_str, DL.drf_non, DL.drf_lst, DL.drf_tup, DL.drf_obj, DL.drf_upd, DL.lenD_lst, DL.lenD_tup, DL.intD_int, DL.intD_bl, DL.rA_ref, DL.lf_int, DL.lf_bl, DL.lf_non, DL.lf_str, DL.lf_ref, DL.IsC_lst, DL.Ty_int, DL.Ty_tup, DL.Ty_lst, DL.Ty_bl, DL.Ty_str, DL.Ty_non, DL.wipeD, DL.ixQ, DL.tYesF, DL.bAddI, DL.bSub, DL.bMul, DL.bMod, DL.bFdiv, DL.bPow, DL.bMax2, DL.bMin2, DL.cLt, DL.cLe, DL.cGt, DL.cGe, List.set, List.map, List.length, List.length_cons, List.length_nil, List.replicate, List.nil_append, List.cons_append, List.append_nil, Option.isSome_some, Option.getD_some, Option.isSome_none, Bool.not_true, Bool.not_false, and_true, true_and, and_self, implies_true, Nat.zero_add, List.length_set, List.length_replicate]
  | lst xs =>
    obtain ⟨hp1, hp2⟩ : xs.length ≤ 100000 ∧ ∀ x ∈ xs, Pl n x := hp
    have hq := hseq xs hp1 hp2
    rw [lcRes_gen (fun _ => false) (fun d => d) (fun d hd => ⟨by
      obtain ⟨h1, h2, h3, h4⟩ := hq d hd
      simp only [DL.sSetZ, DL.sRetZ, DL.sPar1, DL.sSeq, DL.sIf, DL.sSet, DL.sSetM, DL.sSetMN, DL.sAppN, DL.sSetMT, DL.sSetMS, DL.wLc, DL.wYes, DL.wPop, DL.wSl, DL.w1, DL.w1r, DL.lcW, DL.sFor, DL.sNext, DL.sRet, DL.sRetF, DL.sRetN, DL.sDrop, DL.sApp, DL.sAppR, DL.sSetIx, DL.sPar, DL.sParM, DL.sAsg, DL.wP, DL.wT, DL.wA, DL.wCall, DL.wCallP, DL.wACons, DL.wANil, DL.w2, DL.w2c, DL.w2t, DL.wIf, DL.wTup, DL.wLst, DL.wR1, DL.wAnd, DL.wOr, DL.wNot, DL.wTV, DL.pVar, DL.pInt, DL.pBl, DL.pStr, DL.pNon, DL.pDr, DL.pLf, DL.p1, DL.p2, DL.bI, DL.pc2, DL.tc2, DL.cI, DL.pAnd, DL.pOr, DL.pNot, DL.pIf, DL.pIsi, DL.pIsi2, DL.pChain, DL.tOf, DL.tNot1, DL.tAnd2, DL.tOr2, DL.tChn, DL.tIsN, DL.tNotN, DL.pIsN, DL.pNotN, DL.pNeg, DL.pSl, DL.pSlF, DL.pSlU, DL.pRev, DL.sfN, DL.sfS, DL.iU, DL.iL, DL.iR1, DL.iR2, DL.aCons, DL.aNil, DL.pLst, DL.pTup, DL.pLc, DL.pLcF, DL.pCall, DL.lV, DL.lIx, DL.lk, DL.startD, DL.ro, DL.gN, DL.gT, DL.gTL, DL.gC_cons, DL.gNl, DL.iS, DL.iE, DL.sAppC, DL.IsI_int, DL.toI_int, DL.IsB_bl, DL.toB_bl, DL.IsS_str, DL.toS_str, DL.IsL_lst, DL.IsU_tup, DL.IsQ_lst, DL.IsQ_tup, DL.toL_lst, DL.toL_tup, DL.drf_int, DL.drf_bl, DL.drf_str, DL.drf_non, DL.drf_lst, DL.drf_tup, DL.drf_obj, DL.drf_upd, DL.lenD_lst, DL.lenD_tup, DL.intD_int, DL.intD_bl, DL.rA_ref, DL.lf_int, DL.lf_bl, DL.lf_non, DL.lf_str, DL.lf_ref, DL.IsC_lst, DL.Ty_int, DL.Ty_tup, DL.Ty_lst, DL.Ty_bl, DL.Ty_str, DL.Ty_non, DL.wipeD, DL.ixQ, DL.tYesF, DL.bAddI, DL.bSub, DL.bMul, DL.bMod, DL.bFdiv, DL.bPow, DL.bMax2, DL.bMin2, DL.cLt, DL.cLe, DL.cGt, DL.cGe, List.set, List.map, List.length, List.length_cons, List.length_nil, List.replicate, List.nil_append, List.cons_append, List.append_nil, Option.isSome_some, Option.getD_some, Option.isSome_none, Bool.not_true, Bool.not_false, and_true, true_and, and_self, implies_true, Nat.zero_add, List.length_set, List.length_replicate, h4], fun z => nomatch z⟩)]
    simp [isiB, tyN, isN, RES_bl, eqT, neT, okD, eqD_bl, eqD_int, eqD_lst, eqDs_nil, DL.sSetZ, DL.sRetZ, DL.sPar1, DL.sSeq, DL.sIf, DL.sSet, DL.sSetM, DL.sSetMN, DL.sAppN, DL.sSetMT, DL.sSetMS, DL.wLc, DL.wYes, DL.wPop, DL.wSl, DL.w1, DL.w1r, DL.lcW, DL.sFor, DL.sNext, DL.sRet, DL.sRetF, DL.sRetN, DL.sDrop, DL.sApp, DL.sAppR, DL.sSetIx, DL.sPar, DL.sParM, DL.sAsg, DL.wP, DL.wT, DL.wA, DL.wCall, DL.wCallP, DL.wACons, DL.wANil, DL.w2, DL.w2c, DL.w2t, DL.wIf, DL.wTup, DL.wLst, DL.wR1, DL.wAnd, DL.wOr, DL.wNot, DL.wTV, DL.pVar, DL.pInt, DL.pBl, DL.pStr, DL.pNon, DL.pDr, DL.pLf, DL.p1, DL.p2, DL.bI, DL.pc2, DL.tc2, DL.cI, DL.pAnd, DL.pOr, DL.pNot, DL.pIf, DL.pIsi, DL.pIsi2, DL.pChain, DL.tOf, DL.tNot1, DL.tAnd2, DL.tOr2, DL.tChn, DL.tIsN, DL.tNotN, DL.pIsN, DL.pNotN, DL.pNeg, DL.pSl, DL.pSlF, DL.pSlU, DL.pRev, DL.sfN, DL.sfS, DL.iU, DL.iL, DL.iR1, DL.iR2, DL.aCons, DL.aNil, DL.pLst, DL.pTup, DL.pLc, DL.pLcF, DL.pCall, DL.lV, DL.lIx, DL.lk, DL.startD, DL.ro, DL.gN, DL.gT, DL.gTL, DL.gC_cons, DL.gNl, DL.iS, DL.iE, DL.sAppC, DL.IsI_int, DL.toI_int, DL.IsB_bl, DL.toB_bl, DL.IsS_str, DL.toS_str, DL.IsL_lst, DL.IsU_tup, DL.IsQ_lst, DL.IsQ_tup, DL.toL_lst, DL.toL_tup, DL.drf_int, DL.drf_bl, DL.drf_str, DL.drf_non, DL.drf_lst, DL.drf_tup, DL.drf_obj, DL.drf_upd, DL.lenD_lst, DL.lenD_tup, DL.intD_int, DL.intD_bl, DL.rA_ref, DL.lf_int, DL.lf_bl, DL.lf_non, DL.lf_str, DL.lf_ref, DL.IsC_lst, DL.Ty_int, DL.Ty_tup, DL.Ty_lst, DL.Ty_bl, DL.Ty_str, DL.Ty_non, DL.wipeD, DL.ixQ, DL.tYesF, DL.bAddI, DL.bSub, DL.bMul, DL.bMod, DL.bFdiv, DL.bPow, DL.bMax2, DL.bMin2, DL.cLt, DL.cLe, DL.cGt, DL.cGe, List.set, List.map, List.length, List.length_cons, List.length_nil, List.replicate, List.nil_append, List.cons_append, List.append_nil, Option.isSome_some, Option.getD_some, Option.isSome_none, Bool.not_true, Bool.not_false, and_true, true_and, and_self, implies_true, Nat.zero_add, List.length_set, List.length_replicate]
    refine ⟨⟨by omega, by rw [rng_length]; simp [SZ]; omega, fun d hd => ?_⟩, by rw [show List.filter (fun x => false) (List.map D.int (rng 0 xs.length)) = [] from List.filter_eq_nil_iff.mpr fun _ _ => Bool.false_ne_true]; exact eqDs_nil⟩
    obtain ⟨h1, h2, h3, h4⟩ := hq _ (List.mem_map.mpr ⟨d, hd, rfl⟩)
    simp only [DL.sSetZ, DL.sRetZ, DL.sPar1, DL.sSeq, DL.sIf, DL.sSet, DL.sSetM, DL.sSetMN, DL.sAppN, DL.sSetMT, DL.sSetMS, DL.wLc, DL.wYes, DL.wPop, DL.wSl, DL.w1, DL.w1r, DL.lcW, DL.sFor, DL.sNext, DL.sRet, DL.sRetF, DL.sRetN, DL.sDrop, DL.sApp, DL.sAppR, DL.sSetIx, DL.sPar, DL.sParM, DL.sAsg, DL.wP, DL.wT, DL.wA, DL.wCall, DL.wCallP, DL.wACons, DL.wANil, DL.w2, DL.w2c, DL.w2t, DL.wIf, DL.wTup, DL.wLst, DL.wR1, DL.wAnd, DL.wOr, DL.wNot, DL.wTV, DL.pVar, DL.pInt, DL.pBl, DL.pStr, DL.pNon, DL.pDr, DL.pLf, DL.p1, DL.p2, DL.bI, DL.pc2, DL.tc2, DL.cI, DL.pAnd, DL.pOr, DL.pNot, DL.pIf, DL.pIsi, DL.pIsi2, DL.pChain, DL.tOf, DL.tNot1, DL.tAnd2, DL.tOr2, DL.tChn, DL.tIsN, DL.tNotN, DL.pIsN, DL.pNotN, DL.pNeg, DL.pSl, DL.pSlF, DL.pSlU, DL.pRev, DL.sfN, DL.sfS, DL.iU, DL.iL, DL.iR1, DL.iR2, DL.aCons, DL.aNil, DL.pLst, DL.pTup, DL.pLc, DL.pLcF, DL.pCall, DL.lV, DL.lIx, DL.lk, DL.startD, DL.ro, DL.gN, DL.gT, DL.gTL, DL.gC_cons, DL.gNl, DL.iS, DL.iE, DL.sAppC, DL.IsI_int, DL.toI_int, DL.IsB_bl, DL.toB_bl, DL.IsS_str, DL.toS_str, DL.IsL_lst, DL.IsU_tup, DL.IsQ_lst, DL.IsQ_tup, DL.toL_lst, DL.toL_tup, DL.drf_int, DL.drf_bl, DL.drf_str, DL.drf_non, DL.drf_lst, DL.drf_tup, DL.drf_obj, DL.drf_upd, DL.lenD_lst, DL.lenD_tup, DL.intD_int, DL.intD_bl, DL.rA_ref, DL.lf_int, DL.lf_bl, DL.lf_non, DL.lf_str, DL.lf_ref, DL.IsC_lst, DL.Ty_int, DL.Ty_tup, DL.Ty_lst, DL.Ty_bl, DL.Ty_str, DL.Ty_non, DL.wipeD, DL.ixQ, DL.tYesF, DL.bAddI, DL.bSub, DL.bMul, DL.bMod, DL.bFdiv, DL.bPow, DL.bMax2, DL.bMin2, DL.cLt, DL.cLe, DL.cGt, DL.cGe, List.set, List.map, List.length, List.length_cons, List.length_nil, List.replicate, List.nil_append, List.cons_append, List.append_nil, Option.isSome_some, Option.getD_some, Option.isSome_none, Bool.not_true, Bool.not_false, and_true, true_and, and_self, implies_true, Nat.zero_add, List.length_set, List.length_replicate] at h2 h3 h4
    exact ⟨⟨h2, h3⟩, by rw [h4]; trivial⟩
  | tup xs => 
    obtain ⟨hp1, hp2⟩ : xs.length ≤ 100000 ∧ ∀ x ∈ xs, Pl n x := hp
    have hq := hseq xs hp1 hp2
    rw [lcRes_gen (fun _ => false) (fun d => d) (fun d hd => ⟨by
      obtain ⟨h1, h2, h3, h4⟩ := hq d hd
      simp only [DL.sSetZ, DL.sRetZ, DL.sPar1, DL.sSeq, DL.sIf, DL.sSet, DL.sSetM, DL.sSetMN, DL.sAppN, DL.sSetMT, DL.sSetMS, DL.wLc, DL.wYes, DL.wPop, DL.wSl, DL.w1, DL.w1r, DL.lcW, DL.sFor, DL.sNext, DL.sRet, DL.sRetF, DL.sRetN, DL.sDrop, DL.sApp, DL.sAppR, DL.sSetIx, DL.sPar, DL.sParM, DL.sAsg, DL.wP, DL.wT, DL.wA, DL.wCall, DL.wCallP, DL.wACons, DL.wANil, DL.w2, DL.w2c, DL.w2t, DL.wIf, DL.wTup, DL.wLst, DL.wR1, DL.wAnd, DL.wOr, DL.wNot, DL.wTV, DL.pVar, DL.pInt, DL.pBl, DL.pStr, DL.pNon, DL.pDr, DL.pLf, DL.p1, DL.p2, DL.bI, DL.pc2, DL.tc2, DL.cI, DL.pAnd, DL.pOr, DL.pNot, DL.pIf, DL.pIsi, DL.pIsi2, DL.pChain, DL.tOf, DL.tNot1, DL.tAnd2, DL.tOr2, DL.tChn, DL.tIsN, DL.tNotN, DL.pIsN, DL.pNotN, DL.pNeg, DL.pSl, DL.pSlF, DL.pSlU, DL.pRev, DL.sfN, DL.sfS, DL.iU, DL.iL, DL.iR1, DL.iR2, DL.aCons, DL.aNil, DL.pLst, DL.pTup, DL.pLc, DL.pLcF, DL.pCall, DL.lV, DL.lIx, DL.lk, DL.startD, DL.ro, DL.gN, DL.gT, DL.gTL, DL.gC_cons, DL.gNl, DL.iS, DL.iE, DL.sAppC, DL.IsI_int, DL.toI_int, DL.IsB_bl, DL.toB_bl, DL.IsS_str, DL.toS_str, DL.IsL_lst, DL.IsU_tup, DL.IsQ_lst, DL.IsQ_tup, DL.toL_lst, DL.toL_tup, DL.drf_int, DL.drf_bl, DL.drf_str, DL.drf_non, DL.drf_lst, DL.drf_tup, DL.drf_obj, DL.drf_upd, DL.lenD_lst, DL.lenD_tup, DL.intD_int, DL.intD_bl, DL.rA_ref, DL.lf_int, DL.lf_bl, DL.lf_non, DL.lf_str, DL.lf_ref, DL.IsC_lst, DL.Ty_int, DL.Ty_tup, DL.Ty_lst, DL.Ty_bl, DL.Ty_str, DL.Ty_non, DL.wipeD, DL.ixQ, DL.tYesF, DL.bAddI, DL.bSub, DL.bMul, DL.bMod, DL.bFdiv, DL.bPow, DL.bMax2, DL.bMin2, DL.cLt, DL.cLe, DL.cGt, DL.cGe, List.set, List.map, List.length, List.length_cons, List.length_nil, List.replicate, List.nil_append, List.cons_append, List.append_nil, Option.isSome_some, Option.getD_some, Option.isSome_none, Bool.not_true, Bool.not_false, and_true, true_and, and_self, implies_true, Nat.zero_add, List.length_set, List.length_replicate, h4], fun z => nomatch z⟩)]
    simp [isiB, tyN, isN, RES_bl, eqT, neT, okD, eqD_bl, eqD_int, eqD_lst, eqDs_nil, DL.sSetZ, DL.sRetZ, DL.sPar1, DL.sSeq, DL.sIf, DL.sSet, DL.sSetM, DL.sSetMN, DL.sAppN, DL.sSetMT, DL.sSetMS, DL.wLc, DL.wYes, DL.wPop, DL.wSl, DL.w1, DL.w1r, DL.lcW, DL.sFor, DL.sNext, DL.sRet, DL.sRetF, DL.sRetN, DL.sDrop, DL.sApp, DL.sAppR, DL.sSetIx, DL.sPar, DL.sParM, DL.sAsg, DL.wP, DL.wT, DL.wA, DL.wCall, DL.wCallP, DL.wACons, DL.wANil, DL.w2, DL.w2c, DL.w2t, DL.wIf, DL.wTup, DL.wLst, DL.wR1, DL.wAnd, DL.wOr, DL.wNot, DL.wTV, DL.pVar, DL.pInt, DL.pBl, DL.pStr, DL.pNon, DL.pDr, DL.pLf, DL.p1, DL.p2, DL.bI, DL.pc2, DL.tc2, DL.cI, DL.pAnd, DL.pOr, DL.pNot, DL.pIf, DL.pIsi, DL.pIsi2, DL.pChain, DL.tOf, DL.tNot1, DL.tAnd2, DL.tOr2, DL.tChn, DL.tIsN, DL.tNotN, DL.pIsN, DL.pNotN, DL.pNeg, DL.pSl, DL.pSlF, DL.pSlU, DL.pRev, DL.sfN, DL.sfS, DL.iU, DL.iL, DL.iR1, DL.iR2, DL.aCons, DL.aNil, DL.pLst, DL.pTup, DL.pLc, DL.pLcF, DL.pCall, DL.lV, DL.lIx, DL.lk, DL.startD, DL.ro, DL.gN, DL.gT, DL.gTL, DL.gC_cons, DL.gNl, DL.iS, DL.iE, DL.sAppC, DL.IsI_int, DL.toI_int, DL.IsB_bl, DL.toB_bl, DL.IsS_str, DL.toS_str, DL.IsL_lst, DL.IsU_tup, DL.IsQ_lst, DL.IsQ_tup, DL.toL_lst, DL.toL_tup, DL.drf_int, DL.drf_bl, DL.drf_str, DL.drf_non, DL.drf_lst, DL.drf_tup, DL.drf_obj, DL.drf_upd, DL.lenD_lst, DL.lenD_tup, DL.intD_int, DL.intD_bl, DL.rA_ref, DL.lf_int, DL.lf_bl, DL.lf_non, DL.lf_str, DL.lf_ref, DL.IsC_lst, DL.Ty_int, DL.Ty_tup, DL.Ty_lst, DL.Ty_bl, DL.Ty_str, DL.Ty_non, DL.wipeD, DL.ixQ, DL.tYesF, DL.bAddI, DL.bSub, DL.bMul, DL.bMod, DL.bFdiv, DL.bPow, DL.bMax2, DL.bMin2, DL.cLt, DL.cLe, DL.cGt, DL.cGe, List.set, List.map, List.length, List.length_cons, List.length_nil, List.replicate, List.nil_append, List.cons_append, List.append_nil, Option.isSome_some, Option.getD_some, Option.isSome_none, Bool.not_true, Bool.not_false, and_true, true_and, and_self, implies_true, Nat.zero_add, List.length_set, List.length_replicate]
    refine ⟨⟨by omega, by rw [rng_length]; simp [SZ]; omega, fun d hd => ?_⟩, by rw [show List.filter (fun x => false) (List.map D.int (rng 0 xs.length)) = [] from List.filter_eq_nil_iff.mpr fun _ _ => Bool.false_ne_true]; exact eqDs_nil⟩
    obtain ⟨h1, h2, h3, h4⟩ := hq _ (List.mem_map.mpr ⟨d, hd, rfl⟩)
    simp only [DL.sSetZ, DL.sRetZ, DL.sPar1, DL.sSeq, DL.sIf, DL.sSet, DL.sSetM, DL.sSetMN, DL.sAppN, DL.sSetMT, DL.sSetMS, DL.wLc, DL.wYes, DL.wPop, DL.wSl, DL.w1, DL.w1r, DL.lcW, DL.sFor, DL.sNext, DL.sRet, DL.sRetF, DL.sRetN, DL.sDrop, DL.sApp, DL.sAppR, DL.sSetIx, DL.sPar, DL.sParM, DL.sAsg, DL.wP, DL.wT, DL.wA, DL.wCall, DL.wCallP, DL.wACons, DL.wANil, DL.w2, DL.w2c, DL.w2t, DL.wIf, DL.wTup, DL.wLst, DL.wR1, DL.wAnd, DL.wOr, DL.wNot, DL.wTV, DL.pVar, DL.pInt, DL.pBl, DL.pStr, DL.pNon, DL.pDr, DL.pLf, DL.p1, DL.p2, DL.bI, DL.pc2, DL.tc2, DL.cI, DL.pAnd, DL.pOr, DL.pNot, DL.pIf, DL.pIsi, DL.pIsi2, DL.pChain, DL.tOf, DL.tNot1, DL.tAnd2, DL.tOr2, DL.tChn, DL.tIsN, DL.tNotN, DL.pIsN, DL.pNotN, DL.pNeg, DL.pSl, DL.pSlF, DL.pSlU, DL.pRev, DL.sfN, DL.sfS, DL.iU, DL.iL, DL.iR1, DL.iR2, DL.aCons, DL.aNil, DL.pLst, DL.pTup, DL.pLc, DL.pLcF, DL.pCall, DL.lV, DL.lIx, DL.lk, DL.startD, DL.ro, DL.gN, DL.gT, DL.gTL, DL.gC_cons, DL.gNl, DL.iS, DL.iE, DL.sAppC, DL.IsI_int, DL.toI_int, DL.IsB_bl, DL.toB_bl, DL.IsS_str, DL.toS_str, DL.IsL_lst, DL.IsU_tup, DL.IsQ_lst, DL.IsQ_tup, DL.toL_lst, DL.toL_tup, DL.drf_int, DL.drf_bl, DL.drf_str, DL.drf_non, DL.drf_lst, DL.drf_tup, DL.drf_obj, DL.drf_upd, DL.lenD_lst, DL.lenD_tup, DL.intD_int, DL.intD_bl, DL.rA_ref, DL.lf_int, DL.lf_bl, DL.lf_non, DL.lf_str, DL.lf_ref, DL.IsC_lst, DL.Ty_int, DL.Ty_tup, DL.Ty_lst, DL.Ty_bl, DL.Ty_str, DL.Ty_non, DL.wipeD, DL.ixQ, DL.tYesF, DL.bAddI, DL.bSub, DL.bMul, DL.bMod, DL.bFdiv, DL.bPow, DL.bMax2, DL.bMin2, DL.cLt, DL.cLe, DL.cGt, DL.cGe, List.set, List.map, List.length, List.length_cons, List.length_nil, List.replicate, List.nil_append, List.cons_append, List.append_nil, Option.isSome_some, Option.getD_some, Option.isSome_none, Bool.not_true, Bool.not_false, and_true, true_and, and_self, implies_true, Nat.zero_add, List.length_set, List.length_replicate] at h2 h3 h4
    exact ⟨⟨h2, h3⟩, by rw [h4]; trivial⟩
  | dic _ _ => exact hp.elim
  | obj _ _ _ _ => exact hp.elim
  | ref _ => exact hp.elim
end K13
set_option maxHeartbeats 4000000
namespace K13
open PySem L2 DL
theorem FOk.snoc {fs : List Int} (h : FOk fs) : ∃ ys l, fs = ys ++ [l] := by
  rcases List.eq_nil_or_concat fs with e | ⟨ys, l, e⟩
  · have := h.one; rw [e] at this; simp at this
  · exact ⟨ys, l, by simpa using e⟩
theorem FOk.add {ys : List Int} {l m : Int} (h : FOk (ys ++ [l])) (hn : (ys ++ [l]).length ≤ 5) (h1 : l < m) (h2 : m ≤ 60) : FOk (ys ++ [l] ++ [m]) := by
  obtain ⟨a1, a2, a3, a4⟩ := h
  refine ⟨by rw [List.head?_append, a1]; rfl, by simp at hn ⊢; omega, List.pairwise_append.mpr ⟨a3, by simp, fun x hx y hy => ?_⟩, fun x hx => ?_⟩
  · simp at hy; subst hy
    rcases List.mem_append.mp hx with hx | hx
    · have := (List.pairwise_append.mp a3).2.2 x hx l (by simp); omega
    · simp at hx; omega
  · rcases List.mem_append.mp hx with hx | hx
    · exact a4 x hx
    · simp at hx; omega
theorem r_law_fillers (ds : List D) (M : Nm) (Q' : D → Nm → Prop) (E' : ED) (hl : ds.length = 1) (h : sp_law_fillers ds M Q' E') : w_law_fillers { nx := fun _ M' => Q' .non M', rt := Q', ex := E' } (startD n_law_fillers.length ds) M := by
  obtain ⟨a, d, rfl, hN, hs, q⟩ := h
  simp only [w_law_fillers, n_law_fillers, DL.sSetZ, DL.sRetZ, DL.sPar1, DL.sSeq, DL.sIf, DL.sSet, DL.sSetM, DL.sSetMN, DL.sAppN, DL.sSetMT, DL.sSetMS, DL.wLc, DL.wYes, DL.wPop, DL.wSl, DL.w1, DL.w1r, DL.lcW, DL.sFor, DL.sNext, DL.sRet, DL.sRetF, DL.sRetN, DL.sDrop, DL.sApp, DL.sAppR, DL.sSetIx, DL.sPar, DL.sParM, DL.sAsg, DL.wP, DL.wT, DL.wA, DL.wCall, DL.wCallP, DL.wACons, DL.wANil, DL.w2, DL.w2c, DL.w2t, DL.wIf, DL.wTup, DL.wLst, DL.wR1, DL.wAnd, DL.wOr, DL.wNot, DL.wTV, DL.pVar, DL.pInt, DL.pBl, DL.pStr, DL.pNon, DL.pDr, DL.pLf, DL.p1, DL.p2, DL.bI, DL.pc2, DL.tc2, DL.cI, DL.pAnd, DL.pOr, DL.pNot, DL.pIf, DL.pIsi, DL.pIsi2, DL.pChain, DL.tOf, DL.tNot1, DL.tAnd2, DL.tOr2, DL.tChn, DL.tIsN, DL.tNotN, DL.pIsN, DL.pNotN, DL.pNeg, DL.pSl, DL.pSlF, DL.pSlU, DL.pRev, DL.sfN, DL.sfS, DL.iU, DL.iL, DL.iR1, DL.iR2, DL.aCons, DL.aNil, DL.pLst, DL.pTup, DL.pLc, DL.pLcF, DL.pCall, DL.lV, DL.lIx, DL.lk, DL.startD, DL.ro, DL.gN, DL.gT, DL.gTL, DL.gC_cons, DL.gNl, DL.iS, DL.iE, DL.sAppC, DL.IsI_int, DL.toI_int, DL.IsB_bl, DL.toB_bl, DL.IsS_str, DL.toS_str, DL.IsL_lst, DL.IsU_tup, DL.IsQ_lst, DL.IsQ_tup, DL.toL_lst, DL.toL_tup, DL.drf_int, DL.drf_bl, DL.drf_str, DL.drf_non, DL.drf_lst, DL.drf_tup, DL.drf_obj, DL.drf_upd, DL.lenD_lst, DL.lenD_tup, DL.intD_int, DL.intD_bl, DL.rA_ref, DL.lf_int, DL.lf_bl, DL.lf_non, DL.lf_str, DL.lf_ref, DL.IsC_lst, DL.Ty_int, DL.Ty_tup, DL.Ty_lst, DL.Ty_bl, DL.Ty_str, DL.Ty_non, DL.wipeD, DL.ixQ, DL.tYesF, DL.bAddI, DL.bSub, DL.bMul, DL.bMod, DL.bFdiv, DL.bPow, DL.bMax2, DL.bMin2, DL.cLt, DL.cLe, DL.cGt, DL.cGe, List.set, List.map, List.length, List.length_cons, List.length_nil, List.replicate, List.nil_append, List.cons_append, List.append_nil, Option.isSome_some, Option.getD_some, Option.isSome_none, Bool.not_true, Bool.not_false, and_true, true_and, and_self, implies_true, Nat.zero_add, List.length_set, List.length_replicate]
  refine ⟨by simp [SZ], a, 6, d, rfl, hN, hs, by omega, by omega, fun r d' h0 h1 hs' => ⟨trivial, ?_⟩⟩
  simp only [DL.sSetZ, DL.sRetZ, DL.sPar1, DL.sSeq, DL.sIf, DL.sSet, DL.sSetM, DL.sSetMN, DL.sAppN, DL.sSetMT, DL.sSetMS, DL.wLc, DL.wYes, DL.wPop, DL.wSl, DL.w1, DL.w1r, DL.lcW, DL.sFor, DL.sNext, DL.sRet, DL.sRetF, DL.sRetN, DL.sDrop, DL.sApp, DL.sAppR, DL.sSetIx, DL.sPar, DL.sParM, DL.sAsg, DL.wP, DL.wT, DL.wA, DL.wCall, DL.wCallP, DL.wACons, DL.wANil, DL.w2, DL.w2c, DL.w2t, DL.wIf, DL.wTup, DL.wLst, DL.wR1, DL.wAnd, DL.wOr, DL.wNot, DL.wTV, DL.pVar, DL.pInt, DL.pBl, DL.pStr, DL.pNon, DL.pDr, DL.pLf, DL.p1, DL.p2, DL.bI, DL.pc2, DL.tc2, DL.cI, DL.pAnd, DL.pOr, DL.pNot, DL.pIf, DL.pIsi, DL.pIsi2, DL.pChain, DL.tOf, DL.tNot1, DL.tAnd2, DL.tOr2, DL.tChn, DL.tIsN, DL.tNotN, DL.pIsN, DL.pNotN, DL.pNeg, DL.pSl, DL.pSlF, DL.pSlU, DL.pRev, DL.sfN, DL.sfS, DL.iU, DL.iL, DL.iR1, DL.iR2, DL.aCons, DL.aNil, DL.pLst, DL.pTup, DL.pLc, DL.pLcF, DL.pCall, DL.lV, DL.lIx, DL.lk, DL.startD, DL.ro, DL.gN, DL.gT, DL.gTL, DL.gC_cons, DL.gNl, DL.iS, DL.iE, DL.sAppC, DL.IsI_int, DL.toI_int, DL.IsB_bl, DL.toB_bl, DL.IsS_str, DL.toS_str, DL.IsL_lst, DL.IsU_tup, DL.IsQ_lst, DL.IsQ_tup, DL.toL_lst, DL.toL_tup, DL.drf_int, DL.drf_bl, DL.drf_str, DL.drf_non, DL.drf_lst, DL.drf_tup, DL.drf_obj, DL.drf_upd, DL.lenD_lst, DL.lenD_tup, DL.intD_int, DL.intD_bl, DL.rA_ref, DL.lf_int, DL.lf_bl, DL.lf_non, DL.lf_str, DL.lf_ref, DL.IsC_lst, DL.Ty_int, DL.Ty_tup, DL.Ty_lst, DL.Ty_bl, DL.Ty_str, DL.Ty_non, DL.wipeD, DL.ixQ, DL.tYesF, DL.bAddI, DL.bSub, DL.bMul, DL.bMod, DL.bFdiv, DL.bPow, DL.bMax2, DL.bMin2, DL.cLt, DL.cLe, DL.cGt, DL.cGe, List.set, List.map, List.length, List.length_cons, List.length_nil, List.replicate, List.nil_append, List.cons_append, List.append_nil, Option.isSome_some, Option.getD_some, Option.isSome_none, Bool.not_true, Bool.not_false, and_true, true_and, and_self, implies_true, Nat.zero_add, List.length_set, List.length_replicate]
  refine ⟨by omega, by omega, ?_⟩
  refine loopD_rng (fun k δ N => ∃ fs d x y, δ = [some (.ref a), some (dI fs), x, y] ∧ N = updN M a ⟨true, d⟩ ∧ HSt d ∧ FOk fs ∧ fs.length ≤ 1 + k) ?_ ?_ ?_
  · exact ⟨[1], d', none, none, rfl, rfl, hs', ⟨rfl, by simp, by simp, by simp⟩, by simp⟩
  · rintro δ N ⟨fs, d, x, y, rfl, rfl, hd, hf, _⟩
    simp only [DL.sSetZ, DL.sRetZ, DL.sPar1, DL.sSeq, DL.sIf, DL.sSet, DL.sSetM, DL.sSetMN, DL.sAppN, DL.sSetMT, DL.sSetMS, DL.wLc, DL.wYes, DL.wPop, DL.wSl, DL.w1, DL.w1r, DL.lcW, DL.sFor, DL.sNext, DL.sRet, DL.sRetF, DL.sRetN, DL.sDrop, DL.sApp, DL.sAppR, DL.sSetIx, DL.sPar, DL.sParM, DL.sAsg, DL.wP, DL.wT, DL.wA, DL.wCall, DL.wCallP, DL.wACons, DL.wANil, DL.w2, DL.w2c, DL.w2t, DL.wIf, DL.wTup, DL.wLst, DL.wR1, DL.wAnd, DL.wOr, DL.wNot, DL.wTV, DL.pVar, DL.pInt, DL.pBl, DL.pStr, DL.pNon, DL.pDr, DL.pLf, DL.p1, DL.p2, DL.bI, DL.pc2, DL.tc2, DL.cI, DL.pAnd, DL.pOr, DL.pNot, DL.pIf, DL.pIsi, DL.pIsi2, DL.pChain, DL.tOf, DL.tNot1, DL.tAnd2, DL.tOr2, DL.tChn, DL.tIsN, DL.tNotN, DL.pIsN, DL.pNotN, DL.pNeg, DL.pSl, DL.pSlF, DL.pSlU, DL.pRev, DL.sfN, DL.sfS, DL.iU, DL.iL, DL.iR1, DL.iR2, DL.aCons, DL.aNil, DL.pLst, DL.pTup, DL.pLc, DL.pLcF, DL.pCall, DL.lV, DL.lIx, DL.lk, DL.startD, DL.ro, DL.gN, DL.gT, DL.gTL, DL.gC_cons, DL.gNl, DL.iS, DL.iE, DL.sAppC, DL.IsI_int, DL.toI_int, DL.IsB_bl, DL.toB_bl, DL.IsS_str, DL.toS_str, DL.IsL_lst, DL.IsU_tup, DL.IsQ_lst, DL.IsQ_tup, DL.toL_lst, DL.toL_tup, DL.drf_int, DL.drf_bl, DL.drf_str, DL.drf_non, DL.drf_lst, DL.drf_tup, DL.drf_obj, DL.drf_upd, DL.lenD_lst, DL.lenD_tup, DL.intD_int, DL.intD_bl, DL.rA_ref, DL.lf_int, DL.lf_bl, DL.lf_non, DL.lf_str, DL.lf_ref, DL.IsC_lst, DL.Ty_int, DL.Ty_tup, DL.Ty_lst, DL.Ty_bl, DL.Ty_str, DL.Ty_non, DL.wipeD, DL.ixQ, DL.tYesF, DL.bAddI, DL.bSub, DL.bMul, DL.bMod, DL.bFdiv, DL.bPow, DL.bMax2, DL.bMin2, DL.cLt, DL.cLe, DL.cGt, DL.cGe, List.set, List.map, List.length, List.length_cons, List.length_nil, List.replicate, List.nil_append, List.cons_append, List.append_nil, Option.isSome_some, Option.getD_some, Option.isSome_none, Bool.not_true, Bool.not_false, and_true, true_and, and_self, implies_true, Nat.zero_add, List.length_set, List.length_replicate]
    exact ⟨trivial, q fs d hf hd⟩
  · rintro k δ N L hk hL ⟨fs, d, x, y, rfl, rfl, hd, hf, hlen⟩
    obtain ⟨ys, l, rfl⟩ := hf.snoc
    have el : atI (List.map D.int (ys ++ [l])) (-1) = some (.int l) := by rw [List.map_append]; exact atI_last
    simp only [DL.sSetZ, DL.sRetZ, DL.sPar1, DL.sSeq, DL.sIf, DL.sSet, DL.sSetM, DL.sSetMN, DL.sAppN, DL.sSetMT, DL.sSetMS, DL.wLc, DL.wYes, DL.wPop, DL.wSl, DL.w1, DL.w1r, DL.lcW, DL.sFor, DL.sNext, DL.sRet, DL.sRetF, DL.sRetN, DL.sDrop, DL.sApp, DL.sAppR, DL.sSetIx, DL.sPar, DL.sParM, DL.sAsg, DL.wP, DL.wT, DL.wA, DL.wCall, DL.wCallP, DL.wACons, DL.wANil, DL.w2, DL.w2c, DL.w2t, DL.wIf, DL.wTup, DL.wLst, DL.wR1, DL.wAnd, DL.wOr, DL.wNot, DL.wTV, DL.pVar, DL.pInt, DL.pBl, DL.pStr, DL.pNon, DL.pDr, DL.pLf, DL.p1, DL.p2, DL.bI, DL.pc2, DL.tc2, DL.cI, DL.pAnd, DL.pOr, DL.pNot, DL.pIf, DL.pIsi, DL.pIsi2, DL.pChain, DL.tOf, DL.tNot1, DL.tAnd2, DL.tOr2, DL.tChn, DL.tIsN, DL.tNotN, DL.pIsN, DL.pNotN, DL.pNeg, DL.pSl, DL.pSlF, DL.pSlU, DL.pRev, DL.sfN, DL.sfS, DL.iU, DL.iL, DL.iR1, DL.iR2, DL.aCons, DL.aNil, DL.pLst, DL.pTup, DL.pLc, DL.pLcF, DL.pCall, DL.lV, DL.lIx, DL.lk, DL.startD, DL.ro, DL.gN, DL.gT, DL.gTL, DL.gC_cons, DL.gNl, DL.iS, DL.iE, DL.sAppC, DL.IsI_int, DL.toI_int, DL.IsB_bl, DL.toB_bl, DL.IsS_str, DL.toS_str, DL.IsL_lst, DL.IsU_tup, DL.IsQ_lst, DL.IsQ_tup, DL.toL_lst, DL.toL_tup, DL.drf_int, DL.drf_bl, DL.drf_str, DL.drf_non, DL.drf_lst, DL.drf_tup, DL.drf_obj, DL.drf_upd, DL.lenD_lst, DL.lenD_tup, DL.intD_int, DL.intD_bl, DL.rA_ref, DL.lf_int, DL.lf_bl, DL.lf_non, DL.lf_str, DL.lf_ref, DL.IsC_lst, DL.Ty_int, DL.Ty_tup, DL.Ty_lst, DL.Ty_bl, DL.Ty_str, DL.Ty_non, DL.wipeD, DL.ixQ, DL.tYesF, DL.bAddI, DL.bSub, DL.bMul, DL.bMod, DL.bFdiv, DL.bPow, DL.bMax2, DL.bMin2, DL.cLt, DL.cLe, DL.cGt, DL.cGe, List.set, List.map, List.length, List.length_cons, List.length_nil, List.replicate, List.nil_append, List.cons_append, List.append_nil, Option.isSome_some, Option.getD_some, Option.isSome_none, Bool.not_true, Bool.not_false, and_true, true_and, and_self, implies_true, Nat.zero_add, List.length_set, List.length_replicate, el]
    refine ⟨by omega, by simp [SZ], a, 2, d, rfl, updN_same, hd, by omega, by omega, fun r1 d1 h10 h11 hd1 => ?_⟩
    have hm : ∃ many : Int, atI [D.int 3, D.int 15] (toI (.int r1)) = some (.int many) ∧ 0 < many ∧ many < 4294967296 := by
      have : r1 = 0 ∨ r1 = 1 := by omega
      rcases this with rfl | rfl
      · exact ⟨3, atI_0, by omega, by omega⟩
      · exact ⟨15, atI_1, by omega, by omega⟩
    obtain ⟨many, em, hm1, hm2⟩ := hm
    simp only [em]
    refine ⟨⟨trivial, rfl⟩, a, many, d1, rfl, updN_same, hd1, hm1, hm2, fun r2 d2 h20 h21 hd2 => ?_⟩
    simp only [DL.sSetZ, DL.sRetZ, DL.sPar1, DL.sSeq, DL.sIf, DL.sSet, DL.sSetM, DL.sSetMN, DL.sAppN, DL.sSetMT, DL.sSetMS, DL.wLc, DL.wYes, DL.wPop, DL.wSl, DL.w1, DL.w1r, DL.lcW, DL.sFor, DL.sNext, DL.sRet, DL.sRetF, DL.sRetN, DL.sDrop, DL.sApp, DL.sAppR, DL.sSetIx, DL.sPar, DL.sParM, DL.sAsg, DL.wP, DL.wT, DL.wA, DL.wCall, DL.wCallP, DL.wACons, DL.wANil, DL.w2, DL.w2c, DL.w2t, DL.wIf, DL.wTup, DL.wLst, DL.wR1, DL.wAnd, DL.wOr, DL.wNot, DL.wTV, DL.pVar, DL.pInt, DL.pBl, DL.pStr, DL.pNon, DL.pDr, DL.pLf, DL.p1, DL.p2, DL.bI, DL.pc2, DL.tc2, DL.cI, DL.pAnd, DL.pOr, DL.pNot, DL.pIf, DL.pIsi, DL.pIsi2, DL.pChain, DL.tOf, DL.tNot1, DL.tAnd2, DL.tOr2, DL.tChn, DL.tIsN, DL.tNotN, DL.pIsN, DL.pNotN, DL.pNeg, DL.pSl, DL.pSlF, DL.pSlU, DL.pRev, DL.sfN, DL.sfS, DL.iU, DL.iL, DL.iR1, DL.iR2, DL.aCons, DL.aNil, DL.pLst, DL.pTup, DL.pLc, DL.pLcF, DL.pCall, DL.lV, DL.lIx, DL.lk, DL.startD, DL.ro, DL.gN, DL.gT, DL.gTL, DL.gC_cons, DL.gNl, DL.iS, DL.iE, DL.sAppC, DL.IsI_int, DL.toI_int, DL.IsB_bl, DL.toB_bl, DL.IsS_str, DL.toS_str, DL.IsL_lst, DL.IsU_tup, DL.IsQ_lst, DL.IsQ_tup, DL.toL_lst, DL.toL_tup, DL.drf_int, DL.drf_bl, DL.drf_str, DL.drf_non, DL.drf_lst, DL.drf_tup, DL.drf_obj, DL.drf_upd, DL.lenD_lst, DL.lenD_tup, DL.intD_int, DL.intD_bl, DL.rA_ref, DL.lf_int, DL.lf_bl, DL.lf_non, DL.lf_str, DL.lf_ref, DL.IsC_lst, DL.Ty_int, DL.Ty_tup, DL.Ty_lst, DL.Ty_bl, DL.Ty_str, DL.Ty_non, DL.wipeD, DL.ixQ, DL.tYesF, DL.bAddI, DL.bSub, DL.bMul, DL.bMod, DL.bFdiv, DL.bPow, DL.bMax2, DL.bMin2, DL.cLt, DL.cLe, DL.cGt, DL.cGe, List.set, List.map, List.length, List.length_cons, List.length_nil, List.replicate, List.nil_append, List.cons_append, List.append_nil, Option.isSome_some, Option.getD_some, Option.isSome_none, Bool.not_true, Bool.not_false, and_true, true_and, and_self, implies_true, Nat.zero_add, List.length_set, List.length_replicate, updN_twice]
    have hpos := hf.pos l (by simp)
    by_cases c : l + 1 + r2 < 61
    · simp only [c, decide_true, cond_true]
      simp only [repL, catL, DL.sSetZ, DL.sRetZ, DL.sPar1, DL.sSeq, DL.sIf, DL.sSet, DL.sSetM, DL.sSetMN, DL.sAppN, DL.sSetMT, DL.sSetMS, DL.wLc, DL.wYes, DL.wPop, DL.wSl, DL.w1, DL.w1r, DL.lcW, DL.sFor, DL.sNext, DL.sRet, DL.sRetF, DL.sRetN, DL.sDrop, DL.sApp, DL.sAppR, DL.sSetIx, DL.sPar, DL.sParM, DL.sAsg, DL.wP, DL.wT, DL.wA, DL.wCall, DL.wCallP, DL.wACons, DL.wANil, DL.w2, DL.w2c, DL.w2t, DL.wIf, DL.wTup, DL.wLst, DL.wR1, DL.wAnd, DL.wOr, DL.wNot, DL.wTV, DL.pVar, DL.pInt, DL.pBl, DL.pStr, DL.pNon, DL.pDr, DL.pLf, DL.p1, DL.p2, DL.bI, DL.pc2, DL.tc2, DL.cI, DL.pAnd, DL.pOr, DL.pNot, DL.pIf, DL.pIsi, DL.pIsi2, DL.pChain, DL.tOf, DL.tNot1, DL.tAnd2, DL.tOr2, DL.tChn, DL.tIsN, DL.tNotN, DL.pIsN, DL.pNotN, DL.pNeg, DL.pSl, DL.pSlF, DL.pSlU, DL.pRev, DL.sfN, DL.sfS, DL.iU, DL.iL, DL.iR1, DL.iR2, DL.aCons, DL.aNil, DL.pLst, DL.pTup, DL.pLc, DL.pLcF, DL.pCall, DL.lV, DL.lIx, DL.lk, DL.startD, DL.ro, DL.gN, DL.gT, DL.gTL, DL.gC_cons, DL.gNl, DL.iS, DL.iE, DL.sAppC, DL.IsI_int, DL.toI_int, DL.IsB_bl, DL.toB_bl, DL.IsS_str, DL.toS_str, DL.IsL_lst, DL.IsU_tup, DL.IsQ_lst, DL.IsQ_tup, DL.toL_lst, DL.toL_tup, DL.drf_int, DL.drf_bl, DL.drf_str, DL.drf_non, DL.drf_lst, DL.drf_tup, DL.drf_obj, DL.drf_upd, DL.lenD_lst, DL.lenD_tup, DL.intD_int, DL.intD_bl, DL.rA_ref, DL.lf_int, DL.lf_bl, DL.lf_non, DL.lf_str, DL.lf_ref, DL.IsC_lst, DL.Ty_int, DL.Ty_tup, DL.Ty_lst, DL.Ty_bl, DL.Ty_str, DL.Ty_non, DL.wipeD, DL.ixQ, DL.tYesF, DL.bAddI, DL.bSub, DL.bMul, DL.bMod, DL.bFdiv, DL.bPow, DL.bMax2, DL.bMin2, DL.cLt, DL.cLe, DL.cGt, DL.cGe, List.set, List.map, List.length, List.length_cons, List.length_nil, List.replicate, List.nil_append, List.cons_append, List.append_nil, Option.isSome_some, Option.getD_some, Option.isSome_none, Bool.not_true, Bool.not_false, and_true, true_and, and_self, implies_true, Nat.zero_add, List.length_set, List.length_replicate]
      refine ⟨⟨⟨by simp [SZ], by simp [lfs, lf], by decide, by decide, by simp [SZ]⟩, by simp [SZ] at *; omega⟩, hL _ _ ⟨ys ++ [l] ++ [l + 1 + r2], d2, some (.int (0 + k)), some (.int (l + 1 + r2)), ?_, rfl, hd2, hf.add (by omega) (by omega) (by omega), by simp at hlen ⊢; omega⟩⟩
      simp [dI]
    · simp only [c, decide_false, cond_false]
      simp only [repL, catL, DL.sSetZ, DL.sRetZ, DL.sPar1, DL.sSeq, DL.sIf, DL.sSet, DL.sSetM, DL.sSetMN, DL.sAppN, DL.sSetMT, DL.sSetMS, DL.wLc, DL.wYes, DL.wPop, DL.wSl, DL.w1, DL.w1r, DL.lcW, DL.sFor, DL.sNext, DL.sRet, DL.sRetF, DL.sRetN, DL.sDrop, DL.sApp, DL.sAppR, DL.sSetIx, DL.sPar, DL.sParM, DL.sAsg, DL.wP, DL.wT, DL.wA, DL.wCall, DL.wCallP, DL.wACons, DL.wANil, DL.w2, DL.w2c, DL.w2t, DL.wIf, DL.wTup, DL.wLst, DL.wR1, DL.wAnd, DL.wOr, DL.wNot, DL.wTV, DL.pVar, DL.pInt, DL.pBl, DL.pStr, DL.pNon, DL.pDr, DL.pLf, DL.p1, DL.p2, DL.bI, DL.pc2, DL.tc2, DL.cI, DL.pAnd, DL.pOr, DL.pNot, DL.pIf, DL.pIsi, DL.pIsi2, DL.pChain, DL.tOf, DL.tNot1, DL.tAnd2, DL.tOr2, DL.tChn, DL.tIsN, DL.tNotN, DL.pIsN, DL.pNotN, DL.pNeg, DL.pSl, DL.pSlF, DL.pSlU, DL.pRev, DL.sfN, DL.sfS, DL.iU, DL.iL, DL.iR1, DL.iR2, DL.aCons, DL.aNil, DL.pLst, DL.pTup, DL.pLc, DL.pLcF, DL.pCall, DL.lV, DL.lIx, DL.lk, DL.startD, DL.ro, DL.gN, DL.gT, DL.gTL, DL.gC_cons, DL.gNl, DL.iS, DL.iE, DL.sAppC, DL.IsI_int, DL.toI_int, DL.IsB_bl, DL.toB_bl, DL.IsS_str, DL.toS_str, DL.IsL_lst, DL.IsU_tup, DL.IsQ_lst, DL.IsQ_tup, DL.toL_lst, DL.toL_tup, DL.drf_int, DL.drf_bl, DL.drf_str, DL.drf_non, DL.drf_lst, DL.drf_tup, DL.drf_obj, DL.drf_upd, DL.lenD_lst, DL.lenD_tup, DL.intD_int, DL.intD_bl, DL.rA_ref, DL.lf_int, DL.lf_bl, DL.lf_non, DL.lf_str, DL.lf_ref, DL.IsC_lst, DL.Ty_int, DL.Ty_tup, DL.Ty_lst, DL.Ty_bl, DL.Ty_str, DL.Ty_non, DL.wipeD, DL.ixQ, DL.tYesF, DL.bAddI, DL.bSub, DL.bMul, DL.bMod, DL.bFdiv, DL.bPow, DL.bMax2, DL.bMin2, DL.cLt, DL.cLe, DL.cGt, DL.cGe, List.set, List.map, List.length, List.length_cons, List.length_nil, List.replicate, List.nil_append, List.cons_append, List.append_nil, Option.isSome_some, Option.getD_some, Option.isSome_none, Bool.not_true, Bool.not_false, and_true, true_and, and_self, implies_true, Nat.zero_add, List.length_set, List.length_replicate]
      refine ⟨⟨⟨by simp [SZ], by simp [lfs, lf], by decide, by decide, by simp [SZ]⟩, by simp [SZ] at *; omega⟩, hL _ _ ⟨ys ++ [l], d2, some (.int (0 + k)), some (.int (l + 1 + r2)), ?_, rfl, hd2, hf, by omega⟩⟩
      simp [dI]
end K13
set_option maxHeartbeats 4000000
namespace K13
open PySem L2 DL
theorem num_val {i lo hi : Int} {M : Nm} (h : lo ≤ i ∧ i ≤ hi) : (ph_is_number [.int i, .int lo, .int hi] M).val = .bl true := by
  show D.bl (decide (lo ≤ i) && decide (i ≤ hi)) = _
  simp; omega
theorem num_ok {i lo hi : Int} {M : Nm} : (ph_is_number [.int i, .int lo, .int hi] M).ok := ⟨_, _, _, rfl, trivial⟩
theorem in_kind {b : Bool} : inT true (.str (kindS b)) (.tup [.str "clip", .str "live"]) = ⟨True, false⟩ := by
  unfold inT
  congr 1
  · simp [flat, IsQ_tup, toL_tup]
  · cases b <;> simp [inB, toL_tup, eqD_str, kindS] <;> decide +kernel
theorem row_at {r : Row} : atI [D.int r.id, D.str (kindS r.live), D.int r.len, moD r.mo] 0 = some (.int r.id) ∧ atI [D.int r.id, D.str (kindS r.live), D.int r.len, moD r.mo] 1 = some (.str (kindS r.live)) ∧
    atI [D.int r.id, D.str (kindS r.live), D.int r.len, moD r.mo] 2 = some (.int r.len) ∧ atI [D.int r.id, D.str (kindS r.live), D.int r.len, moD r.mo] 3 = some (moD r.mo) := ⟨rfl, rfl, rfl, rfl⟩
theorem r_is_row (ds : List D) (M : Nm) (hl : ds.length = 1) (h : (ph_is_row ds M).ok) : w_is_row { nx := fun _ _ => (ph_is_row ds M).val = .non, rt := fun d M' => RES M' d (ph_is_row ds M).val } (startD n_is_row.length ds) (ro M) := by
  obtain ⟨r, rfl, ⟨h1, h2⟩, h3⟩ := h
  obtain ⟨a0, a1, a2, a3⟩ := row_at (r := r)
  have e4 : neT 8 (.int ((1 + 1 + 1 + 1 : Nat) : Int)) (.int 4) = ⟨True, false⟩ := by simp [neT, okD, eqD_int]
  have e5 : isiB "tuple" (.tup [D.int r.id, D.str (kindS r.live), D.int r.len, moD r.mo]) = true := rfl
  simp only [w_is_row, ph_is_row, n_is_row, rowD, DL.sSetZ, DL.sRetZ, DL.sPar1, DL.sSeq, DL.sIf, DL.sSet, DL.sSetM, DL.sSetMN, DL.sAppN, DL.sSetMT, DL.sSetMS, DL.wLc, DL.wYes, DL.wPop, DL.wSl, DL.w1, DL.w1r, DL.lcW, DL.sFor, DL.sNext, DL.sRet, DL.sRetF, DL.sRetN, DL.sDrop, DL.sApp, DL.sAppR, DL.sSetIx, DL.sPar, DL.sParM, DL.sAsg, DL.wP, DL.wT, DL.wA, DL.wCall, DL.wCallP, DL.wACons, DL.wANil, DL.w2, DL.w2c, DL.w2t, DL.wIf, DL.wTup, DL.wLst, DL.wR1, DL.wAnd, DL.wOr, DL.wNot, DL.wTV, DL.pVar, DL.pInt, DL.pBl, DL.pStr, DL.pNon, DL.pDr, DL.pLf, DL.p1, DL.p2, DL.bI, DL.pc2, DL.tc2, DL.cI, DL.pAnd, DL.pOr, DL.pNot, DL.pIf, DL.pIsi, DL.pIsi2, DL.pChain, DL.tOf, DL.tNot1, DL.tAnd2, DL.tOr2, DL.tChn, DL.tIsN, DL.tNotN, DL.pIsN, DL.pNotN, DL.pNeg, DL.pSl, DL.pSlF, DL.pSlU, DL.pRev, DL.sfN, DL.sfS, DL.iU, DL.iL, DL.iR1, DL.iR2, DL.aCons, DL.aNil, DL.pLst, DL.pTup, DL.pLc, DL.pLcF, DL.pCall, DL.lV, DL.lIx, DL.lk, DL.startD, DL.ro, DL.gN, DL.gT, DL.gTL, DL.gC_cons, DL.gNl, DL.iS, DL.iE, DL.sAppC, DL.IsI_int, DL.toI_int, DL.IsB_bl, DL.toB_bl, DL.IsS_str, DL.toS_str, DL.IsL_lst, DL.IsU_tup, DL.IsQ_lst, DL.IsQ_tup, DL.toL_lst, DL.toL_tup, DL.drf_int, DL.drf_bl, DL.drf_str, DL.drf_non, DL.drf_lst, DL.drf_tup, DL.drf_obj, DL.drf_upd, DL.lenD_lst, DL.lenD_tup, DL.intD_int, DL.intD_bl, DL.rA_ref, DL.lf_int, DL.lf_bl, DL.lf_non, DL.lf_str, DL.lf_ref, DL.IsC_lst, DL.Ty_int, DL.Ty_tup, DL.Ty_lst, DL.Ty_bl, DL.Ty_str, DL.Ty_non, DL.wipeD, DL.ixQ, DL.tYesF, DL.bAddI, DL.bSub, DL.bMul, DL.bMod, DL.bFdiv, DL.bPow, DL.bMax2, DL.bMin2, DL.cLt, DL.cLe, DL.cGt, DL.cGe, List.set, List.map, List.length, List.length_cons, List.length_nil, List.replicate, List.nil_append, List.cons_append, List.append_nil, Option.isSome_some, Option.getD_some, Option.isSome_none, Bool.not_true, Bool.not_false, and_true, true_and, and_self, implies_true, Nat.zero_add, List.length_set, List.length_replicate]
  simp only [a0, a1, a2, a3, in_kind, num_val h1, num_val h2, e4, e5, DL.sSetZ, DL.sRetZ, DL.sPar1, DL.sSeq, DL.sIf, DL.sSet, DL.sSetM, DL.sSetMN, DL.sAppN, DL.sSetMT, DL.sSetMS, DL.wLc, DL.wYes, DL.wPop, DL.wSl, DL.w1, DL.w1r, DL.lcW, DL.sFor, DL.sNext, DL.sRet, DL.sRetF, DL.sRetN, DL.sDrop, DL.sApp, DL.sAppR, DL.sSetIx, DL.sPar, DL.sParM, DL.sAsg, DL.wP, DL.wT, DL.wA, DL.wCall, DL.wCallP, DL.wACons, DL.wANil, DL.w2, DL.w2c, DL.w2t, DL.wIf, DL.wTup, DL.wLst, DL.wR1, DL.wAnd, DL.wOr, DL.wNot, DL.wTV, DL.pVar, DL.pInt, DL.pBl, DL.pStr, DL.pNon, DL.pDr, DL.pLf, DL.p1, DL.p2, DL.bI, DL.pc2, DL.tc2, DL.cI, DL.pAnd, DL.pOr, DL.pNot, DL.pIf, DL.pIsi, DL.pIsi2, DL.pChain, DL.tOf, DL.tNot1, DL.tAnd2, DL.tOr2, DL.tChn, DL.tIsN, DL.tNotN, DL.pIsN, DL.pNotN, DL.pNeg, DL.pSl, DL.pSlF, DL.pSlU, DL.pRev, DL.sfN, DL.sfS, DL.iU, DL.iL, DL.iR1, DL.iR2, DL.aCons, DL.aNil, DL.pLst, DL.pTup, DL.pLc, DL.pLcF, DL.pCall, DL.lV, DL.lIx, DL.lk, DL.startD, DL.ro, DL.gN, DL.gT, DL.gTL, DL.gC_cons, DL.gNl, DL.iS, DL.iE, DL.sAppC, DL.IsI_int, DL.toI_int, DL.IsB_bl, DL.toB_bl, DL.IsS_str, DL.toS_str, DL.IsL_lst, DL.IsU_tup, DL.IsQ_lst, DL.IsQ_tup, DL.toL_lst, DL.toL_tup, DL.drf_int, DL.drf_bl, DL.drf_str, DL.drf_non, DL.drf_lst, DL.drf_tup, DL.drf_obj, DL.drf_upd, DL.lenD_lst, DL.lenD_tup, DL.intD_int, DL.intD_bl, DL.rA_ref, DL.lf_int, DL.lf_bl, DL.lf_non, DL.lf_str, DL.lf_ref, DL.IsC_lst, DL.Ty_int, DL.Ty_tup, DL.Ty_lst, DL.Ty_bl, DL.Ty_str, DL.Ty_non, DL.wipeD, DL.ixQ, DL.tYesF, DL.bAddI, DL.bSub, DL.bMul, DL.bMod, DL.bFdiv, DL.bPow, DL.bMax2, DL.bMin2, DL.cLt, DL.cLe, DL.cGt, DL.cGe, List.set, List.map, List.length, List.length_cons, List.length_nil, List.replicate, List.nil_append, List.cons_append, List.append_nil, Option.isSome_some, Option.getD_some, Option.isSome_none, Bool.not_true, Bool.not_false, and_true, true_and, and_self, implies_true, Nat.zero_add, List.length_set, List.length_replicate]
  refine ⟨fun _ _ => by decide, ?_⟩
  refine (if_neg (by decide)).mpr ?_
  refine ⟨⟨num_ok, fun _ => num_ok⟩, ?_⟩
  refine (if_neg (by decide)).mpr ?_
  cases hm : r.mo with
  | none => simp [moD, isN, RES_bl]
  | some m =>
    have := h3 m hm
    simp only [moD, isN, num_val this, DL.sSetZ, DL.sRetZ, DL.sPar1, DL.sSeq, DL.sIf, DL.sSet, DL.sSetM, DL.sSetMN, DL.sAppN, DL.sSetMT, DL.sSetMS, DL.wLc, DL.wYes, DL.wPop, DL.wSl, DL.w1, DL.w1r, DL.lcW, DL.sFor, DL.sNext, DL.sRet, DL.sRetF, DL.sRetN, DL.sDrop, DL.sApp, DL.sAppR, DL.sSetIx, DL.sPar, DL.sParM, DL.sAsg, DL.wP, DL.wT, DL.wA, DL.wCall, DL.wCallP, DL.wACons, DL.wANil, DL.w2, DL.w2c, DL.w2t, DL.wIf, DL.wTup, DL.wLst, DL.wR1, DL.wAnd, DL.wOr, DL.wNot, DL.wTV, DL.pVar, DL.pInt, DL.pBl, DL.pStr, DL.pNon, DL.pDr, DL.pLf, DL.p1, DL.p2, DL.bI, DL.pc2, DL.tc2, DL.cI, DL.pAnd, DL.pOr, DL.pNot, DL.pIf, DL.pIsi, DL.pIsi2, DL.pChain, DL.tOf, DL.tNot1, DL.tAnd2, DL.tOr2, DL.tChn, DL.tIsN, DL.tNotN, DL.pIsN, DL.pNotN, DL.pNeg, DL.pSl, DL.pSlF, DL.pSlU, DL.pRev, DL.sfN, DL.sfS, DL.iU, DL.iL, DL.iR1, DL.iR2, DL.aCons, DL.aNil, DL.pLst, DL.pTup, DL.pLc, DL.pLcF, DL.pCall, DL.lV, DL.lIx, DL.lk, DL.startD, DL.ro, DL.gN, DL.gT, DL.gTL, DL.gC_cons, DL.gNl, DL.iS, DL.iE, DL.sAppC, DL.IsI_int, DL.toI_int, DL.IsB_bl, DL.toB_bl, DL.IsS_str, DL.toS_str, DL.IsL_lst, DL.IsU_tup, DL.IsQ_lst, DL.IsQ_tup, DL.toL_lst, DL.toL_tup, DL.drf_int, DL.drf_bl, DL.drf_str, DL.drf_non, DL.drf_lst, DL.drf_tup, DL.drf_obj, DL.drf_upd, DL.lenD_lst, DL.lenD_tup, DL.intD_int, DL.intD_bl, DL.rA_ref, DL.lf_int, DL.lf_bl, DL.lf_non, DL.lf_str, DL.lf_ref, DL.IsC_lst, DL.Ty_int, DL.Ty_tup, DL.Ty_lst, DL.Ty_bl, DL.Ty_str, DL.Ty_non, DL.wipeD, DL.ixQ, DL.tYesF, DL.bAddI, DL.bSub, DL.bMul, DL.bMod, DL.bFdiv, DL.bPow, DL.bMax2, DL.bMin2, DL.cLt, DL.cLe, DL.cGt, DL.cGe, List.set, List.map, List.length, List.length_cons, List.length_nil, List.replicate, List.nil_append, List.cons_append, List.append_nil, Option.isSome_some, Option.getD_some, Option.isSome_none, Bool.not_true, Bool.not_false, and_true, true_and, and_self, implies_true, Nat.zero_add, List.length_set, List.length_replicate]
    exact ⟨fun _ => num_ok, RES_bl.mpr (by simp)⟩
theorem IsQ_row {r : Row} : IsQ (rowD r) = True := rfl
theorem rat0 {r : Row} : atI (toL (rowD r)) 0 = some (.int r.id) := rfl
theorem rat1 {r : Row} : atI (toL (rowD r)) 1 = some (.str (kindS r.live)) := rfl
theorem rat2 {r : Row} : atI (toL (rowD r)) 2 = some (.int r.len) := rfl
theorem rat3 {r : Row} : atI (toL (rowD r)) 3 = some (moD r.mo) := rfl
theorem all_rows {rs : List Row} {p : D → Prop} : (∀ d ∈ rs.map rowD, p d) ↔ ∀ r ∈ rs, p (rowD r) :=
  ⟨fun h x hx => h _ (List.mem_map.mpr ⟨x, hx, rfl⟩), fun h d hd => by obtain ⟨x, hx, rfl⟩ := List.mem_map.mp hd; exact h x hx⟩
theorem drf_row {N : Nm} {r : Row} : drf N (rowD r) = rowD r := rfl
theorem lf_row {r : Row} : lf (rowD r) := by
  unfold rowD; simp only [lf, lfs]
  refine ⟨trivial, trivial, trivial, ?_, trivial⟩
  cases r.mo <;> trivial
theorem lf_row_ {r : Row} : lf (rowD r) = True := eq_true lf_row
end K13
set_option maxHeartbeats 4000000
namespace K13
open PySem L2 DL
theorem in_ids {x : Int} {a : List Int} : inT false (.int x) (dI a) = ⟨True, decide (x ∈ a)⟩ := by
  unfold inT
  rw [toL_lst, inB_int]
  congr 1
  simp [flat, IsQ_lst]
theorem isrow_ok {r : Row} {M : Nm} (h : ROk1 r) (k : ∀ m ∈ r.mo, 0 ≤ m ∧ m ≤ 900) : (ph_is_row [rowD r] M).ok := ⟨r, rfl, h, k⟩
theorem isrow_val {r : Row} {M : Nm} : (ph_is_row [rowD r] M).val = .bl true := rfl
theorem r_need_rows (ds : List D) (M : Nm) (hl : ds.length = 3) (h : (ph_need_rows ds M).ok) : w_need_rows { nx := fun _ _ => (ph_need_rows ds M).val = .non, rt := fun d M' => RES M' d (ph_need_rows ds M).val } (startD n_need_rows.length ds) (ro M) := by
  obtain ⟨rs, b, e, rfl, h⟩ := h
  simp only [w_need_rows, ph_need_rows, n_need_rows, dR, DL.sSetZ, DL.sRetZ, DL.sPar1, DL.sSeq, DL.sIf, DL.sSet, DL.sSetM, DL.sSetMN, DL.sAppN, DL.sSetMT, DL.sSetMS, DL.wLc, DL.wYes, DL.wPop, DL.wSl, DL.w1, DL.w1r, DL.lcW, DL.sFor, DL.sNext, DL.sRet, DL.sRetF, DL.sRetN, DL.sDrop, DL.sApp, DL.sAppR, DL.sSetIx, DL.sPar, DL.sParM, DL.sAsg, DL.wP, DL.wT, DL.wA, DL.wCall, DL.wCallP, DL.wACons, DL.wANil, DL.w2, DL.w2c, DL.w2t, DL.wIf, DL.wTup, DL.wLst, DL.wR1, DL.wAnd, DL.wOr, DL.wNot, DL.wTV, DL.pVar, DL.pInt, DL.pBl, DL.pStr, DL.pNon, DL.pDr, DL.pLf, DL.p1, DL.p2, DL.bI, DL.pc2, DL.tc2, DL.cI, DL.pAnd, DL.pOr, DL.pNot, DL.pIf, DL.pIsi, DL.pIsi2, DL.pChain, DL.tOf, DL.tNot1, DL.tAnd2, DL.tOr2, DL.tChn, DL.tIsN, DL.tNotN, DL.pIsN, DL.pNotN, DL.pNeg, DL.pSl, DL.pSlF, DL.pSlU, DL.pRev, DL.sfN, DL.sfS, DL.iU, DL.iL, DL.iR1, DL.iR2, DL.aCons, DL.aNil, DL.pLst, DL.pTup, DL.pLc, DL.pLcF, DL.pCall, DL.lV, DL.lIx, DL.lk, DL.startD, DL.ro, DL.gN, DL.gT, DL.gTL, DL.gC_cons, DL.gNl, DL.iS, DL.iE, DL.sAppC, DL.IsI_int, DL.toI_int, DL.IsB_bl, DL.toB_bl, DL.IsS_str, DL.toS_str, DL.IsL_lst, DL.IsU_tup, DL.IsQ_lst, DL.IsQ_tup, DL.toL_lst, DL.toL_tup, DL.drf_int, DL.drf_bl, DL.drf_str, DL.drf_non, DL.drf_lst, DL.drf_tup, DL.drf_obj, DL.drf_upd, DL.lenD_lst, DL.lenD_tup, DL.intD_int, DL.intD_bl, DL.rA_ref, DL.lf_int, DL.lf_bl, DL.lf_non, DL.lf_str, DL.lf_ref, DL.IsC_lst, DL.Ty_int, DL.Ty_tup, DL.Ty_lst, DL.Ty_bl, DL.Ty_str, DL.Ty_non, DL.wipeD, DL.ixQ, DL.tYesF, DL.bAddI, DL.bSub, DL.bMul, DL.bMod, DL.bFdiv, DL.bPow, DL.bMax2, DL.bMin2, DL.cLt, DL.cLe, DL.cGt, DL.cGe, List.set, List.map, List.length, List.length_cons, List.length_nil, List.replicate, List.nil_append, List.cons_append, List.append_nil, Option.isSome_some, Option.getD_some, Option.isSome_none, Bool.not_true, Bool.not_false, and_true, true_and, and_self, implies_true, Nat.zero_add, List.length_set, List.length_replicate]
  have hn := h.n
  have hbe := h.be
  refine ⟨by decide, fun a ha => ⟨⟨by omega, by rw [List.length_map]; omega⟩, ?_⟩⟩
  have e30 : (((rs.map rowD).length : Int)).toNat = rs.length := by simp
  rw [e30]
  refine loopD_rng (fun i δ N => ∃ (l : Int) (x5 x6 : Option D), δ = [some (.lst (rs.map rowD)), some (.int b), some (.int e), some (.ref a), some (.int l), x5, x6] ∧ N a = some ⟨true, dI ((rs.take i).map Row.id)⟩ ∧ i ≤ rs.length ∧
    ∀ m ∈ (rs.drop i).filterMap Row.mo, l ≤ m) ?_ ?_ ?_
  · exact ⟨b, none, none, rfl, by rw [updN_same]; rfl, Nat.zero_le _, fun m hm => (h.mo m (by simpa using hm)).1⟩
  · intro δ N _; trivial
  · rintro i δ N L hi hL ⟨l, x5, x6, rfl, hN, hi', hm⟩
    have hd : rs.drop i = rs[i] :: rs.drop (i + 1) := List.drop_eq_getElem_cons hi
    have hrow : atI (rs.map rowD) (0 + (i : Int)) = some (rowD rs[i]) := by rw [atI_map, show (0 : Int) + i = (i : Int) by omega, DL.atI_nat, List.getElem?_eq_getElem hi]; rfl
    have hmem : rs[i] ∈ rs := List.getElem_mem hi
    have hmo : ∀ m ∈ rs[i].mo, b ≤ m ∧ m < e := fun m hm => h.mo m (List.mem_filterMap.mpr ⟨rs[i], hmem, hm⟩)
    have hnid : rs[i].id ∉ (rs.take i).map Row.id := fun z => by
      obtain ⟨r', hr', er⟩ := List.mem_map.mp z
      obtain ⟨j, hj⟩ := List.getElem?_of_mem hr'
      have hji : j < i := by have := (List.getElem?_eq_some_iff.mp hj).1; simp at this; omega
      rw [List.getElem?_take, if_pos hji, List.getElem?_eq_getElem (by omega)] at hj
      have := Option.some.inj hj
      rw [← this] at er
      have := (List.pairwise_iff_getElem.mp h.nd) j i (by simp; omega) (by simpa using hi) hji
      simp at this; exact this er
    simp only [DL.sSetZ, DL.sRetZ, DL.sPar1, DL.sSeq, DL.sIf, DL.sSet, DL.sSetM, DL.sSetMN, DL.sAppN, DL.sSetMT, DL.sSetMS, DL.wLc, DL.wYes, DL.wPop, DL.wSl, DL.w1, DL.w1r, DL.lcW, DL.sFor, DL.sNext, DL.sRet, DL.sRetF, DL.sRetN, DL.sDrop, DL.sApp, DL.sAppR, DL.sSetIx, DL.sPar, DL.sParM, DL.sAsg, DL.wP, DL.wT, DL.wA, DL.wCall, DL.wCallP, DL.wACons, DL.wANil, DL.w2, DL.w2c, DL.w2t, DL.wIf, DL.wTup, DL.wLst, DL.wR1, DL.wAnd, DL.wOr, DL.wNot, DL.wTV, DL.pVar, DL.pInt, DL.pBl, DL.pStr, DL.pNon, DL.pDr, DL.pLf, DL.p1, DL.p2, DL.bI, DL.pc2, DL.tc2, DL.cI, DL.pAnd, DL.pOr, DL.pNot, DL.pIf, DL.pIsi, DL.pIsi2, DL.pChain, DL.tOf, DL.tNot1, DL.tAnd2, DL.tOr2, DL.tChn, DL.tIsN, DL.tNotN, DL.pIsN, DL.pNotN, DL.pNeg, DL.pSl, DL.pSlF, DL.pSlU, DL.pRev, DL.sfN, DL.sfS, DL.iU, DL.iL, DL.iR1, DL.iR2, DL.aCons, DL.aNil, DL.pLst, DL.pTup, DL.pLc, DL.pLcF, DL.pCall, DL.lV, DL.lIx, DL.lk, DL.startD, DL.ro, DL.gN, DL.gT, DL.gTL, DL.gC_cons, DL.gNl, DL.iS, DL.iE, DL.sAppC, DL.IsI_int, DL.toI_int, DL.IsB_bl, DL.toB_bl, DL.IsS_str, DL.toS_str, DL.IsL_lst, DL.IsU_tup, DL.IsQ_lst, DL.IsQ_tup, DL.toL_lst, DL.toL_tup, DL.drf_int, DL.drf_bl, DL.drf_str, DL.drf_non, DL.drf_lst, DL.drf_tup, DL.drf_obj, DL.drf_upd, DL.lenD_lst, DL.lenD_tup, DL.intD_int, DL.intD_bl, DL.rA_ref, DL.lf_int, DL.lf_bl, DL.lf_non, DL.lf_str, DL.lf_ref, DL.IsC_lst, DL.Ty_int, DL.Ty_tup, DL.Ty_lst, DL.Ty_bl, DL.Ty_str, DL.Ty_non, DL.wipeD, DL.ixQ, DL.tYesF, DL.bAddI, DL.bSub, DL.bMul, DL.bMod, DL.bFdiv, DL.bPow, DL.bMax2, DL.bMin2, DL.cLt, DL.cLe, DL.cGt, DL.cGe, List.set, List.map, List.length, List.length_cons, List.length_nil, List.replicate, List.nil_append, List.cons_append, List.append_nil, Option.isSome_some, Option.getD_some, Option.isSome_none, Bool.not_true, Bool.not_false, and_true, true_and, and_self, implies_true, Nat.zero_add, List.length_set, List.length_replicate, hrow, drf_ref hN, drf_row, IsQ_row, rat0, rat1, rat2, rat3, lf_row_, isrow_val, in_ids]
    refine ⟨by decide, ⟨fun _ => isrow_ok (h.one _ hmem) fun m hm => by have := hmo m hm; omega, ?_⟩⟩
    refine (if_neg (by simp; refine ⟨by omega, ?_⟩; simpa using hnid)).mpr ?_
    have hnew : updN N a ⟨true, put (dI ((rs.take i).map Row.id)) [] (.lst (((rs.take i).map Row.id).map D.int ++ [.int rs[i].id]))⟩ a = some ⟨true, dI ((rs.take (i + 1)).map Row.id)⟩ := by
      rw [updN_same, put_nil, List.take_succ, List.getElem?_eq_getElem hi]
      simp only [dI, List.map_append]; rfl
    have hsz : (((rs.take i).map Row.id).map D.int).length < SZ := by simp [SZ]; omega
    cases hmi : rs[i].mo with
    | none =>
      simp only [moD, isN]
      refine (if_neg (by simp)).mpr ⟨_, _, hN, sub_nil, hsz, hL _ _ ⟨l, _, _, rfl, hnew, hi, fun m hm2 => hm m ?_⟩⟩
      rw [hd, List.filterMap_cons, hmi]; exact hm2
    | some m =>
      have hm1 := hmo m hmi
      have hl := hm m (by rw [hd, List.filterMap_cons, hmi]; simp)
      simp only [moD, isN, DL.sSetZ, DL.sRetZ, DL.sPar1, DL.sSeq, DL.sIf, DL.sSet, DL.sSetM, DL.sSetMN, DL.sAppN, DL.sSetMT, DL.sSetMS, DL.wLc, DL.wYes, DL.wPop, DL.wSl, DL.w1, DL.w1r, DL.lcW, DL.sFor, DL.sNext, DL.sRet, DL.sRetF, DL.sRetN, DL.sDrop, DL.sApp, DL.sAppR, DL.sSetIx, DL.sPar, DL.sParM, DL.sAsg, DL.wP, DL.wT, DL.wA, DL.wCall, DL.wCallP, DL.wACons, DL.wANil, DL.w2, DL.w2c, DL.w2t, DL.wIf, DL.wTup, DL.wLst, DL.wR1, DL.wAnd, DL.wOr, DL.wNot, DL.wTV, DL.pVar, DL.pInt, DL.pBl, DL.pStr, DL.pNon, DL.pDr, DL.pLf, DL.p1, DL.p2, DL.bI, DL.pc2, DL.tc2, DL.cI, DL.pAnd, DL.pOr, DL.pNot, DL.pIf, DL.pIsi, DL.pIsi2, DL.pChain, DL.tOf, DL.tNot1, DL.tAnd2, DL.tOr2, DL.tChn, DL.tIsN, DL.tNotN, DL.pIsN, DL.pNotN, DL.pNeg, DL.pSl, DL.pSlF, DL.pSlU, DL.pRev, DL.sfN, DL.sfS, DL.iU, DL.iL, DL.iR1, DL.iR2, DL.aCons, DL.aNil, DL.pLst, DL.pTup, DL.pLc, DL.pLcF, DL.pCall, DL.lV, DL.lIx, DL.lk, DL.startD, DL.ro, DL.gN, DL.gT, DL.gTL, DL.gC_cons, DL.gNl, DL.iS, DL.iE, DL.sAppC, DL.IsI_int, DL.toI_int, DL.IsB_bl, DL.toB_bl, DL.IsS_str, DL.toS_str, DL.IsL_lst, DL.IsU_tup, DL.IsQ_lst, DL.IsQ_tup, DL.toL_lst, DL.toL_tup, DL.drf_int, DL.drf_bl, DL.drf_str, DL.drf_non, DL.drf_lst, DL.drf_tup, DL.drf_obj, DL.drf_upd, DL.lenD_lst, DL.lenD_tup, DL.intD_int, DL.intD_bl, DL.rA_ref, DL.lf_int, DL.lf_bl, DL.lf_non, DL.lf_str, DL.lf_ref, DL.IsC_lst, DL.Ty_int, DL.Ty_tup, DL.Ty_lst, DL.Ty_bl, DL.Ty_str, DL.Ty_non, DL.wipeD, DL.ixQ, DL.tYesF, DL.bAddI, DL.bSub, DL.bMul, DL.bMod, DL.bFdiv, DL.bPow, DL.bMax2, DL.bMin2, DL.cLt, DL.cLe, DL.cGt, DL.cGe, List.set, List.map, List.length, List.length_cons, List.length_nil, List.replicate, List.nil_append, List.cons_append, List.append_nil, Option.isSome_some, Option.getD_some, Option.isSome_none, Bool.not_true, Bool.not_false, and_true, true_and, and_self, implies_true, Nat.zero_add, List.length_set, List.length_replicate]
      refine (if_pos (by simp)).mpr ?_
      refine (if_neg (by simp [hl, hm1.2])).mpr ?_
      refine ⟨_, _, hN, sub_nil, hsz, hL _ _ ⟨m + 1, _, _, rfl, hnew, hi, fun m2 hm2 => ?_⟩⟩
      have hup := h.up
      rw [← List.take_append_drop i rs, List.filterMap_append, hd, List.filterMap_cons, hmi] at hup
      have := (List.pairwise_cons.mp (List.pairwise_append.mp hup).2.1).1 m2 hm2
      omega
end K13
set_option maxHeartbeats 4000000
namespace K13
open PySem L2 DL
theorem ne_nilI {a : List Int} : neT 8 (.lst (a.map .int)) (.lst []) = ⟨True, !decide (a = [])⟩ := by
  have h : ∀ c : List Int, okD 8 (dI c) := fun c d hd => by obtain ⟨i, _, rfl⟩ := List.mem_map.mp hd; trivial
  unfold neT
  congr 1
  · exact eq_true ⟨h a, h []⟩
  · cases a with
    | nil => simp [eqD_lst, eqDs_nil]
    | cons x xs => simp [eqD_lst, eqDs_cn]
theorem erase_map {α β : Type} {f : α → β} : ∀ {xs : List α} {n : Nat}, (xs.map f).eraseIdx n = (xs.eraseIdx n).map f
  | [], _ => rfl
  | x :: xs, 0 => rfl
  | x :: xs, n + 1 => by simp [erase_map (xs := xs) (n := n)]
theorem sset_ok {a : List Int} : (sortsetD (dI a)).ok = (a.length < 64) := by
  unfold sortsetD; rw [toL_lst, List.length_map]; exact propext ⟨fun h => h.2, fun h => ⟨Ints_map, h⟩⟩
theorem sset_val {a : List Int} : (sortsetD (dI a)).val = dI (usort a) := by unfold sortsetD; rw [toIs_lst]
theorem moments_lc {a ac : Addr} (hac : ac ≠ a) {b e : Int} (hbe : b < e) (he : e ≤ 900) (hb0 : 0 ≤ b) {m : Int} {x4 x5 : Option D} {Qc : D → Nm → Prop} {N0 : Nm}
    (hQ : ∀ N acc dd, N a = some ⟨true, dd⟩ → HSt dd → N ac = some ⟨true, dI acc⟩ → (∀ x ∈ acc, b ≤ x ∧ x < e) → acc.length ≤ 6 → (∀ z, z ≠ a → z ≠ ac → N z = N0 z) → Qc (.ref ac) N) :
    ∀ (items : List Int) (N : Nm) (acc : List Int) (dd : D), N a = some ⟨true, dd⟩ → HSt dd → N ac = some ⟨true, dI acc⟩ → (∀ x ∈ acc, b ≤ x ∧ x < e) → acc.length + items.length ≤ 6 → (∀ z, z ≠ a → z ≠ ac → N z = N0 z) →
      lcW (gN 8) wYes (w2 (bI (fun x x_1 => True) fun i j => D.int (i + j)) (wP (pVar 1)) (wCall 2 sp_law_next (wACons (wP (pVar 0)) (wACons (wP (p2 (bI (fun x x_1 => True) fun i j => D.int (i - j)) (pDr (pVar 2)) (pDr (pVar 1)))) wANil))))
        [some (D.ref a), some (D.int b), some (D.int e), some (D.int m), x4, x5, none, none, none, none, none, none] ac Qc (items.map D.int) N
  | [], N, acc, dd, h1, h2, h3, h4, h5, h6 => hQ N acc dd h1 h2 h3 h4 (by simpa using h5) h6
  | it :: items, N, acc, dd, h1, h2, h3, h4, h5, h6 => by
    rw [List.map_cons]
    simp only [DL.sSetZ, DL.sRetZ, DL.sPar1, DL.sSeq, DL.sIf, DL.sSet, DL.sSetM, DL.sSetMN, DL.sAppN, DL.sSetMT, DL.sSetMS, DL.wLc, DL.wYes, DL.wPop, DL.wSl, DL.w1, DL.w1r, DL.lcW, DL.sFor, DL.sNext, DL.sRet, DL.sRetF, DL.sRetN, DL.sDrop, DL.sApp, DL.sAppR, DL.sSetIx, DL.sPar, DL.sParM, DL.sAsg, DL.wP, DL.wT, DL.wA, DL.wCall, DL.wCallP, DL.wACons, DL.wANil, DL.w2, DL.w2c, DL.w2t, DL.wIf, DL.wTup, DL.wLst, DL.wR1, DL.wAnd, DL.wOr, DL.wNot, DL.wTV, DL.pVar, DL.pInt, DL.pBl, DL.pStr, DL.pNon, DL.pDr, DL.pLf, DL.p1, DL.p2, DL.bI, DL.pc2, DL.tc2, DL.cI, DL.pAnd, DL.pOr, DL.pNot, DL.pIf, DL.pIsi, DL.pIsi2, DL.pChain, DL.tOf, DL.tNot1, DL.tAnd2, DL.tOr2, DL.tChn, DL.tIsN, DL.tNotN, DL.pIsN, DL.pNotN, DL.pNeg, DL.pSl, DL.pSlF, DL.pSlU, DL.pRev, DL.sfN, DL.sfS, DL.iU, DL.iL, DL.iR1, DL.iR2, DL.aCons, DL.aNil, DL.pLst, DL.pTup, DL.pLc, DL.pLcF, DL.pCall, DL.lV, DL.lIx, DL.lk, DL.startD, DL.ro, DL.gN, DL.gT, DL.gTL, DL.gC_cons, DL.gNl, DL.iS, DL.iE, DL.sAppC, DL.IsI_int, DL.toI_int, DL.IsB_bl, DL.toB_bl, DL.IsS_str, DL.toS_str, DL.IsL_lst, DL.IsU_tup, DL.IsQ_lst, DL.IsQ_tup, DL.toL_lst, DL.toL_tup, DL.drf_int, DL.drf_bl, DL.drf_str, DL.drf_non, DL.drf_lst, DL.drf_tup, DL.drf_obj, DL.drf_upd, DL.lenD_lst, DL.lenD_tup, DL.intD_int, DL.intD_bl, DL.rA_ref, DL.lf_int, DL.lf_bl, DL.lf_non, DL.lf_str, DL.lf_ref, DL.IsC_lst, DL.Ty_int, DL.Ty_tup, DL.Ty_lst, DL.Ty_bl, DL.Ty_str, DL.Ty_non, DL.wipeD, DL.ixQ, DL.tYesF, DL.bAddI, DL.bSub, DL.bMul, DL.bMod, DL.bFdiv, DL.bPow, DL.bMax2, DL.bMin2, DL.cLt, DL.cLe, DL.cGt, DL.cGe, List.set, List.map, List.length, List.length_cons, List.length_nil, List.replicate, List.nil_append, List.cons_append, List.append_nil, Option.isSome_some, Option.getD_some, Option.isSome_none, Bool.not_true, Bool.not_false, and_true, true_and, and_self, implies_true, Nat.zero_add, List.length_set, List.length_replicate]
    refine ⟨by decide, ?_⟩
    simp only [if_true]
    refine ⟨a, e - b, dd, rfl, h1, h2, by omega, by omega, fun r d' r0 r1 hs' => ?_⟩
    simp only [DL.sSetZ, DL.sRetZ, DL.sPar1, DL.sSeq, DL.sIf, DL.sSet, DL.sSetM, DL.sSetMN, DL.sAppN, DL.sSetMT, DL.sSetMS, DL.wLc, DL.wYes, DL.wPop, DL.wSl, DL.w1, DL.w1r, DL.lcW, DL.sFor, DL.sNext, DL.sRet, DL.sRetF, DL.sRetN, DL.sDrop, DL.sApp, DL.sAppR, DL.sSetIx, DL.sPar, DL.sParM, DL.sAsg, DL.wP, DL.wT, DL.wA, DL.wCall, DL.wCallP, DL.wACons, DL.wANil, DL.w2, DL.w2c, DL.w2t, DL.wIf, DL.wTup, DL.wLst, DL.wR1, DL.wAnd, DL.wOr, DL.wNot, DL.wTV, DL.pVar, DL.pInt, DL.pBl, DL.pStr, DL.pNon, DL.pDr, DL.pLf, DL.p1, DL.p2, DL.bI, DL.pc2, DL.tc2, DL.cI, DL.pAnd, DL.pOr, DL.pNot, DL.pIf, DL.pIsi, DL.pIsi2, DL.pChain, DL.tOf, DL.tNot1, DL.tAnd2, DL.tOr2, DL.tChn, DL.tIsN, DL.tNotN, DL.pIsN, DL.pNotN, DL.pNeg, DL.pSl, DL.pSlF, DL.pSlU, DL.pRev, DL.sfN, DL.sfS, DL.iU, DL.iL, DL.iR1, DL.iR2, DL.aCons, DL.aNil, DL.pLst, DL.pTup, DL.pLc, DL.pLcF, DL.pCall, DL.lV, DL.lIx, DL.lk, DL.startD, DL.ro, DL.gN, DL.gT, DL.gTL, DL.gC_cons, DL.gNl, DL.iS, DL.iE, DL.sAppC, DL.IsI_int, DL.toI_int, DL.IsB_bl, DL.toB_bl, DL.IsS_str, DL.toS_str, DL.IsL_lst, DL.IsU_tup, DL.IsQ_lst, DL.IsQ_tup, DL.toL_lst, DL.toL_tup, DL.drf_int, DL.drf_bl, DL.drf_str, DL.drf_non, DL.drf_lst, DL.drf_tup, DL.drf_obj, DL.drf_upd, DL.lenD_lst, DL.lenD_tup, DL.intD_int, DL.intD_bl, DL.rA_ref, DL.lf_int, DL.lf_bl, DL.lf_non, DL.lf_str, DL.lf_ref, DL.IsC_lst, DL.Ty_int, DL.Ty_tup, DL.Ty_lst, DL.Ty_bl, DL.Ty_str, DL.Ty_non, DL.wipeD, DL.ixQ, DL.tYesF, DL.bAddI, DL.bSub, DL.bMul, DL.bMod, DL.bFdiv, DL.bPow, DL.bMax2, DL.bMin2, DL.cLt, DL.cLe, DL.cGt, DL.cGe, List.set, List.map, List.length, List.length_cons, List.length_nil, List.replicate, List.nil_append, List.cons_append, List.append_nil, Option.isSome_some, Option.getD_some, Option.isSome_none, Bool.not_true, Bool.not_false, and_true, true_and, and_self, implies_true, Nat.zero_add, List.length_set, List.length_replicate]
    refine ⟨acc.map D.int, ?_, ?_, ?_⟩
    · rw [updN_ne hac]; exact h3
    · rw [List.length_map]; show _ < 16000000; simp at h5; omega
    · refine moments_lc hac hbe he hb0 hQ items _ (acc ++ [b + r]) d' (by rw [updN_ne (fun z => hac z.symm), updN_same]) hs' ?_ ?_ ?_ ?_
      · rw [updN_same]; simp only [dI, List.map_append]; rfl
      · intro x hx
        rcases List.mem_append.mp hx with hx | hx
        · exact h4 x hx
        · simp at hx; omega
      · simp at h5 ⊢; omega
      · intro z hz1 hz2
        rw [updN_ne hz2, updN_ne hz1]; exact h6 z hz1 hz2
theorem r_law_rows (ds : List D) (M : Nm) (Q' : D → Nm → Prop) (E' : ED) (hl : ds.length = 4) (h : sp_law_rows ds M Q' E') : w_law_rows { nx := fun _ M' => Q' .non M', rt := Q', ex := E' } (startD n_law_rows.length ds) M := by
  obtain ⟨a, d, b, e, most, rfl, hN, hs, hb0, hbe, he, hm0, hm1, q⟩ := h
  simp only [w_law_rows, n_law_rows, DL.sSetZ, DL.sRetZ, DL.sPar1, DL.sSeq, DL.sIf, DL.sSet, DL.sSetM, DL.sSetMN, DL.sAppN, DL.sSetMT, DL.sSetMS, DL.wLc, DL.wYes, DL.wPop, DL.wSl, DL.w1, DL.w1r, DL.lcW, DL.sFor, DL.sNext, DL.sRet, DL.sRetF, DL.sRetN, DL.sDrop, DL.sApp, DL.sAppR, DL.sSetIx, DL.sPar, DL.sParM, DL.sAsg, DL.wP, DL.wT, DL.wA, DL.wCall, DL.wCallP, DL.wACons, DL.wANil, DL.w2, DL.w2c, DL.w2t, DL.wIf, DL.wTup, DL.wLst, DL.wR1, DL.wAnd, DL.wOr, DL.wNot, DL.wTV, DL.pVar, DL.pInt, DL.pBl, DL.pStr, DL.pNon, DL.pDr, DL.pLf, DL.p1, DL.p2, DL.bI, DL.pc2, DL.tc2, DL.cI, DL.pAnd, DL.pOr, DL.pNot, DL.pIf, DL.pIsi, DL.pIsi2, DL.pChain, DL.tOf, DL.tNot1, DL.tAnd2, DL.tOr2, DL.tChn, DL.tIsN, DL.tNotN, DL.pIsN, DL.pNotN, DL.pNeg, DL.pSl, DL.pSlF, DL.pSlU, DL.pRev, DL.sfN, DL.sfS, DL.iU, DL.iL, DL.iR1, DL.iR2, DL.aCons, DL.aNil, DL.pLst, DL.pTup, DL.pLc, DL.pLcF, DL.pCall, DL.lV, DL.lIx, DL.lk, DL.startD, DL.ro, DL.gN, DL.gT, DL.gTL, DL.gC_cons, DL.gNl, DL.iS, DL.iE, DL.sAppC, DL.IsI_int, DL.toI_int, DL.IsB_bl, DL.toB_bl, DL.IsS_str, DL.toS_str, DL.IsL_lst, DL.IsU_tup, DL.IsQ_lst, DL.IsQ_tup, DL.toL_lst, DL.toL_tup, DL.drf_int, DL.drf_bl, DL.drf_str, DL.drf_non, DL.drf_lst, DL.drf_tup, DL.drf_obj, DL.drf_upd, DL.lenD_lst, DL.lenD_tup, DL.intD_int, DL.intD_bl, DL.rA_ref, DL.lf_int, DL.lf_bl, DL.lf_non, DL.lf_str, DL.lf_ref, DL.IsC_lst, DL.Ty_int, DL.Ty_tup, DL.Ty_lst, DL.Ty_bl, DL.Ty_str, DL.Ty_non, DL.wipeD, DL.ixQ, DL.tYesF, DL.bAddI, DL.bSub, DL.bMul, DL.bMod, DL.bFdiv, DL.bPow, DL.bMax2, DL.bMin2, DL.cLt, DL.cLe, DL.cGt, DL.cGe, List.set, List.map, List.length, List.length_cons, List.length_nil, List.replicate, List.nil_append, List.cons_append, List.append_nil, Option.isSome_some, Option.getD_some, Option.isSome_none, Bool.not_true, Bool.not_false, and_true, true_and, and_self, implies_true, Nat.zero_add, List.length_set, List.length_replicate]
  have el : (lrD (.int 100)).val = .lst ((rng 0 100).map .int) := rfl
  refine ⟨⟨trivial, by decide, by decide⟩, trivial, fun a4 h4 => ?_⟩
  have n4 : a ≠ a4 := fun z => by subst z; rw [hN] at h4; cases h4
  refine ⟨a, 4, d, rfl, by rw [updN_ne n4]; exact hN, hs, by decide, by decide, fun often d1 o0 o1 hs1 => ?_⟩
  simp only [DL.sSetZ, DL.sRetZ, DL.sPar1, DL.sSeq, DL.sIf, DL.sSet, DL.sSetM, DL.sSetMN, DL.sAppN, DL.sSetMT, DL.sSetMS, DL.wLc, DL.wYes, DL.wPop, DL.wSl, DL.w1, DL.w1r, DL.lcW, DL.sFor, DL.sNext, DL.sRet, DL.sRetF, DL.sRetN, DL.sDrop, DL.sApp, DL.sAppR, DL.sSetIx, DL.sPar, DL.sParM, DL.sAsg, DL.wP, DL.wT, DL.wA, DL.wCall, DL.wCallP, DL.wACons, DL.wANil, DL.w2, DL.w2c, DL.w2t, DL.wIf, DL.wTup, DL.wLst, DL.wR1, DL.wAnd, DL.wOr, DL.wNot, DL.wTV, DL.pVar, DL.pInt, DL.pBl, DL.pStr, DL.pNon, DL.pDr, DL.pLf, DL.p1, DL.p2, DL.bI, DL.pc2, DL.tc2, DL.cI, DL.pAnd, DL.pOr, DL.pNot, DL.pIf, DL.pIsi, DL.pIsi2, DL.pChain, DL.tOf, DL.tNot1, DL.tAnd2, DL.tOr2, DL.tChn, DL.tIsN, DL.tNotN, DL.pIsN, DL.pNotN, DL.pNeg, DL.pSl, DL.pSlF, DL.pSlU, DL.pRev, DL.sfN, DL.sfS, DL.iU, DL.iL, DL.iR1, DL.iR2, DL.aCons, DL.aNil, DL.pLst, DL.pTup, DL.pLc, DL.pLcF, DL.pCall, DL.lV, DL.lIx, DL.lk, DL.startD, DL.ro, DL.gN, DL.gT, DL.gTL, DL.gC_cons, DL.gNl, DL.iS, DL.iE, DL.sAppC, DL.IsI_int, DL.toI_int, DL.IsB_bl, DL.toB_bl, DL.IsS_str, DL.toS_str, DL.IsL_lst, DL.IsU_tup, DL.IsQ_lst, DL.IsQ_tup, DL.toL_lst, DL.toL_tup, DL.drf_int, DL.drf_bl, DL.drf_str, DL.drf_non, DL.drf_lst, DL.drf_tup, DL.drf_obj, DL.drf_upd, DL.lenD_lst, DL.lenD_tup, DL.intD_int, DL.intD_bl, DL.rA_ref, DL.lf_int, DL.lf_bl, DL.lf_non, DL.lf_str, DL.lf_ref, DL.IsC_lst, DL.Ty_int, DL.Ty_tup, DL.Ty_lst, DL.Ty_bl, DL.Ty_str, DL.Ty_non, DL.wipeD, DL.ixQ, DL.tYesF, DL.bAddI, DL.bSub, DL.bMul, DL.bMod, DL.bFdiv, DL.bPow, DL.bMax2, DL.bMin2, DL.cLt, DL.cLe, DL.cGt, DL.cGe, List.set, List.map, List.length, List.length_cons, List.length_nil, List.replicate, List.nil_append, List.cons_append, List.append_nil, Option.isSome_some, Option.getD_some, Option.isSome_none, Bool.not_true, Bool.not_false, and_true, true_and, and_self, implies_true, Nat.zero_add, List.length_set, List.length_replicate]
  refine ⟨a, 6, d1, rfl, updN_same, hs1, by decide, by decide, fun r6 d2 r60 r61 hs2 => ?_⟩
  simp only [DL.sSetZ, DL.sRetZ, DL.sPar1, DL.sSeq, DL.sIf, DL.sSet, DL.sSetM, DL.sSetMN, DL.sAppN, DL.sSetMT, DL.sSetMS, DL.wLc, DL.wYes, DL.wPop, DL.wSl, DL.w1, DL.w1r, DL.lcW, DL.sFor, DL.sNext, DL.sRet, DL.sRetF, DL.sRetN, DL.sDrop, DL.sApp, DL.sAppR, DL.sSetIx, DL.sPar, DL.sParM, DL.sAsg, DL.wP, DL.wT, DL.wA, DL.wCall, DL.wCallP, DL.wACons, DL.wANil, DL.w2, DL.w2c, DL.w2t, DL.wIf, DL.wTup, DL.wLst, DL.wR1, DL.wAnd, DL.wOr, DL.wNot, DL.wTV, DL.pVar, DL.pInt, DL.pBl, DL.pStr, DL.pNon, DL.pDr, DL.pLf, DL.p1, DL.p2, DL.bI, DL.pc2, DL.tc2, DL.cI, DL.pAnd, DL.pOr, DL.pNot, DL.pIf, DL.pIsi, DL.pIsi2, DL.pChain, DL.tOf, DL.tNot1, DL.tAnd2, DL.tOr2, DL.tChn, DL.tIsN, DL.tNotN, DL.pIsN, DL.pNotN, DL.pNeg, DL.pSl, DL.pSlF, DL.pSlU, DL.pRev, DL.sfN, DL.sfS, DL.iU, DL.iL, DL.iR1, DL.iR2, DL.aCons, DL.aNil, DL.pLst, DL.pTup, DL.pLc, DL.pLcF, DL.pCall, DL.lV, DL.lIx, DL.lk, DL.startD, DL.ro, DL.gN, DL.gT, DL.gTL, DL.gC_cons, DL.gNl, DL.iS, DL.iE, DL.sAppC, DL.IsI_int, DL.toI_int, DL.IsB_bl, DL.toB_bl, DL.IsS_str, DL.toS_str, DL.IsL_lst, DL.IsU_tup, DL.IsQ_lst, DL.IsQ_tup, DL.toL_lst, DL.toL_tup, DL.drf_int, DL.drf_bl, DL.drf_str, DL.drf_non, DL.drf_lst, DL.drf_tup, DL.drf_obj, DL.drf_upd, DL.lenD_lst, DL.lenD_tup, DL.intD_int, DL.intD_bl, DL.rA_ref, DL.lf_int, DL.lf_bl, DL.lf_non, DL.lf_str, DL.lf_ref, DL.IsC_lst, DL.Ty_int, DL.Ty_tup, DL.Ty_lst, DL.Ty_bl, DL.Ty_str, DL.Ty_non, DL.wipeD, DL.ixQ, DL.tYesF, DL.bAddI, DL.bSub, DL.bMul, DL.bMod, DL.bFdiv, DL.bPow, DL.bMax2, DL.bMin2, DL.cLt, DL.cLe, DL.cGt, DL.cGe, List.set, List.map, List.length, List.length_cons, List.length_nil, List.replicate, List.nil_append, List.cons_append, List.append_nil, Option.isSome_some, Option.getD_some, Option.isSome_none, Bool.not_true, Bool.not_false, and_true, true_and, and_self, implies_true, Nat.zero_add, List.length_set, List.length_replicate, updN_twice]
  have hmul : ∀ c : Bool, 0 ≤ r6 * (bif c then 1 else 0) ∧ r6 * (bif c then 1 else 0) < 6 := fun c => by cases c <;> simp <;> omega
  have hnat : ∀ c : Bool, (r6 * (bif c then 1 else 0)).toNat ≤ 6 := fun c => by have := hmul c; omega
  refine ⟨.inl ⟨by omega, by omega⟩, Int.le_trans (by decide) (hmul _).1, Int.lt_of_lt_of_le (hmul _).2 (by decide), fun ac hac => ?_⟩
  have nac : ac ≠ a := fun z => by subst z; rw [updN_same] at hac; cases hac
  have nac4 : ac ≠ a4 := fun z => by subst z; rw [updN_ne (fun z => n4 z.symm), updN_same] at hac; cases hac
  refine moments_lc nac hbe he hb0 ?_ _ _ [] d2 (by rw [updN_ne (fun z => nac z.symm), updN_same]) hs2 (by rw [updN_same]; rfl) (by simp) (by rw [rng_length, List.length_nil, Nat.zero_add]; exact hnat _) (fun z hz1 hz2 => rfl)
  intro N1 acc d3 hN1 hs3 hac1 hacc hal hpr
  have hp4 : N1 a4 = some ⟨true, (lrD (.int 100)).val⟩ := by rw [hpr a4 (fun z => n4 z.symm) (fun z => nac4 z.symm), updN_ne (fun z => nac4 z.symm), updN_ne (fun z => n4 z.symm), updN_same]
  simp only [drf_ref hac1, sset_ok, sset_val]
  refine ⟨by omega, fun a6 h6 => ⟨by decide, fun a7 h7 => ?_⟩⟩
  have e6a : a6 ≠ a := fun z => by subst z; rw [hN1] at h6; cases h6
  have e64 : a6 ≠ a4 := fun z => by subst z; rw [hp4] at h6; cases h6
  have h7' : N1 a7 = none ∧ a7 ≠ a6 := by
    by_cases z : a7 = a6
    · subst z; rw [updN_same] at h7; cases h7
    · rw [updN_ne z] at h7; exact ⟨h7, z⟩
  obtain ⟨h7n, e76⟩ := h7'
  have e7a : a7 ≠ a := fun z => by subst z; rw [hN1] at h7n; cases h7n
  have e74 : a7 ≠ a4 := fun z => by subst z; rw [hp4] at h7n; cases h7n
  refine ⟨a, most + 1, d3, rfl, by rw [updN_ne (fun z => e7a z.symm), updN_ne (fun z => e6a z.symm)]; exact hN1, hs3, by omega, by omega, fun r7 d4 r70 r71 hs4 => ?_⟩
  simp only [DL.sSetZ, DL.sRetZ, DL.sPar1, DL.sSeq, DL.sIf, DL.sSet, DL.sSetM, DL.sSetMN, DL.sAppN, DL.sSetMT, DL.sSetMS, DL.wLc, DL.wYes, DL.wPop, DL.wSl, DL.w1, DL.w1r, DL.lcW, DL.sFor, DL.sNext, DL.sRet, DL.sRetF, DL.sRetN, DL.sDrop, DL.sApp, DL.sAppR, DL.sSetIx, DL.sPar, DL.sParM, DL.sAsg, DL.wP, DL.wT, DL.wA, DL.wCall, DL.wCallP, DL.wACons, DL.wANil, DL.w2, DL.w2c, DL.w2t, DL.wIf, DL.wTup, DL.wLst, DL.wR1, DL.wAnd, DL.wOr, DL.wNot, DL.wTV, DL.pVar, DL.pInt, DL.pBl, DL.pStr, DL.pNon, DL.pDr, DL.pLf, DL.p1, DL.p2, DL.bI, DL.pc2, DL.tc2, DL.cI, DL.pAnd, DL.pOr, DL.pNot, DL.pIf, DL.pIsi, DL.pIsi2, DL.pChain, DL.tOf, DL.tNot1, DL.tAnd2, DL.tOr2, DL.tChn, DL.tIsN, DL.tNotN, DL.pIsN, DL.pNotN, DL.pNeg, DL.pSl, DL.pSlF, DL.pSlU, DL.pRev, DL.sfN, DL.sfS, DL.iU, DL.iL, DL.iR1, DL.iR2, DL.aCons, DL.aNil, DL.pLst, DL.pTup, DL.pLc, DL.pLcF, DL.pCall, DL.lV, DL.lIx, DL.lk, DL.startD, DL.ro, DL.gN, DL.gT, DL.gTL, DL.gC_cons, DL.gNl, DL.iS, DL.iE, DL.sAppC, DL.IsI_int, DL.toI_int, DL.IsB_bl, DL.toB_bl, DL.IsS_str, DL.toS_str, DL.IsL_lst, DL.IsU_tup, DL.IsQ_lst, DL.IsQ_tup, DL.toL_lst, DL.toL_tup, DL.drf_int, DL.drf_bl, DL.drf_str, DL.drf_non, DL.drf_lst, DL.drf_tup, DL.drf_obj, DL.drf_upd, DL.lenD_lst, DL.lenD_tup, DL.intD_int, DL.intD_bl, DL.rA_ref, DL.lf_int, DL.lf_bl, DL.lf_non, DL.lf_str, DL.lf_ref, DL.IsC_lst, DL.Ty_int, DL.Ty_tup, DL.Ty_lst, DL.Ty_bl, DL.Ty_str, DL.Ty_non, DL.wipeD, DL.ixQ, DL.tYesF, DL.bAddI, DL.bSub, DL.bMul, DL.bMod, DL.bFdiv, DL.bPow, DL.bMax2, DL.bMin2, DL.cLt, DL.cLe, DL.cGt, DL.cGe, List.set, List.map, List.length, List.length_cons, List.length_nil, List.replicate, List.nil_append, List.cons_append, List.append_nil, Option.isSome_some, Option.getD_some, Option.isSome_none, Bool.not_true, Bool.not_false, and_true, true_and, and_self, implies_true, Nat.zero_add, List.length_set, List.length_replicate]
  refine ⟨by omega, by omega, ?_⟩
  refine loopD_rng (fun i δ N => ∃ (Lf ms : List Int) (rs : List Row) (x8 x9 x10 x11 : Option D) (dd : D), δ = [some (.ref a), some (.int b), some (.int e), some (.int most), some (.ref a4), some (.int often), some (.ref a6), some (.ref a7), x8, x9, x10, x11] ∧
    N a = some ⟨true, dd⟩ ∧ HSt dd ∧ N a4 = some ⟨true, dI Lf⟩ ∧ N a6 = some ⟨true, dI ms⟩ ∧ N a7 = some ⟨true, dR rs⟩ ∧ rs.length = i ∧ Lf.length = 100 - i ∧ Lf.Nodup ∧ (∀ l ∈ Lf, 0 ≤ l ∧ l ≤ 99) ∧ ms.Pairwise (· < ·) ∧ (∀ x ∈ ms, b ≤ x ∧ x < e) ∧
    (∀ r ∈ rs, ROk1 r ∧ r.id ∉ Lf) ∧ (rs.map Row.id).Nodup ∧ (∀ m ∈ rs.filterMap Row.mo, (b ≤ m ∧ m < e) ∧ ∀ y ∈ ms, m < y) ∧ (rs.filterMap Row.mo).Pairwise (· < ·) ∧
    (∀ z, z ≠ a → z ≠ a4 → z ≠ a6 → z ≠ a7 → N z = N1 z)) ?_ ?_ ?_
  · refine ⟨rng 0 100, usort acc, [], none, none, none, none, d4, rfl, updN_same, hs4, ?_, ?_, ?_, rfl, by rw [rng_length], by decide +kernel, by decide +kernel, usort_up, fun x hx => hacc x (usort_mem.mp hx), by simp, by simp, by simp, by simp, fun z z1 z2 z3 z4 => by rw [updN_ne z1, updN_ne z4, updN_ne z3]⟩
    · rw [updN_ne (fun z => n4 z.symm), updN_ne (fun z => e74 z.symm), updN_ne (fun z => e64 z.symm)]; exact hp4
    · rw [updN_ne e6a, updN_ne (fun z => e76 z.symm), updN_same]
    · rw [updN_ne e7a, updN_same]; rfl
  · rintro δ N ⟨Lf, ms, rs, x8, x9, x10, x11, dd, rfl, g1, g2, g3, g4, g5, g6, g7, g8, g9, g10, g11, g12, g13, g14, g15, g16⟩
    simp only [DL.sSetZ, DL.sRetZ, DL.sPar1, DL.sSeq, DL.sIf, DL.sSet, DL.sSetM, DL.sSetMN, DL.sAppN, DL.sSetMT, DL.sSetMS, DL.wLc, DL.wYes, DL.wPop, DL.wSl, DL.w1, DL.w1r, DL.lcW, DL.sFor, DL.sNext, DL.sRet, DL.sRetF, DL.sRetN, DL.sDrop, DL.sApp, DL.sAppR, DL.sSetIx, DL.sPar, DL.sParM, DL.sAsg, DL.wP, DL.wT, DL.wA, DL.wCall, DL.wCallP, DL.wACons, DL.wANil, DL.w2, DL.w2c, DL.w2t, DL.wIf, DL.wTup, DL.wLst, DL.wR1, DL.wAnd, DL.wOr, DL.wNot, DL.wTV, DL.pVar, DL.pInt, DL.pBl, DL.pStr, DL.pNon, DL.pDr, DL.pLf, DL.p1, DL.p2, DL.bI, DL.pc2, DL.tc2, DL.cI, DL.pAnd, DL.pOr, DL.pNot, DL.pIf, DL.pIsi, DL.pIsi2, DL.pChain, DL.tOf, DL.tNot1, DL.tAnd2, DL.tOr2, DL.tChn, DL.tIsN, DL.tNotN, DL.pIsN, DL.pNotN, DL.pNeg, DL.pSl, DL.pSlF, DL.pSlU, DL.pRev, DL.sfN, DL.sfS, DL.iU, DL.iL, DL.iR1, DL.iR2, DL.aCons, DL.aNil, DL.pLst, DL.pTup, DL.pLc, DL.pLcF, DL.pCall, DL.lV, DL.lIx, DL.lk, DL.startD, DL.ro, DL.gN, DL.gT, DL.gTL, DL.gC_cons, DL.gNl, DL.iS, DL.iE, DL.sAppC, DL.IsI_int, DL.toI_int, DL.IsB_bl, DL.toB_bl, DL.IsS_str, DL.toS_str, DL.IsL_lst, DL.IsU_tup, DL.IsQ_lst, DL.IsQ_tup, DL.toL_lst, DL.toL_tup, DL.drf_int, DL.drf_bl, DL.drf_str, DL.drf_non, DL.drf_lst, DL.drf_tup, DL.drf_obj, DL.drf_upd, DL.lenD_lst, DL.lenD_tup, DL.intD_int, DL.intD_bl, DL.rA_ref, DL.lf_int, DL.lf_bl, DL.lf_non, DL.lf_str, DL.lf_ref, DL.IsC_lst, DL.Ty_int, DL.Ty_tup, DL.Ty_lst, DL.Ty_bl, DL.Ty_str, DL.Ty_non, DL.wipeD, DL.ixQ, DL.tYesF, DL.bAddI, DL.bSub, DL.bMul, DL.bMod, DL.bFdiv, DL.bPow, DL.bMax2, DL.bMin2, DL.cLt, DL.cLe, DL.cGt, DL.cGe, List.set, List.map, List.length, List.length_cons, List.length_nil, List.replicate, List.nil_append, List.cons_append, List.append_nil, Option.isSome_some, Option.getD_some, Option.isSome_none, Bool.not_true, Bool.not_false, and_true, true_and, and_self, implies_true, Nat.zero_add, List.length_set, List.length_replicate]
    have Mac : M ac = none := by rw [updN_ne nac, updN_ne nac4] at hac; exact hac
    have hM : ∀ z c, z ≠ a → M z = some c → N1 z = some c ∧ z ≠ a4 ∧ z ≠ a6 ∧ z ≠ a7 := fun z c hz hc => by
      have z4 : z ≠ a4 := fun y => by subst y; rw [h4] at hc; cases hc
      have zc : z ≠ ac := fun y => by subst y; rw [Mac] at hc; cases hc
      have hz1 : N1 z = some c := by rw [hpr z hz zc, updN_ne zc, updN_ne hz, updN_ne z4]; exact hc
      exact ⟨hz1, z4, (fun y => by subst y; rw [h6] at hz1; cases hz1), (fun y => by subst y; rw [h7n] at hz1; cases hz1)⟩
    refine ⟨_, g5, q dd rs (remN N a7) ⟨by omega, fun r hr => (g12 r hr).1, g13, fun m hm => (g14 m hm).1, g15, ⟨hb0, hbe, he⟩⟩ (by omega) g2 (fun z c hz hc => ?_) (by rw [remN_ne (fun z => e7a z.symm)]; exact g1)⟩
    obtain ⟨y1, y2, y3, y4⟩ := hM z c hz hc
    rw [remN_ne y4, g16 z hz y2 y3 y4]; exact y1
  · rintro i δ N L hi hL ⟨Lf, ms, rs, x8, x9, x10, x11, dd, rfl, g1, g2, g3, g4, g5, g6, g7, g8, g9, g10, g11, g12, g13, g14, g15, g16⟩
    have hi30 : i < 30 := by omega
    simp only [DL.sSetZ, DL.sRetZ, DL.sPar1, DL.sSeq, DL.sIf, DL.sSet, DL.sSetM, DL.sSetMN, DL.sAppN, DL.sSetMT, DL.sSetMS, DL.wLc, DL.wYes, DL.wPop, DL.wSl, DL.w1, DL.w1r, DL.lcW, DL.sFor, DL.sNext, DL.sRet, DL.sRetF, DL.sRetN, DL.sDrop, DL.sApp, DL.sAppR, DL.sSetIx, DL.sPar, DL.sParM, DL.sAsg, DL.wP, DL.wT, DL.wA, DL.wCall, DL.wCallP, DL.wACons, DL.wANil, DL.w2, DL.w2c, DL.w2t, DL.wIf, DL.wTup, DL.wLst, DL.wR1, DL.wAnd, DL.wOr, DL.wNot, DL.wTV, DL.pVar, DL.pInt, DL.pBl, DL.pStr, DL.pNon, DL.pDr, DL.pLf, DL.p1, DL.p2, DL.bI, DL.pc2, DL.tc2, DL.cI, DL.pAnd, DL.pOr, DL.pNot, DL.pIf, DL.pIsi, DL.pIsi2, DL.pChain, DL.tOf, DL.tNot1, DL.tAnd2, DL.tOr2, DL.tChn, DL.tIsN, DL.tNotN, DL.pIsN, DL.pNotN, DL.pNeg, DL.pSl, DL.pSlF, DL.pSlU, DL.pRev, DL.sfN, DL.sfS, DL.iU, DL.iL, DL.iR1, DL.iR2, DL.aCons, DL.aNil, DL.pLst, DL.pTup, DL.pLc, DL.pLcF, DL.pCall, DL.lV, DL.lIx, DL.lk, DL.startD, DL.ro, DL.gN, DL.gT, DL.gTL, DL.gC_cons, DL.gNl, DL.iS, DL.iE, DL.sAppC, DL.IsI_int, DL.toI_int, DL.IsB_bl, DL.toB_bl, DL.IsS_str, DL.toS_str, DL.IsL_lst, DL.IsU_tup, DL.IsQ_lst, DL.IsQ_tup, DL.toL_lst, DL.toL_tup, DL.drf_int, DL.drf_bl, DL.drf_str, DL.drf_non, DL.drf_lst, DL.drf_tup, DL.drf_obj, DL.drf_upd, DL.lenD_lst, DL.lenD_tup, DL.intD_int, DL.intD_bl, DL.rA_ref, DL.lf_int, DL.lf_bl, DL.lf_non, DL.lf_str, DL.lf_ref, DL.IsC_lst, DL.Ty_int, DL.Ty_tup, DL.Ty_lst, DL.Ty_bl, DL.Ty_str, DL.Ty_non, DL.wipeD, DL.ixQ, DL.tYesF, DL.bAddI, DL.bSub, DL.bMul, DL.bMod, DL.bFdiv, DL.bPow, DL.bMax2, DL.bMin2, DL.cLt, DL.cLe, DL.cGt, DL.cGe, List.set, List.map, List.length, List.length_cons, List.length_nil, List.replicate, List.nil_append, List.cons_append, List.append_nil, Option.isSome_some, Option.getD_some, Option.isSome_none, Bool.not_true, Bool.not_false, and_true, true_and, and_self, implies_true, Nat.zero_add, List.length_set, List.length_replicate]
    refine ⟨by decide, by decide, a, 2, dd, rfl, g1, g2, by decide, by decide, fun rk dk k0 k1 hk => ?_⟩
    have hkind : atI [D.str (Str.ofString "clip"), D.str (Str.ofString "live")] rk = some (.str (kindS (decide (rk = 1)))) := by
      have : rk = 0 ∨ rk = 1 := by omega
      rcases this with rfl | rfl <;> rfl
    simp only [DL.sSetZ, DL.sRetZ, DL.sPar1, DL.sSeq, DL.sIf, DL.sSet, DL.sSetM, DL.sSetMN, DL.sAppN, DL.sSetMT, DL.sSetMS, DL.wLc, DL.wYes, DL.wPop, DL.wSl, DL.w1, DL.w1r, DL.lcW, DL.sFor, DL.sNext, DL.sRet, DL.sRetF, DL.sRetN, DL.sDrop, DL.sApp, DL.sAppR, DL.sSetIx, DL.sPar, DL.sParM, DL.sAsg, DL.wP, DL.wT, DL.wA, DL.wCall, DL.wCallP, DL.wACons, DL.wANil, DL.w2, DL.w2c, DL.w2t, DL.wIf, DL.wTup, DL.wLst, DL.wR1, DL.wAnd, DL.wOr, DL.wNot, DL.wTV, DL.pVar, DL.pInt, DL.pBl, DL.pStr, DL.pNon, DL.pDr, DL.pLf, DL.p1, DL.p2, DL.bI, DL.pc2, DL.tc2, DL.cI, DL.pAnd, DL.pOr, DL.pNot, DL.pIf, DL.pIsi, DL.pIsi2, DL.pChain, DL.tOf, DL.tNot1, DL.tAnd2, DL.tOr2, DL.tChn, DL.tIsN, DL.tNotN, DL.pIsN, DL.pNotN, DL.pNeg, DL.pSl, DL.pSlF, DL.pSlU, DL.pRev, DL.sfN, DL.sfS, DL.iU, DL.iL, DL.iR1, DL.iR2, DL.aCons, DL.aNil, DL.pLst, DL.pTup, DL.pLc, DL.pLcF, DL.pCall, DL.lV, DL.lIx, DL.lk, DL.startD, DL.ro, DL.gN, DL.gT, DL.gTL, DL.gC_cons, DL.gNl, DL.iS, DL.iE, DL.sAppC, DL.IsI_int, DL.toI_int, DL.IsB_bl, DL.toB_bl, DL.IsS_str, DL.toS_str, DL.IsL_lst, DL.IsU_tup, DL.IsQ_lst, DL.IsQ_tup, DL.toL_lst, DL.toL_tup, DL.drf_int, DL.drf_bl, DL.drf_str, DL.drf_non, DL.drf_lst, DL.drf_tup, DL.drf_obj, DL.drf_upd, DL.lenD_lst, DL.lenD_tup, DL.intD_int, DL.intD_bl, DL.rA_ref, DL.lf_int, DL.lf_bl, DL.lf_non, DL.lf_str, DL.lf_ref, DL.IsC_lst, DL.Ty_int, DL.Ty_tup, DL.Ty_lst, DL.Ty_bl, DL.Ty_str, DL.Ty_non, DL.wipeD, DL.ixQ, DL.tYesF, DL.bAddI, DL.bSub, DL.bMul, DL.bMod, DL.bFdiv, DL.bPow, DL.bMax2, DL.bMin2, DL.cLt, DL.cLe, DL.cGt, DL.cGe, List.set, List.map, List.length, List.length_cons, List.length_nil, List.replicate, List.nil_append, List.cons_append, List.append_nil, Option.isSome_some, Option.getD_some, Option.isSome_none, Bool.not_true, Bool.not_false, and_true, true_and, and_self, implies_true, Nat.zero_add, List.length_set, List.length_replicate, hkind]
    refine ⟨by decide, a, 3, dk, rfl, updN_same, hk, by decide, by decide, fun rl dl l0 l1 hdl => ?_⟩
    have hmany : ∃ many : Int, atI [D.int 6, D.int 40, D.int 120] rl = some (.int many) ∧ 0 < many ∧ many ≤ 120 := by
      have : rl = 0 ∨ rl = 1 ∨ rl = 2 := by omega
      rcases this with rfl | rfl | rfl
      · exact ⟨6, rfl, by decide, by decide⟩
      · exact ⟨40, rfl, by decide, by decide⟩
      · exact ⟨120, rfl, by decide, by decide⟩
    obtain ⟨many, em, hm1, hm2⟩ := hmany
    simp only [DL.sSetZ, DL.sRetZ, DL.sPar1, DL.sSeq, DL.sIf, DL.sSet, DL.sSetM, DL.sSetMN, DL.sAppN, DL.sSetMT, DL.sSetMS, DL.wLc, DL.wYes, DL.wPop, DL.wSl, DL.w1, DL.w1r, DL.lcW, DL.sFor, DL.sNext, DL.sRet, DL.sRetF, DL.sRetN, DL.sDrop, DL.sApp, DL.sAppR, DL.sSetIx, DL.sPar, DL.sParM, DL.sAsg, DL.wP, DL.wT, DL.wA, DL.wCall, DL.wCallP, DL.wACons, DL.wANil, DL.w2, DL.w2c, DL.w2t, DL.wIf, DL.wTup, DL.wLst, DL.wR1, DL.wAnd, DL.wOr, DL.wNot, DL.wTV, DL.pVar, DL.pInt, DL.pBl, DL.pStr, DL.pNon, DL.pDr, DL.pLf, DL.p1, DL.p2, DL.bI, DL.pc2, DL.tc2, DL.cI, DL.pAnd, DL.pOr, DL.pNot, DL.pIf, DL.pIsi, DL.pIsi2, DL.pChain, DL.tOf, DL.tNot1, DL.tAnd2, DL.tOr2, DL.tChn, DL.tIsN, DL.tNotN, DL.pIsN, DL.pNotN, DL.pNeg, DL.pSl, DL.pSlF, DL.pSlU, DL.pRev, DL.sfN, DL.sfS, DL.iU, DL.iL, DL.iR1, DL.iR2, DL.aCons, DL.aNil, DL.pLst, DL.pTup, DL.pLc, DL.pLcF, DL.pCall, DL.lV, DL.lIx, DL.lk, DL.startD, DL.ro, DL.gN, DL.gT, DL.gTL, DL.gC_cons, DL.gNl, DL.iS, DL.iE, DL.sAppC, DL.IsI_int, DL.toI_int, DL.IsB_bl, DL.toB_bl, DL.IsS_str, DL.toS_str, DL.IsL_lst, DL.IsU_tup, DL.IsQ_lst, DL.IsQ_tup, DL.toL_lst, DL.toL_tup, DL.drf_int, DL.drf_bl, DL.drf_str, DL.drf_non, DL.drf_lst, DL.drf_tup, DL.drf_obj, DL.drf_upd, DL.lenD_lst, DL.lenD_tup, DL.intD_int, DL.intD_bl, DL.rA_ref, DL.lf_int, DL.lf_bl, DL.lf_non, DL.lf_str, DL.lf_ref, DL.IsC_lst, DL.Ty_int, DL.Ty_tup, DL.Ty_lst, DL.Ty_bl, DL.Ty_str, DL.Ty_non, DL.wipeD, DL.ixQ, DL.tYesF, DL.bAddI, DL.bSub, DL.bMul, DL.bMod, DL.bFdiv, DL.bPow, DL.bMax2, DL.bMin2, DL.cLt, DL.cLe, DL.cGt, DL.cGe, List.set, List.map, List.length, List.length_cons, List.length_nil, List.replicate, List.nil_append, List.cons_append, List.append_nil, Option.isSome_some, Option.getD_some, Option.isSome_none, Bool.not_true, Bool.not_false, and_true, true_and, and_self, implies_true, Nat.zero_add, List.length_set, List.length_replicate, em, updN_twice]
    refine ⟨a, many, dl, rfl, updN_same, hdl, hm1, by omega, fun rn dn n0 n1 hdn => ?_⟩
    have q6 : updN N a ⟨true, dn⟩ a6 = some ⟨true, dI ms⟩ := by rw [updN_ne e6a]; exact g4
    simp only [DL.sSetZ, DL.sRetZ, DL.sPar1, DL.sSeq, DL.sIf, DL.sSet, DL.sSetM, DL.sSetMN, DL.sAppN, DL.sSetMT, DL.sSetMS, DL.wLc, DL.wYes, DL.wPop, DL.wSl, DL.w1, DL.w1r, DL.lcW, DL.sFor, DL.sNext, DL.sRet, DL.sRetF, DL.sRetN, DL.sDrop, DL.sApp, DL.sAppR, DL.sSetIx, DL.sPar, DL.sParM, DL.sAsg, DL.wP, DL.wT, DL.wA, DL.wCall, DL.wCallP, DL.wACons, DL.wANil, DL.w2, DL.w2c, DL.w2t, DL.wIf, DL.wTup, DL.wLst, DL.wR1, DL.wAnd, DL.wOr, DL.wNot, DL.wTV, DL.pVar, DL.pInt, DL.pBl, DL.pStr, DL.pNon, DL.pDr, DL.pLf, DL.p1, DL.p2, DL.bI, DL.pc2, DL.tc2, DL.cI, DL.pAnd, DL.pOr, DL.pNot, DL.pIf, DL.pIsi, DL.pIsi2, DL.pChain, DL.tOf, DL.tNot1, DL.tAnd2, DL.tOr2, DL.tChn, DL.tIsN, DL.tNotN, DL.pIsN, DL.pNotN, DL.pNeg, DL.pSl, DL.pSlF, DL.pSlU, DL.pRev, DL.sfN, DL.sfS, DL.iU, DL.iL, DL.iR1, DL.iR2, DL.aCons, DL.aNil, DL.pLst, DL.pTup, DL.pLc, DL.pLcF, DL.pCall, DL.lV, DL.lIx, DL.lk, DL.startD, DL.ro, DL.gN, DL.gT, DL.gTL, DL.gC_cons, DL.gNl, DL.iS, DL.iE, DL.sAppC, DL.IsI_int, DL.toI_int, DL.IsB_bl, DL.toB_bl, DL.IsS_str, DL.toS_str, DL.IsL_lst, DL.IsU_tup, DL.IsQ_lst, DL.IsQ_tup, DL.toL_lst, DL.toL_tup, DL.drf_int, DL.drf_bl, DL.drf_str, DL.drf_non, DL.drf_lst, DL.drf_tup, DL.drf_obj, DL.drf_upd, DL.lenD_lst, DL.lenD_tup, DL.intD_int, DL.intD_bl, DL.rA_ref, DL.lf_int, DL.lf_bl, DL.lf_non, DL.lf_str, DL.lf_ref, DL.IsC_lst, DL.Ty_int, DL.Ty_tup, DL.Ty_lst, DL.Ty_bl, DL.Ty_str, DL.Ty_non, DL.wipeD, DL.ixQ, DL.tYesF, DL.bAddI, DL.bSub, DL.bMul, DL.bMod, DL.bFdiv, DL.bPow, DL.bMax2, DL.bMin2, DL.cLt, DL.cLe, DL.cGt, DL.cGe, List.set, List.map, List.length, List.length_cons, List.length_nil, List.replicate, List.nil_append, List.cons_append, List.append_nil, Option.isSome_some, Option.getD_some, Option.isSome_none, Bool.not_true, Bool.not_false, and_true, true_and, and_self, implies_true, Nat.zero_add, List.length_set, List.length_replicate, updN_twice, drf_ref q6, ne_nilI]
    have q4 : updN N a ⟨true, dn⟩ a4 = some ⟨true, dI Lf⟩ := by rw [updN_ne (fun z => n4 z.symm)]; exact g3
    have q7 : updN N a ⟨true, dn⟩ a7 = some ⟨true, dR rs⟩ := by rw [updN_ne e7a]; exact g5
    have qa : updN N a ⟨true, dn⟩ a = some ⟨true, dn⟩ := updN_same
    have qz : ∀ z, z ≠ a → z ≠ a4 → z ≠ a6 → z ≠ a7 → updN N a ⟨true, dn⟩ z = N1 z := fun z z1 z2 z3 z4 => by rw [updN_ne z1]; exact g16 z z1 z2 z3 z4
    generalize updN N a ⟨true, dn⟩ = N2 at *
    have tail : ∀ (N3 : Nm) (d3 : D) (ms3 : List Int) (mo : Option Int), N3 a = some ⟨true, d3⟩ → HSt d3 → N3 a4 = some ⟨true, dI Lf⟩ → N3 a6 = some ⟨true, dI ms3⟩ → N3 a7 = some ⟨true, dR rs⟩ → (∀ z, z ≠ a → z ≠ a4 → z ≠ a6 → z ≠ a7 → N3 z = N1 z) →
        ms3.Pairwise (· < ·) → (∀ x ∈ ms3, b ≤ x ∧ x < e) → (∀ m ∈ mo, (b ≤ m ∧ m < e) ∧ (∀ y ∈ ms3, m < y) ∧ ∀ m' ∈ rs.filterMap Row.mo, m' < m) → (∀ m ∈ rs.filterMap Row.mo, ∀ y ∈ ms3, m < y) →
        (∃ c, N3 a7 = some c ∧ DL.IsL c.d) ∧ (∃ c, N3 a4 = some c ∧ DL.IsL c.d) ∧ (lenD (drf N3 (D.ref a4))).ok ∧ sp_law_next [D.ref a, (lenD (drf N3 (D.ref a4))).val] N3 (fun d N1 => IsI d ∧ -2 ^ 63 ≤ toI d ∧ toI d < 2 ^ 63 ∧ ∃ xs n y, N1 a4 = some ⟨true, .lst xs⟩ ∧
          ixN xs.length (toI d) = some n ∧ xs[n]? = some y ∧ lf y ∧ 1 + 1 + 1 + 1 ≤ SZ ∧ lf (.tup [y, .str (kindS (decide (rk = 1))), .int (1 + rn), moD mo]) ∧ ∃ xs_1, updN N1 a4 ⟨true, .lst (xs.eraseIdx n)⟩ a7 = some ⟨true, .lst xs_1⟩ ∧ xs_1.length < SZ ∧
          L [some (.ref a), some (.int b), some (.int e), some (.int most), some (.ref a4), some (.int often), some (.ref a6), some (.ref a7), some (.int (0 + i)), some (.str (kindS (decide (rk = 1)))), some (.int (1 + rn)), some (moD mo)]
            (updN (updN N1 a4 ⟨true, .lst (xs.eraseIdx n)⟩) a7 ⟨true, .lst (xs_1 ++ [.tup [y, .str (kindS (decide (rk = 1))), .int (1 + rn), moD mo]])⟩)) E' := by
      intro N3 d3 ms3 mo w1 w2 w3 w4 w5 w6 w7 w8 w9 w10
      refine ⟨⟨_, w5, trivial⟩, ⟨_, w3, trivial⟩, by rw [drf_ref w3]; trivial, ?_⟩
      rw [drf_ref w3]
      refine ⟨a, _, d3, rfl, w1, w2, by rw [List.length_map]; omega, by rw [List.length_map]; omega, fun rp dp p0 p1 hdp => ?_⟩
      rw [List.length_map] at p1
      have hpn : rp.toNat < Lf.length := by omega
      refine ⟨trivial, by rw [toI_int]; omega, by rw [toI_int]; omega, Lf.map D.int, rp.toNat, .int Lf[rp.toNat], by rw [updN_ne (fun z => n4 z.symm)]; exact w3, by rw [toI_int, List.length_map]; exact ixN_nn p0 p1, by rw [List.getElem?_map, List.getElem?_eq_getElem hpn]; rfl, by rw [lf_int]; trivial, by decide, ?_, rs.map rowD, ?_, ?_, hL _ _ ?_⟩
      · have := lf_row (r := ⟨Lf[rp.toNat], decide (rk = 1), 1 + rn, mo⟩); exact this
      · rw [updN_ne e74, updN_ne e7a]; exact w5
      · rw [List.length_map]; show _ < 16000000; omega
      · have hid := g9 Lf[rp.toNat] (List.getElem_mem hpn)
        have hnot : Lf[rp.toNat] ∉ Lf.eraseIdx rp.toNat := fun z => by
          obtain ⟨j, hj, hjn, ej⟩ := List.mem_eraseIdx_iff_getElem.mp z
          rcases Nat.lt_or_gt_of_ne hjn with h | h
          · exact (List.pairwise_iff_getElem.mp g8) j rp.toNat hj hpn h ej
          · exact (List.pairwise_iff_getElem.mp g8) rp.toNat j hpn hj h ej.symm
        have hsub : ∀ l ∈ Lf.eraseIdx rp.toNat, l ∈ Lf := fun l hl => List.mem_of_mem_eraseIdx hl
        refine ⟨Lf.eraseIdx rp.toNat, ms3, rs ++ [⟨Lf[rp.toNat], decide (rk = 1), 1 + rn, mo⟩], _, _, _, _, dp, rfl, ?_, hdp, ?_, ?_, ?_, by simp; omega, by rw [List.length_eraseIdx_of_lt hpn]; omega, List.Pairwise.sublist (List.eraseIdx_sublist _ _) g8, fun l hl => g9 l (hsub l hl), w7, w8, ?_, ?_, ?_, ?_, ?_⟩
        · rw [updN_ne (fun z => e7a z.symm), updN_ne n4, updN_same]
        · rw [updN_ne (fun z => e74 z.symm), updN_same]; rw [erase_map]
        · rw [updN_ne (fun z => e76 z.symm), updN_ne e64, updN_ne e6a]; exact w4
        · rw [updN_same]; simp only [dR, List.map_append]; rfl
        · intro r hr
          rcases List.mem_append.mp hr with hr | hr
          · exact ⟨(g12 r hr).1, fun z => (g12 r hr).2 (hsub _ z)⟩
          · simp at hr; subst hr
            exact ⟨⟨hid, by show 1 ≤ 1 + rn ∧ 1 + rn ≤ 120; omega⟩, hnot⟩
        · rw [List.map_append]
          refine List.nodup_append.mpr ⟨g13, by simp, fun x hx y hy => ?_⟩
          simp at hy; subst hy
          obtain ⟨r, hr, rfl⟩ := List.mem_map.mp hx
          exact fun z => (g12 r hr).2 (by rw [z]; exact List.getElem_mem hpn)
        · intro m hm
          rw [List.filterMap_append] at hm
          rcases List.mem_append.mp hm with hm | hm
          · exact ⟨(g14 m hm).1, w10 m hm⟩
          · have hm : m ∈ mo := by simpa using hm
            exact ⟨(w9 m hm).1, (w9 m hm).2.1⟩
        · rw [List.filterMap_append]
          refine List.pairwise_append.mpr ⟨g15, by cases mo <;> simp, fun x hx y hy => ?_⟩
          have hy : y ∈ mo := by simpa using hy
          exact (w9 y hy).2.2 x hx
        · intro z z1 z2 z3 z4
          rw [updN_ne z4, updN_ne z2, updN_ne z1]; exact w6 z z1 z2 z3 z4
    refine ⟨by decide, ?_⟩
    by_cases hms : ms = []
    · refine (if_neg (by simp [hms])).mpr ?_
      exact tail N2 dn ms none qa hdn q4 q6 q7 qz g10 g11 (by simp) (fun m hm => (g14 m hm).2)
    · refine (if_pos (by simp [hms])).mpr ?_
      refine ⟨a, 4, dn, rfl, qa, hdn, by decide, by decide, fun rt dt t0 t1 hdt => ?_⟩
      refine ⟨trivial, ?_⟩
      have u4 : updN N2 a ⟨true, dt⟩ a4 = some ⟨true, dI Lf⟩ := by rw [updN_ne (fun z => n4 z.symm)]; exact q4
      have u6 : updN N2 a ⟨true, dt⟩ a6 = some ⟨true, dI ms⟩ := by rw [updN_ne e6a]; exact q6
      have u7 : updN N2 a ⟨true, dt⟩ a7 = some ⟨true, dR rs⟩ := by rw [updN_ne e7a]; exact q7
      have ua : updN N2 a ⟨true, dt⟩ a = some ⟨true, dt⟩ := updN_same
      have uz : ∀ z, z ≠ a → z ≠ a4 → z ≠ a6 → z ≠ a7 → updN N2 a ⟨true, dt⟩ z = N1 z := fun z z1 z2 z3 z4 => by rw [updN_ne z1]; exact qz z z1 z2 z3 z4
      generalize updN N2 a ⟨true, dt⟩ = N3 at *
      by_cases hof : rt < often
      · refine (if_pos (decide_eq_true hof)).mpr ?_
        obtain ⟨m, ms', rfl⟩ : ∃ m ms', ms = m :: ms' := by
          cases ms with
          | nil => exact absurd rfl hms
          | cons m ms' => exact ⟨m, ms', rfl⟩
        obtain ⟨p1, p2⟩ := List.pairwise_cons.mp g10
        refine ⟨⟨_, u6, trivial⟩, by decide, by decide, (m :: ms').map D.int, 0, .int m, u6, ixN_nn (by decide) (by simp), rfl, by rw [lf_int]; trivial, ?_⟩
        exact tail _ dt ms' (some m) (by rw [updN_ne (fun z => e6a z.symm)]; exact ua) hdt (by rw [updN_ne (fun z => e64 z.symm)]; exact u4) updN_same (by rw [updN_ne e76]; exact u7) (fun z z1 z2 z3 z4 => by rw [updN_ne z3]; exact uz z z1 z2 z3 z4) p2 (fun x hx => g11 x (by simp [hx]))
          (fun m' hm' => by
            have : m' = m := by simpa using hm'.symm
            subst this
            exact ⟨g11 m' (by simp), p1, fun m2 hm2 => (g14 m2 hm2).2 m' (by simp)⟩) (fun m2 hm2 y hy => (g14 m2 hm2).2 y (by simp [hy]))
      · refine (if_neg (fun z => hof (of_decide_eq_true z))).mpr ?_
        exact tail N3 dt ms none ua hdt u4 u6 u7 uz g10 g11 (by simp) (fun m hm => (g14 m hm).2)
end K13
set_option maxHeartbeats 4000000
namespace K13
open PySem L2 DL TL
theorem eqD_self {x : D} (h : okD 8 x) : eqD x x = true := SeqAt.eqv_refl _ (okD.lay 8 x h).1
theorem ne_self {x : D} (h : okD 8 x) : neT 8 x x = ⟨True, false⟩ := by
  unfold neT
  rw [eqD_self h]
  simp [h]
theorem okD_dI {n : Nat} {xs : List Int} : okD (n + 1) (dI xs) := fun d hd => by obtain ⟨i, _, rfl⟩ := List.mem_map.mp hd; cases n <;> trivial
theorem toR_row (r : Row) : toR (rowD r) = r := by
  obtain ⟨i, b, l, m⟩ := r
  cases m <;> cases b <;> simp [rowD, toR, kindS, moD] <;> decide +kernel
theorem toRs_dR (rs : List Row) : toRs (dR rs) = rs := by
  unfold toRs
  rw [toL_lst, List.map_map]
  exact (List.map_congr_left fun r _ => toR_row r).trans (List.map_id rs)
theorem num_facts : ∀ n : Fin 1000, (∀ c ∈ numL n.val, c ∈ [48, 49, 50, 51, 52, 53, 54, 55, 56, 57]) ∧ ((numL n.val).head? = some 48 → numL n.val = [48]) := by decide +kernel
theorem lenD_str {s : Str} : lenD (.str s) = ⟨s.length ≤ SZ, .int s.length⟩ := rfl
theorem sin_sign {n : Nat} : sinT true (.str ⟨#[n]⟩) (.str "0123456789") = ⟨True, !decide (n ∈ [48, 49, 50, 51, 52, 53, 54, 55, 56, 57])⟩ := by
  have e : sgn (.str ⟨#[n]⟩) = n := rfl
  have e2 : (toS (.str "0123456789")).cps.toList = [48, 49, 50, 51, 52, 53, 54, 55, 56, 57] := rfl
  unfold sinT
  rw [e, e2]
  congr 1
  exact eq_true ⟨rfl, trivial⟩
theorem num_ok1 {i : Int} (h0 : 0 ≤ i) (h1 : i ≤ 999) : PyData.strOk (numS i) = true := by
  rw [strOk_tl, numS_nat h0]
  intro c hc
  have := numL_digits _ c hc
  omega
theorem atI_head {α : Type} {xs : List α} : atI xs 0 = xs.head? := by
  cases xs with
  | nil => simp [atI_nn (show (0 : Int) ≤ 0 by decide)]
  | cons x xs => rw [atI_0]; rfl
theorem r_number_of (ds : List D) (M : Nm) (hl : ds.length = 1) (h : (ph_number_of ds M).ok) : w_number_of { nx := fun _ _ => (ph_number_of ds M).val = .non, rt := fun d M' => RES M' d (ph_number_of ds M).val } (startD n_number_of.length ds) (ro M) := by
  obtain ⟨i, rfl, h0, h1⟩ := h
  obtain ⟨it, iv⟩ := rdI_num h0 h1
  have ev : (ph_number_of [.str (numS i)] M).val = .int i := by
    show D.int (rdI (numS i)) = _
    rw [iv]
  obtain ⟨l1, l2⟩ := numS_len h0 h1
  obtain ⟨f1, f2⟩ := num_facts ⟨i.toNat, by omega⟩
  simp only at f1 f2
  have et := numS_nat h0
  have hok := num_ok1 h0 h1
  rw [ev]
  show w_number_of _ [some (.str (numS i)), none] _
  unfold w_number_of
  have nl : neT 8 (.lst []) (.lst []) = ⟨True, false⟩ := ne_self (by intro d hd; cases hd)
  have d1 : decide ((1 : Int) ≤ ((numS i).length : Int)) = true := decide_eq_true (by omega)
  have d2 : decide (((numS i).length : Int) ≤ 3) = true := decide_eq_true (by omega)
  have elc : lcRes (gN 1) (tc2 (sinT true) (pDr (pVar 1)) (pStr "0123456789")) (pVar 1) [some (.str (numS i)), none] (ro M) (signs (numS i)) = [] := by
    unfold signs
    rw [lcRes_map (fun n => D.str ⟨#[n]⟩) (fun _ => false) (fun _ => .non) fun n hn => ?c1]
    case c1 =>
      have hn : n ∈ tl (numS i) := hn
      rw [et] at hn
      simp only [DL.sSetZ, DL.sRetZ, DL.sPar1, DL.sSeq, DL.sIf, DL.sSet, DL.sSetM, DL.sSetMN, DL.sAppN, DL.sSetMT, DL.sSetMS, DL.wLc, DL.wYes, DL.wPop, DL.wSl, DL.w1, DL.w1r, DL.lcW, DL.sFor, DL.sNext, DL.sRet, DL.sRetF, DL.sRetN, DL.sDrop, DL.sApp, DL.sAppR, DL.sSetIx, DL.sPar, DL.sParM, DL.sAsg, DL.wP, DL.wT, DL.wA, DL.wCall, DL.wCallP, DL.wACons, DL.wANil, DL.w2, DL.w2c, DL.w2t, DL.wIf, DL.wTup, DL.wLst, DL.wR1, DL.wAnd, DL.wOr, DL.wNot, DL.wTV, DL.pVar, DL.pInt, DL.pBl, DL.pStr, DL.pNon, DL.pDr, DL.pLf, DL.p1, DL.p2, DL.bI, DL.pc2, DL.tc2, DL.cI, DL.pAnd, DL.pOr, DL.pNot, DL.pIf, DL.pIsi, DL.pIsi2, DL.pChain, DL.tOf, DL.tNot1, DL.tAnd2, DL.tOr2, DL.tChn, DL.tIsN, DL.tNotN, DL.pIsN, DL.pNotN, DL.pNeg, DL.pSl, DL.pSlF, DL.pSlU, DL.pRev, DL.sfN, DL.sfS, DL.iU, DL.iL, DL.iR1, DL.iR2, DL.aCons, DL.aNil, DL.pLst, DL.pTup, DL.pLc, DL.pLcF, DL.pCall, DL.lV, DL.lIx, DL.lk, DL.startD, DL.ro, DL.gN, DL.gT, DL.gTL, DL.gC_cons, DL.gNl, DL.iS, DL.iE, DL.sAppC, DL.IsI_int, DL.toI_int, DL.IsB_bl, DL.toB_bl, DL.IsS_str, DL.toS_str, DL.IsL_lst, DL.IsU_tup, DL.IsQ_lst, DL.IsQ_tup, DL.toL_lst, DL.toL_tup, DL.drf_int, DL.drf_bl, DL.drf_str, DL.drf_non, DL.drf_lst, DL.drf_tup, DL.drf_obj, DL.drf_upd, DL.lenD_lst, DL.lenD_tup, DL.intD_int, DL.intD_bl, DL.rA_ref, DL.lf_int, DL.lf_bl, DL.lf_non, DL.lf_str, DL.lf_ref, DL.IsC_lst, DL.Ty_int, DL.Ty_tup, DL.Ty_lst, DL.Ty_bl, DL.Ty_str, DL.Ty_non, DL.wipeD, DL.ixQ, DL.tYesF, DL.bAddI, DL.bSub, DL.bMul, DL.bMod, DL.bFdiv, DL.bPow, DL.bMax2, DL.bMin2, DL.cLt, DL.cLe, DL.cGt, DL.cGe, List.set, List.map, List.length, List.length_cons, List.length_nil, List.replicate, List.nil_append, List.cons_append, List.append_nil, Option.isSome_some, Option.getD_some, Option.isSome_none, Bool.not_true, Bool.not_false, and_true, true_and, and_self, implies_true, Nat.zero_add, List.length_set, List.length_replicate, sin_sign, decide_eq_true (f1 n hn)]
      exact fun z => by cases z
    simp
  refine st_ifF (by
    simp only [DL.sSetZ, DL.sRetZ, DL.sPar1, DL.sSeq, DL.sIf, DL.sSet, DL.sSetM, DL.sSetMN, DL.sAppN, DL.sSetMT, DL.sSetMS, DL.wLc, DL.wYes, DL.wPop, DL.wSl, DL.w1, DL.w1r, DL.lcW, DL.sFor, DL.sNext, DL.sRet, DL.sRetF, DL.sRetN, DL.sDrop, DL.sApp, DL.sAppR, DL.sSetIx, DL.sPar, DL.sParM, DL.sAsg, DL.wP, DL.wT, DL.wA, DL.wCall, DL.wCallP, DL.wACons, DL.wANil, DL.w2, DL.w2c, DL.w2t, DL.wIf, DL.wTup, DL.wLst, DL.wR1, DL.wAnd, DL.wOr, DL.wNot, DL.wTV, DL.pVar, DL.pInt, DL.pBl, DL.pStr, DL.pNon, DL.pDr, DL.pLf, DL.p1, DL.p2, DL.bI, DL.pc2, DL.tc2, DL.cI, DL.pAnd, DL.pOr, DL.pNot, DL.pIf, DL.pIsi, DL.pIsi2, DL.pChain, DL.tOf, DL.tNot1, DL.tAnd2, DL.tOr2, DL.tChn, DL.tIsN, DL.tNotN, DL.pIsN, DL.pNotN, DL.pNeg, DL.pSl, DL.pSlF, DL.pSlU, DL.pRev, DL.sfN, DL.sfS, DL.iU, DL.iL, DL.iR1, DL.iR2, DL.aCons, DL.aNil, DL.pLst, DL.pTup, DL.pLc, DL.pLcF, DL.pCall, DL.lV, DL.lIx, DL.lk, DL.startD, DL.ro, DL.gN, DL.gT, DL.gTL, DL.gC_cons, DL.gNl, DL.iS, DL.iE, DL.sAppC, DL.IsI_int, DL.toI_int, DL.IsB_bl, DL.toB_bl, DL.IsS_str, DL.toS_str, DL.IsL_lst, DL.IsU_tup, DL.IsQ_lst, DL.IsQ_tup, DL.toL_lst, DL.toL_tup, DL.drf_int, DL.drf_bl, DL.drf_str, DL.drf_non, DL.drf_lst, DL.drf_tup, DL.drf_obj, DL.drf_upd, DL.lenD_lst, DL.lenD_tup, DL.intD_int, DL.intD_bl, DL.rA_ref, DL.lf_int, DL.lf_bl, DL.lf_non, DL.lf_str, DL.lf_ref, DL.IsC_lst, DL.Ty_int, DL.Ty_tup, DL.Ty_lst, DL.Ty_bl, DL.Ty_str, DL.Ty_non, DL.wipeD, DL.ixQ, DL.tYesF, DL.bAddI, DL.bSub, DL.bMul, DL.bMod, DL.bFdiv, DL.bPow, DL.bMax2, DL.bMin2, DL.cLt, DL.cLe, DL.cGt, DL.cGe, List.set, List.map, List.length, List.length_cons, List.length_nil, List.replicate, List.nil_append, List.cons_append, List.append_nil, Option.isSome_some, Option.getD_some, Option.isSome_none, Bool.not_true, Bool.not_false, and_true, true_and, and_self, implies_true, Nat.zero_add, List.length_set, List.length_replicate, lenD_str, d1, d2, elc, nl]
    refine ⟨⟨by show _ ≤ 16000000; omega, fun _ => ⟨⟨?_, fun d hd => ?_⟩, by decide⟩⟩, by simp⟩
    · unfold signs; rw [List.length_map]; show (numS i).cps.toList.length ≤ 16000000; rw [show (numS i).cps.toList.length = (tl (numS i)).length from rfl, ← len_tl]; omega
    · obtain ⟨n, hn, rfl⟩ := List.mem_map.mp hd
      simp only [DL.sSetZ, DL.sRetZ, DL.sPar1, DL.sSeq, DL.sIf, DL.sSet, DL.sSetM, DL.sSetMN, DL.sAppN, DL.sSetMT, DL.sSetMS, DL.wLc, DL.wYes, DL.wPop, DL.wSl, DL.w1, DL.w1r, DL.lcW, DL.sFor, DL.sNext, DL.sRet, DL.sRetF, DL.sRetN, DL.sDrop, DL.sApp, DL.sAppR, DL.sSetIx, DL.sPar, DL.sParM, DL.sAsg, DL.wP, DL.wT, DL.wA, DL.wCall, DL.wCallP, DL.wACons, DL.wANil, DL.w2, DL.w2c, DL.w2t, DL.wIf, DL.wTup, DL.wLst, DL.wR1, DL.wAnd, DL.wOr, DL.wNot, DL.wTV, DL.pVar, DL.pInt, DL.pBl, DL.pStr, DL.pNon, DL.pDr, DL.pLf, DL.p1, DL.p2, DL.bI, DL.pc2, DL.tc2, DL.cI, DL.pAnd, DL.pOr, DL.pNot, DL.pIf, DL.pIsi, DL.pIsi2, DL.pChain, DL.tOf, DL.tNot1, DL.tAnd2, DL.tOr2, DL.tChn, DL.tIsN, DL.tNotN, DL.pIsN, DL.pNotN, DL.pNeg, DL.pSl, DL.pSlF, DL.pSlU, DL.pRev, DL.sfN, DL.sfS, DL.iU, DL.iL, DL.iR1, DL.iR2, DL.aCons, DL.aNil, DL.pLst, DL.pTup, DL.pLc, DL.pLcF, DL.pCall, DL.lV, DL.lIx, DL.lk, DL.startD, DL.ro, DL.gN, DL.gT, DL.gTL, DL.gC_cons, DL.gNl, DL.iS, DL.iE, DL.sAppC, DL.IsI_int, DL.toI_int, DL.IsB_bl, DL.toB_bl, DL.IsS_str, DL.toS_str, DL.IsL_lst, DL.IsU_tup, DL.IsQ_lst, DL.IsQ_tup, DL.toL_lst, DL.toL_tup, DL.drf_int, DL.drf_bl, DL.drf_str, DL.drf_non, DL.drf_lst, DL.drf_tup, DL.drf_obj, DL.drf_upd, DL.lenD_lst, DL.lenD_tup, DL.intD_int, DL.intD_bl, DL.rA_ref, DL.lf_int, DL.lf_bl, DL.lf_non, DL.lf_str, DL.lf_ref, DL.IsC_lst, DL.Ty_int, DL.Ty_tup, DL.Ty_lst, DL.Ty_bl, DL.Ty_str, DL.Ty_non, DL.wipeD, DL.ixQ, DL.tYesF, DL.bAddI, DL.bSub, DL.bMul, DL.bMod, DL.bFdiv, DL.bPow, DL.bMax2, DL.bMin2, DL.cLt, DL.cLe, DL.cGt, DL.cGe, List.set, List.map, List.length, List.length_cons, List.length_nil, List.replicate, List.nil_append, List.cons_append, List.append_nil, Option.isSome_some, Option.getD_some, Option.isSome_none, Bool.not_true, Bool.not_false, and_true, true_and, and_self, implies_true, Nat.zero_add, List.length_set, List.length_replicate]
      have e := sin_sign (n := n)
      refine ⟨by decide, ?_⟩
      show (sinT true (.str ⟨#[n]⟩) (.str "0123456789")).ok
      rw [e]; trivial) ?_
  obtain ⟨c, hc⟩ : ∃ c, (numS i).cps.toList.head? = some c := by
    show ∃ c, (tl (numS i)).head? = some c
    cases e : tl (numS i) with
    | nil => rw [len_tl, e] at l1; simp at l1
    | cons c r => exact ⟨c, rfl⟩
  have ht : (tAnd2 (tc2 (eqT 8) (p2 ixS (pDr (pVar 0)) (pInt 0)) (pStr "0")) (tc2 (neT 8) (pDr (pVar 0)) (pStr "0")) [some (.str (numS i)), none] (ro M)).ok ∧ (tAnd2 (tc2 (eqT 8) (p2 ixS (pDr (pVar 0)) (pInt 0)) (pStr "0")) (tc2 (neT 8) (pDr (pVar 0)) (pStr "0")) [some (.str (numS i)), none] (ro M)).b = false := by
    simp only [DL.sSetZ, DL.sRetZ, DL.sPar1, DL.sSeq, DL.sIf, DL.sSet, DL.sSetM, DL.sSetMN, DL.sAppN, DL.sSetMT, DL.sSetMS, DL.wLc, DL.wYes, DL.wPop, DL.wSl, DL.w1, DL.w1r, DL.lcW, DL.sFor, DL.sNext, DL.sRet, DL.sRetF, DL.sRetN, DL.sDrop, DL.sApp, DL.sAppR, DL.sSetIx, DL.sPar, DL.sParM, DL.sAsg, DL.wP, DL.wT, DL.wA, DL.wCall, DL.wCallP, DL.wACons, DL.wANil, DL.w2, DL.w2c, DL.w2t, DL.wIf, DL.wTup, DL.wLst, DL.wR1, DL.wAnd, DL.wOr, DL.wNot, DL.wTV, DL.pVar, DL.pInt, DL.pBl, DL.pStr, DL.pNon, DL.pDr, DL.pLf, DL.p1, DL.p2, DL.bI, DL.pc2, DL.tc2, DL.cI, DL.pAnd, DL.pOr, DL.pNot, DL.pIf, DL.pIsi, DL.pIsi2, DL.pChain, DL.tOf, DL.tNot1, DL.tAnd2, DL.tOr2, DL.tChn, DL.tIsN, DL.tNotN, DL.pIsN, DL.pNotN, DL.pNeg, DL.pSl, DL.pSlF, DL.pSlU, DL.pRev, DL.sfN, DL.sfS, DL.iU, DL.iL, DL.iR1, DL.iR2, DL.aCons, DL.aNil, DL.pLst, DL.pTup, DL.pLc, DL.pLcF, DL.pCall, DL.lV, DL.lIx, DL.lk, DL.startD, DL.ro, DL.gN, DL.gT, DL.gTL, DL.gC_cons, DL.gNl, DL.iS, DL.iE, DL.sAppC, DL.IsI_int, DL.toI_int, DL.IsB_bl, DL.toB_bl, DL.IsS_str, DL.toS_str, DL.IsL_lst, DL.IsU_tup, DL.IsQ_lst, DL.IsQ_tup, DL.toL_lst, DL.toL_tup, DL.drf_int, DL.drf_bl, DL.drf_str, DL.drf_non, DL.drf_lst, DL.drf_tup, DL.drf_obj, DL.drf_upd, DL.lenD_lst, DL.lenD_tup, DL.intD_int, DL.intD_bl, DL.rA_ref, DL.lf_int, DL.lf_bl, DL.lf_non, DL.lf_str, DL.lf_ref, DL.IsC_lst, DL.Ty_int, DL.Ty_tup, DL.Ty_lst, DL.Ty_bl, DL.Ty_str, DL.Ty_non, DL.wipeD, DL.ixQ, DL.tYesF, DL.bAddI, DL.bSub, DL.bMul, DL.bMod, DL.bFdiv, DL.bPow, DL.bMax2, DL.bMin2, DL.cLt, DL.cLe, DL.cGt, DL.cGe, List.set, List.map, List.length, List.length_cons, List.length_nil, List.replicate, List.nil_append, List.cons_append, List.append_nil, Option.isSome_some, Option.getD_some, Option.isSome_none, Bool.not_true, Bool.not_false, and_true, true_and, and_self, implies_true, Nat.zero_add, List.length_set, List.length_replicate, ixS, toS_str, atI_head, hc]
    have k1 : PyData.strOk (⟨#[c]⟩ : Str) = true := by
      rw [strOk_tl]
      intro x hx
      have hx : x = c := by simpa [tl] using hx
      subst hx
      have hm : x ∈ tl (numS i) := List.mem_of_mem_head? hc
      rw [et] at hm
      have := f1 x hm
      simp at this; omega
    have k2 : PyData.strOk ("0" : Str) = true := by decide +kernel
    refine ⟨⟨⟨by show _ ≤ 16000000; omega, k1, k2⟩, fun _ => ⟨hok, k2⟩⟩, ?_⟩
    unfold eqT neT
    rw [show D.str (Str.ofString "0") = D.str ("0" : Str) from rfl, eqD_str, eqD_str]
    by_cases c0 : (⟨#[c]⟩ : Str) = "0"
    · have c48 : c = 48 := by
        have h : [c] = [48] := congrArg tl c0
        simpa using h
      subst c48
      have e := f2 (by rw [← et]; exact hc)
      have : numS i = "0" := ext_tl (by rw [et, e]; rfl)
      simp [this]
    · simp [c0]
  unfold sRetF pIf
  rw [ht.2]
  refine ⟨⟨ht.1, ?_⟩, ?_⟩
  · refine (if_neg (by decide)).mpr ?_
    simp only [DL.sSetZ, DL.sRetZ, DL.sPar1, DL.sSeq, DL.sIf, DL.sSet, DL.sSetM, DL.sSetMN, DL.sAppN, DL.sSetMT, DL.sSetMS, DL.wLc, DL.wYes, DL.wPop, DL.wSl, DL.w1, DL.w1r, DL.lcW, DL.sFor, DL.sNext, DL.sRet, DL.sRetF, DL.sRetN, DL.sDrop, DL.sApp, DL.sAppR, DL.sSetIx, DL.sPar, DL.sParM, DL.sAsg, DL.wP, DL.wT, DL.wA, DL.wCall, DL.wCallP, DL.wACons, DL.wANil, DL.w2, DL.w2c, DL.w2t, DL.wIf, DL.wTup, DL.wLst, DL.wR1, DL.wAnd, DL.wOr, DL.wNot, DL.wTV, DL.pVar, DL.pInt, DL.pBl, DL.pStr, DL.pNon, DL.pDr, DL.pLf, DL.p1, DL.p2, DL.bI, DL.pc2, DL.tc2, DL.cI, DL.pAnd, DL.pOr, DL.pNot, DL.pIf, DL.pIsi, DL.pIsi2, DL.pChain, DL.tOf, DL.tNot1, DL.tAnd2, DL.tOr2, DL.tChn, DL.tIsN, DL.tNotN, DL.pIsN, DL.pNotN, DL.pNeg, DL.pSl, DL.pSlF, DL.pSlU, DL.pRev, DL.sfN, DL.sfS, DL.iU, DL.iL, DL.iR1, DL.iR2, DL.aCons, DL.aNil, DL.pLst, DL.pTup, DL.pLc, DL.pLcF, DL.pCall, DL.lV, DL.lIx, DL.lk, DL.startD, DL.ro, DL.gN, DL.gT, DL.gTL, DL.gC_cons, DL.gNl, DL.iS, DL.iE, DL.sAppC, DL.IsI_int, DL.toI_int, DL.IsB_bl, DL.toB_bl, DL.IsS_str, DL.toS_str, DL.IsL_lst, DL.IsU_tup, DL.IsQ_lst, DL.IsQ_tup, DL.toL_lst, DL.toL_tup, DL.drf_int, DL.drf_bl, DL.drf_str, DL.drf_non, DL.drf_lst, DL.drf_tup, DL.drf_obj, DL.drf_upd, DL.lenD_lst, DL.lenD_tup, DL.intD_int, DL.intD_bl, DL.rA_ref, DL.lf_int, DL.lf_bl, DL.lf_non, DL.lf_str, DL.lf_ref, DL.IsC_lst, DL.Ty_int, DL.Ty_tup, DL.Ty_lst, DL.Ty_bl, DL.Ty_str, DL.Ty_non, DL.wipeD, DL.ixQ, DL.tYesF, DL.bAddI, DL.bSub, DL.bMul, DL.bMod, DL.bFdiv, DL.bPow, DL.bMax2, DL.bMin2, DL.cLt, DL.cLe, DL.cGt, DL.cGe, List.set, List.map, List.length, List.length_cons, List.length_nil, List.replicate, List.nil_append, List.cons_append, List.append_nil, Option.isSome_some, Option.getD_some, Option.isSome_none, Bool.not_true, Bool.not_false, and_true, true_and, and_self, implies_true, Nat.zero_add, List.length_set, List.length_replicate, intSD, toS_str, it]
    omega
  · have ev2 : (p1 intSD (pDr (pVar 0)) [some (.str (numS i)), none] (ro M)).val = .int i := by
      simp only [DL.sSetZ, DL.sRetZ, DL.sPar1, DL.sSeq, DL.sIf, DL.sSet, DL.sSetM, DL.sSetMN, DL.sAppN, DL.sSetMT, DL.sSetMS, DL.wLc, DL.wYes, DL.wPop, DL.wSl, DL.w1, DL.w1r, DL.lcW, DL.sFor, DL.sNext, DL.sRet, DL.sRetF, DL.sRetN, DL.sDrop, DL.sApp, DL.sAppR, DL.sSetIx, DL.sPar, DL.sParM, DL.sAsg, DL.wP, DL.wT, DL.wA, DL.wCall, DL.wCallP, DL.wACons, DL.wANil, DL.w2, DL.w2c, DL.w2t, DL.wIf, DL.wTup, DL.wLst, DL.wR1, DL.wAnd, DL.wOr, DL.wNot, DL.wTV, DL.pVar, DL.pInt, DL.pBl, DL.pStr, DL.pNon, DL.pDr, DL.pLf, DL.p1, DL.p2, DL.bI, DL.pc2, DL.tc2, DL.cI, DL.pAnd, DL.pOr, DL.pNot, DL.pIf, DL.pIsi, DL.pIsi2, DL.pChain, DL.tOf, DL.tNot1, DL.tAnd2, DL.tOr2, DL.tChn, DL.tIsN, DL.tNotN, DL.pIsN, DL.pNotN, DL.pNeg, DL.pSl, DL.pSlF, DL.pSlU, DL.pRev, DL.sfN, DL.sfS, DL.iU, DL.iL, DL.iR1, DL.iR2, DL.aCons, DL.aNil, DL.pLst, DL.pTup, DL.pLc, DL.pLcF, DL.pCall, DL.lV, DL.lIx, DL.lk, DL.startD, DL.ro, DL.gN, DL.gT, DL.gTL, DL.gC_cons, DL.gNl, DL.iS, DL.iE, DL.sAppC, DL.IsI_int, DL.toI_int, DL.IsB_bl, DL.toB_bl, DL.IsS_str, DL.toS_str, DL.IsL_lst, DL.IsU_tup, DL.IsQ_lst, DL.IsQ_tup, DL.toL_lst, DL.toL_tup, DL.drf_int, DL.drf_bl, DL.drf_str, DL.drf_non, DL.drf_lst, DL.drf_tup, DL.drf_obj, DL.drf_upd, DL.lenD_lst, DL.lenD_tup, DL.intD_int, DL.intD_bl, DL.rA_ref, DL.lf_int, DL.lf_bl, DL.lf_non, DL.lf_str, DL.lf_ref, DL.IsC_lst, DL.Ty_int, DL.Ty_tup, DL.Ty_lst, DL.Ty_bl, DL.Ty_str, DL.Ty_non, DL.wipeD, DL.ixQ, DL.tYesF, DL.bAddI, DL.bSub, DL.bMul, DL.bMod, DL.bFdiv, DL.bPow, DL.bMax2, DL.bMin2, DL.cLt, DL.cLe, DL.cGt, DL.cGe, List.set, List.map, List.length, List.length_cons, List.length_nil, List.replicate, List.nil_append, List.cons_append, List.append_nil, Option.isSome_some, Option.getD_some, Option.isSome_none, Bool.not_true, Bool.not_false, and_true, true_and, and_self, implies_true, Nat.zero_add, List.length_set, List.length_replicate, intSD, toS_str, it]
    show RES _ _ _
    rw [if_neg (by decide), ev2]
    exact RES_int.mpr rfl
end K13
set_option maxHeartbeats 4000000
namespace K13
open PySem L2 DL TL
theorem lc_all {α : Type} {G : GF} {ft : TF} {fe : PF} {δ0 : DL.Loc} {N : Nm} (k : α → D) (g : α → D) {xs : List α} (h : ∀ x ∈ xs, (ft (G (k x) δ0).loc N).b = true ∧ (fe (G (k x) δ0).loc N).val = g x) : lcRes G ft fe δ0 N (xs.map k) = xs.map g :=
  (lcRes_map k (fun _ => true) g fun x hx => ⟨(h x hx).1, fun _ => (h x hx).2⟩).trans (by rw [List.filter_eq_self.mpr fun _ _ => rfl])
theorem catL_lst {a b : List D} : catL (.lst a) (.lst b) = ⟨a.length + b.length ≤ SZ, .lst (a ++ b)⟩ := by
  unfold catL
  simp only [IsL_lst, toL_lst, true_and]
theorem RES_row {N : Nm} {r : Row} {d : D} : RES N (rowD r) d ↔ d = rowD r := by
  cases hm : r.mo <;> simp [RES, rowD, moD, hm, refsW, refsWs, res, ress] <;> exact ⟨fun h => h.symm, fun h => h.symm⟩
theorem numV {i : Int} {M : Nm} (h0 : 0 ≤ i) (h1 : i ≤ 999) : (ph_number_of [.str (numS i)] M).ok ∧ (ph_number_of [.str (numS i)] M).val = .int i := by
  refine ⟨⟨i, rfl, h0, h1⟩, ?_⟩
  show D.int (rdI (numS i)) = _
  rw [(rdI_num h0 h1).2]
theorem in34 {n : Int} (h : n = 3 ∨ n = 4) : inT true (.int n) (.tup [.int 3, .int 4]) = ⟨True, false⟩ := by
  unfold inT
  congr 1
  · simp [flat, IsQ_tup, toL_tup]
  · rcases h with rfl | rfl <;> simp [inB, toL_tup, eqD_int]
theorem none_in {xs : List Int} : inT false .non (.lst (xs.map D.int)) = ⟨True, false⟩ := by
  unfold inT
  congr 1
  · simp [flat, IsQ_lst, toL_lst]
  · rw [toL_lst]; simp [inB, eqD_int_non]
theorem rowV {r : Row} {M : Nm} (h : ROk1 r) (k : ∀ m ∈ r.mo, 0 ≤ m ∧ m ≤ 899) : (ph_row_of [.lst ((wordsOf r).map D.str)] M).ok ∧ (ph_row_of [.lst ((wordsOf r).map D.str)] M).val = rowD r := by
  refine ⟨⟨r, rfl, h, k⟩, ?_⟩
  show rowD (rdW ((toL (.lst ((wordsOf r).map D.str))).map toS)) = _
  rw [toL_lst, List.map_map]
  have e : (wordsOf r).map (toS ∘ D.str) = wordsOf r := (List.map_congr_left fun x _ => rfl).trans (List.map_id _)
  rw [e, rdW_words (h.rf k)]
theorem r_row_of (ds : List D) (M : Nm) (hl : ds.length = 1) (h : (ph_row_of ds M).ok) : w_row_of { nx := fun _ _ => (ph_row_of ds M).val = .non, rt := fun d M' => RES M' d (ph_row_of ds M).val } (startD n_row_of.length ds) (ro M) := by
  obtain ⟨r, rfl, hr, hm⟩ := h
  have hf := hr.rf hm
  rw [(rowV hr hm).2]
  have i1 := hf.id
  have i2 := hf.len
  have n1 := fun M => numV (M := M) i1.1 i1.2
  have n2 := fun M => numV (M := M) i2.1 i2.2
  have isr : ∀ M, (ph_is_row [rowD r] M).ok := fun M => isrow_ok hr fun m h => by have := hm m h; omega
  cases hmo : r.mo with
  | none =>
    have ew : (wordsOf r).map D.str = [.str (numS r.id), .str (kindS r.live), .str (numS r.len)] := by unfold wordsOf; rw [hmo]; rfl
    have er : rowD r = .tup [.int r.id, .str (kindS r.live), .int r.len, .non] := by unfold rowD; rw [hmo]; rfl
    rw [ew]
    show w_row_of _ [some (.lst [.str (numS r.id), .str (kindS r.live), .str (numS r.len)]), none, none, none, none] _
    have ni : inT false .non (.lst [.int r.id, .int r.len]) = ⟨True, false⟩ := none_in (xs := [r.id, r.len])
    have ec : cutD [D.str (numS r.id), D.str (kindS r.live), D.str (numS r.len)] (some 2) none = [.str (numS r.len)] := rfl
    have ep : [D.str (numS r.id)] ++ [.str (numS r.len)] = [r.id, r.len].map fun i => D.str (numS i) := rfl
    have hb : ∀ i ∈ [r.id, r.len], 0 ≤ i ∧ i ≤ 999 := by intro i hi; simp at hi; rcases hi with rfl | rfl <;> omega
    unfold w_row_of
    refine st_ifF (by
      simp only [DL.sSetZ, DL.sRetZ, DL.sPar1, DL.sSeq, DL.sIf, DL.sSet, DL.sSetM, DL.sSetMN, DL.sAppN, DL.sSetMT, DL.sSetMS, DL.wLc, DL.wYes, DL.wPop, DL.wSl, DL.w1, DL.w1r, DL.lcW, DL.sFor, DL.sNext, DL.sRet, DL.sRetF, DL.sRetN, DL.sDrop, DL.sApp, DL.sAppR, DL.sSetIx, DL.sPar, DL.sParM, DL.sAsg, DL.wP, DL.wT, DL.wA, DL.wCall, DL.wCallP, DL.wACons, DL.wANil, DL.w2, DL.w2c, DL.w2t, DL.wIf, DL.wTup, DL.wLst, DL.wR1, DL.wAnd, DL.wOr, DL.wNot, DL.wTV, DL.pVar, DL.pInt, DL.pBl, DL.pStr, DL.pNon, DL.pDr, DL.pLf, DL.p1, DL.p2, DL.bI, DL.pc2, DL.tc2, DL.cI, DL.pAnd, DL.pOr, DL.pNot, DL.pIf, DL.pIsi, DL.pIsi2, DL.pChain, DL.tOf, DL.tNot1, DL.tAnd2, DL.tOr2, DL.tChn, DL.tIsN, DL.tNotN, DL.pIsN, DL.pNotN, DL.pNeg, DL.pSl, DL.pSlF, DL.pSlU, DL.pRev, DL.sfN, DL.sfS, DL.iU, DL.iL, DL.iR1, DL.iR2, DL.aCons, DL.aNil, DL.pLst, DL.pTup, DL.pLc, DL.pLcF, DL.pCall, DL.lV, DL.lIx, DL.lk, DL.startD, DL.ro, DL.gN, DL.gT, DL.gTL, DL.gC_cons, DL.gNl, DL.iS, DL.iE, DL.sAppC, DL.IsI_int, DL.toI_int, DL.IsB_bl, DL.toB_bl, DL.IsS_str, DL.toS_str, DL.IsL_lst, DL.IsU_tup, DL.IsQ_lst, DL.IsQ_tup, DL.toL_lst, DL.toL_tup, DL.drf_int, DL.drf_bl, DL.drf_str, DL.drf_non, DL.drf_lst, DL.drf_tup, DL.drf_obj, DL.drf_upd, DL.lenD_lst, DL.lenD_tup, DL.intD_int, DL.intD_bl, DL.rA_ref, DL.lf_int, DL.lf_bl, DL.lf_non, DL.lf_str, DL.lf_ref, DL.IsC_lst, DL.Ty_int, DL.Ty_tup, DL.Ty_lst, DL.Ty_bl, DL.Ty_str, DL.Ty_non, DL.wipeD, DL.ixQ, DL.tYesF, DL.bAddI, DL.bSub, DL.bMul, DL.bMod, DL.bFdiv, DL.bPow, DL.bMax2, DL.bMin2, DL.cLt, DL.cLe, DL.cGt, DL.cGe, List.set, List.map, List.length, List.length_cons, List.length_nil, List.replicate, List.nil_append, List.cons_append, List.append_nil, Option.isSome_some, Option.getD_some, Option.isSome_none, Bool.not_true, Bool.not_false, and_true, true_and, and_self, implies_true, Nat.zero_add, List.length_set, List.length_replicate, atI_1, in_kind, in34 (n := ((1+1+1 : Nat) : Int)) (by decide)]
      exact ⟨⟨by decide, fun _ => by decide⟩, rfl⟩) ?_
    refine st_set (dI [r.id, r.len]) (by
      simp only [DL.sSetZ, DL.sRetZ, DL.sPar1, DL.sSeq, DL.sIf, DL.sSet, DL.sSetM, DL.sSetMN, DL.sAppN, DL.sSetMT, DL.sSetMS, DL.wLc, DL.wYes, DL.wPop, DL.wSl, DL.w1, DL.w1r, DL.lcW, DL.sFor, DL.sNext, DL.sRet, DL.sRetF, DL.sRetN, DL.sDrop, DL.sApp, DL.sAppR, DL.sSetIx, DL.sPar, DL.sParM, DL.sAsg, DL.wP, DL.wT, DL.wA, DL.wCall, DL.wCallP, DL.wACons, DL.wANil, DL.w2, DL.w2c, DL.w2t, DL.wIf, DL.wTup, DL.wLst, DL.wR1, DL.wAnd, DL.wOr, DL.wNot, DL.wTV, DL.pVar, DL.pInt, DL.pBl, DL.pStr, DL.pNon, DL.pDr, DL.pLf, DL.p1, DL.p2, DL.bI, DL.pc2, DL.tc2, DL.cI, DL.pAnd, DL.pOr, DL.pNot, DL.pIf, DL.pIsi, DL.pIsi2, DL.pChain, DL.tOf, DL.tNot1, DL.tAnd2, DL.tOr2, DL.tChn, DL.tIsN, DL.tNotN, DL.pIsN, DL.pNotN, DL.pNeg, DL.pSl, DL.pSlF, DL.pSlU, DL.pRev, DL.sfN, DL.sfS, DL.iU, DL.iL, DL.iR1, DL.iR2, DL.aCons, DL.aNil, DL.pLst, DL.pTup, DL.pLc, DL.pLcF, DL.pCall, DL.lV, DL.lIx, DL.lk, DL.startD, DL.ro, DL.gN, DL.gT, DL.gTL, DL.gC_cons, DL.gNl, DL.iS, DL.iE, DL.sAppC, DL.IsI_int, DL.toI_int, DL.IsB_bl, DL.toB_bl, DL.IsS_str, DL.toS_str, DL.IsL_lst, DL.IsU_tup, DL.IsQ_lst, DL.IsQ_tup, DL.toL_lst, DL.toL_tup, DL.drf_int, DL.drf_bl, DL.drf_str, DL.drf_non, DL.drf_lst, DL.drf_tup, DL.drf_obj, DL.drf_upd, DL.lenD_lst, DL.lenD_tup, DL.intD_int, DL.intD_bl, DL.rA_ref, DL.lf_int, DL.lf_bl, DL.lf_non, DL.lf_str, DL.lf_ref, DL.IsC_lst, DL.Ty_int, DL.Ty_tup, DL.Ty_lst, DL.Ty_bl, DL.Ty_str, DL.Ty_non, DL.wipeD, DL.ixQ, DL.tYesF, DL.bAddI, DL.bSub, DL.bMul, DL.bMod, DL.bFdiv, DL.bPow, DL.bMax2, DL.bMin2, DL.cLt, DL.cLe, DL.cGt, DL.cGe, List.set, List.map, List.length, List.length_cons, List.length_nil, List.replicate, List.nil_append, List.cons_append, List.append_nil, Option.isSome_some, Option.getD_some, Option.isSome_none, Bool.not_true, Bool.not_false, and_true, true_and, and_self, implies_true, Nat.zero_add, List.length_set, List.length_replicate, atI_0]
      rw [ec, catL_lst, ep]
      simp only [toL_lst, IsL_lst]
      rw [lc_all (fun i => D.str (numS i)) (fun i => .int i) fun i hi => ?c1]
      case c1 => simp only [DL.sSetZ, DL.sRetZ, DL.sPar1, DL.sSeq, DL.sIf, DL.sSet, DL.sSetM, DL.sSetMN, DL.sAppN, DL.sSetMT, DL.sSetMS, DL.wLc, DL.wYes, DL.wPop, DL.wSl, DL.w1, DL.w1r, DL.lcW, DL.sFor, DL.sNext, DL.sRet, DL.sRetF, DL.sRetN, DL.sDrop, DL.sApp, DL.sAppR, DL.sSetIx, DL.sPar, DL.sParM, DL.sAsg, DL.wP, DL.wT, DL.wA, DL.wCall, DL.wCallP, DL.wACons, DL.wANil, DL.w2, DL.w2c, DL.w2t, DL.wIf, DL.wTup, DL.wLst, DL.wR1, DL.wAnd, DL.wOr, DL.wNot, DL.wTV, DL.pVar, DL.pInt, DL.pBl, DL.pStr, DL.pNon, DL.pDr, DL.pLf, DL.p1, DL.p2, DL.bI, DL.pc2, DL.tc2, DL.cI, DL.pAnd, DL.pOr, DL.pNot, DL.pIf, DL.pIsi, DL.pIsi2, DL.pChain, DL.tOf, DL.tNot1, DL.tAnd2, DL.tOr2, DL.tChn, DL.tIsN, DL.tNotN, DL.pIsN, DL.pNotN, DL.pNeg, DL.pSl, DL.pSlF, DL.pSlU, DL.pRev, DL.sfN, DL.sfS, DL.iU, DL.iL, DL.iR1, DL.iR2, DL.aCons, DL.aNil, DL.pLst, DL.pTup, DL.pLc, DL.pLcF, DL.pCall, DL.lV, DL.lIx, DL.lk, DL.startD, DL.ro, DL.gN, DL.gT, DL.gTL, DL.gC_cons, DL.gNl, DL.iS, DL.iE, DL.sAppC, DL.IsI_int, DL.toI_int, DL.IsB_bl, DL.toB_bl, DL.IsS_str, DL.toS_str, DL.IsL_lst, DL.IsU_tup, DL.IsQ_lst, DL.IsQ_tup, DL.toL_lst, DL.toL_tup, DL.drf_int, DL.drf_bl, DL.drf_str, DL.drf_non, DL.drf_lst, DL.drf_tup, DL.drf_obj, DL.drf_upd, DL.lenD_lst, DL.lenD_tup, DL.intD_int, DL.intD_bl, DL.rA_ref, DL.lf_int, DL.lf_bl, DL.lf_non, DL.lf_str, DL.lf_ref, DL.IsC_lst, DL.Ty_int, DL.Ty_tup, DL.Ty_lst, DL.Ty_bl, DL.Ty_str, DL.Ty_non, DL.wipeD, DL.ixQ, DL.tYesF, DL.bAddI, DL.bSub, DL.bMul, DL.bMod, DL.bFdiv, DL.bPow, DL.bMax2, DL.bMin2, DL.cLt, DL.cLe, DL.cGt, DL.cGe, List.set, List.map, List.length, List.length_cons, List.length_nil, List.replicate, List.nil_append, List.cons_append, List.append_nil, Option.isSome_some, Option.getD_some, Option.isSome_none, Bool.not_true, Bool.not_false, and_true, true_and, and_self, implies_true, Nat.zero_add, List.length_set, List.length_replicate, (numV (hb i hi).1 (hb i hi).2).2]
      refine ⟨⟨⟨⟨by decide, by show _ ≤ 16000000; simp⟩, trivial⟩, by show _ ≤ 16000000; simp, fun d hd => ?_⟩, rfl⟩
      obtain ⟨i, hi, rfl⟩ := List.mem_map.mp hd
      exact ⟨by decide, fun _ => (numV (hb i hi).1 (hb i hi).2).1⟩) rfl ?_
    refine st_ifF (by simp only [DL.sSetZ, DL.sRetZ, DL.sPar1, DL.sSeq, DL.sIf, DL.sSet, DL.sSetM, DL.sSetMN, DL.sAppN, DL.sSetMT, DL.sSetMS, DL.wLc, DL.wYes, DL.wPop, DL.wSl, DL.w1, DL.w1r, DL.lcW, DL.sFor, DL.sNext, DL.sRet, DL.sRetF, DL.sRetN, DL.sDrop, DL.sApp, DL.sAppR, DL.sSetIx, DL.sPar, DL.sParM, DL.sAsg, DL.wP, DL.wT, DL.wA, DL.wCall, DL.wCallP, DL.wACons, DL.wANil, DL.w2, DL.w2c, DL.w2t, DL.wIf, DL.wTup, DL.wLst, DL.wR1, DL.wAnd, DL.wOr, DL.wNot, DL.wTV, DL.pVar, DL.pInt, DL.pBl, DL.pStr, DL.pNon, DL.pDr, DL.pLf, DL.p1, DL.p2, DL.bI, DL.pc2, DL.tc2, DL.cI, DL.pAnd, DL.pOr, DL.pNot, DL.pIf, DL.pIsi, DL.pIsi2, DL.pChain, DL.tOf, DL.tNot1, DL.tAnd2, DL.tOr2, DL.tChn, DL.tIsN, DL.tNotN, DL.pIsN, DL.pNotN, DL.pNeg, DL.pSl, DL.pSlF, DL.pSlU, DL.pRev, DL.sfN, DL.sfS, DL.iU, DL.iL, DL.iR1, DL.iR2, DL.aCons, DL.aNil, DL.pLst, DL.pTup, DL.pLc, DL.pLcF, DL.pCall, DL.lV, DL.lIx, DL.lk, DL.startD, DL.ro, DL.gN, DL.gT, DL.gTL, DL.gC_cons, DL.gNl, DL.iS, DL.iE, DL.sAppC, DL.IsI_int, DL.toI_int, DL.IsB_bl, DL.toB_bl, DL.IsS_str, DL.toS_str, DL.IsL_lst, DL.IsU_tup, DL.IsQ_lst, DL.IsQ_tup, DL.toL_lst, DL.toL_tup, DL.drf_int, DL.drf_bl, DL.drf_str, DL.drf_non, DL.drf_lst, DL.drf_tup, DL.drf_obj, DL.drf_upd, DL.lenD_lst, DL.lenD_tup, DL.intD_int, DL.intD_bl, DL.rA_ref, DL.lf_int, DL.lf_bl, DL.lf_non, DL.lf_str, DL.lf_ref, DL.IsC_lst, DL.Ty_int, DL.Ty_tup, DL.Ty_lst, DL.Ty_bl, DL.Ty_str, DL.Ty_non, DL.wipeD, DL.ixQ, DL.tYesF, DL.bAddI, DL.bSub, DL.bMul, DL.bMod, DL.bFdiv, DL.bPow, DL.bMax2, DL.bMin2, DL.cLt, DL.cLe, DL.cGt, DL.cGe, List.set, List.map, List.length, List.length_cons, List.length_nil, List.replicate, List.nil_append, List.cons_append, List.append_nil, Option.isSome_some, Option.getD_some, Option.isSome_none, Bool.not_true, Bool.not_false, and_true, true_and, and_self, implies_true, Nat.zero_add, List.length_set, List.length_replicate, ni]) ?_
    refine st_set (.non) (by
      simp only [DL.sSetZ, DL.sRetZ, DL.sPar1, DL.sSeq, DL.sIf, DL.sSet, DL.sSetM, DL.sSetMN, DL.sAppN, DL.sSetMT, DL.sSetMS, DL.wLc, DL.wYes, DL.wPop, DL.wSl, DL.w1, DL.w1r, DL.lcW, DL.sFor, DL.sNext, DL.sRet, DL.sRetF, DL.sRetN, DL.sDrop, DL.sApp, DL.sAppR, DL.sSetIx, DL.sPar, DL.sParM, DL.sAsg, DL.wP, DL.wT, DL.wA, DL.wCall, DL.wCallP, DL.wACons, DL.wANil, DL.w2, DL.w2c, DL.w2t, DL.wIf, DL.wTup, DL.wLst, DL.wR1, DL.wAnd, DL.wOr, DL.wNot, DL.wTV, DL.pVar, DL.pInt, DL.pBl, DL.pStr, DL.pNon, DL.pDr, DL.pLf, DL.p1, DL.p2, DL.bI, DL.pc2, DL.tc2, DL.cI, DL.pAnd, DL.pOr, DL.pNot, DL.pIf, DL.pIsi, DL.pIsi2, DL.pChain, DL.tOf, DL.tNot1, DL.tAnd2, DL.tOr2, DL.tChn, DL.tIsN, DL.tNotN, DL.pIsN, DL.pNotN, DL.pNeg, DL.pSl, DL.pSlF, DL.pSlU, DL.pRev, DL.sfN, DL.sfS, DL.iU, DL.iL, DL.iR1, DL.iR2, DL.aCons, DL.aNil, DL.pLst, DL.pTup, DL.pLc, DL.pLcF, DL.pCall, DL.lV, DL.lIx, DL.lk, DL.startD, DL.ro, DL.gN, DL.gT, DL.gTL, DL.gC_cons, DL.gNl, DL.iS, DL.iE, DL.sAppC, DL.IsI_int, DL.toI_int, DL.IsB_bl, DL.toB_bl, DL.IsS_str, DL.toS_str, DL.IsL_lst, DL.IsU_tup, DL.IsQ_lst, DL.IsQ_tup, DL.toL_lst, DL.toL_tup, DL.drf_int, DL.drf_bl, DL.drf_str, DL.drf_non, DL.drf_lst, DL.drf_tup, DL.drf_obj, DL.drf_upd, DL.lenD_lst, DL.lenD_tup, DL.intD_int, DL.intD_bl, DL.rA_ref, DL.lf_int, DL.lf_bl, DL.lf_non, DL.lf_str, DL.lf_ref, DL.IsC_lst, DL.Ty_int, DL.Ty_tup, DL.Ty_lst, DL.Ty_bl, DL.Ty_str, DL.Ty_non, DL.wipeD, DL.ixQ, DL.tYesF, DL.bAddI, DL.bSub, DL.bMul, DL.bMod, DL.bFdiv, DL.bPow, DL.bMax2, DL.bMin2, DL.cLt, DL.cLe, DL.cGt, DL.cGe, List.set, List.map, List.length, List.length_cons, List.length_nil, List.replicate, List.nil_append, List.cons_append, List.append_nil, Option.isSome_some, Option.getD_some, Option.isSome_none, Bool.not_true, Bool.not_false, and_true, true_and, and_self, implies_true, Nat.zero_add, List.length_set, List.length_replicate, atI_2]
      simp [eqT, eqD_int, okD, lf]) rfl ?_
    refine st_set (rowD r) (by
      simp only [DL.sSetZ, DL.sRetZ, DL.sPar1, DL.sSeq, DL.sIf, DL.sSet, DL.sSetM, DL.sSetMN, DL.sAppN, DL.sSetMT, DL.sSetMS, DL.wLc, DL.wYes, DL.wPop, DL.wSl, DL.w1, DL.w1r, DL.lcW, DL.sFor, DL.sNext, DL.sRet, DL.sRetF, DL.sRetN, DL.sDrop, DL.sApp, DL.sAppR, DL.sSetIx, DL.sPar, DL.sParM, DL.sAsg, DL.wP, DL.wT, DL.wA, DL.wCall, DL.wCallP, DL.wACons, DL.wANil, DL.w2, DL.w2c, DL.w2t, DL.wIf, DL.wTup, DL.wLst, DL.wR1, DL.wAnd, DL.wOr, DL.wNot, DL.wTV, DL.pVar, DL.pInt, DL.pBl, DL.pStr, DL.pNon, DL.pDr, DL.pLf, DL.p1, DL.p2, DL.bI, DL.pc2, DL.tc2, DL.cI, DL.pAnd, DL.pOr, DL.pNot, DL.pIf, DL.pIsi, DL.pIsi2, DL.pChain, DL.tOf, DL.tNot1, DL.tAnd2, DL.tOr2, DL.tChn, DL.tIsN, DL.tNotN, DL.pIsN, DL.pNotN, DL.pNeg, DL.pSl, DL.pSlF, DL.pSlU, DL.pRev, DL.sfN, DL.sfS, DL.iU, DL.iL, DL.iR1, DL.iR2, DL.aCons, DL.aNil, DL.pLst, DL.pTup, DL.pLc, DL.pLcF, DL.pCall, DL.lV, DL.lIx, DL.lk, DL.startD, DL.ro, DL.gN, DL.gT, DL.gTL, DL.gC_cons, DL.gNl, DL.iS, DL.iE, DL.sAppC, DL.IsI_int, DL.toI_int, DL.IsB_bl, DL.toB_bl, DL.IsS_str, DL.toS_str, DL.IsL_lst, DL.IsU_tup, DL.IsQ_lst, DL.IsQ_tup, DL.toL_lst, DL.toL_tup, DL.drf_int, DL.drf_bl, DL.drf_str, DL.drf_non, DL.drf_lst, DL.drf_tup, DL.drf_obj, DL.drf_upd, DL.lenD_lst, DL.lenD_tup, DL.intD_int, DL.intD_bl, DL.rA_ref, DL.lf_int, DL.lf_bl, DL.lf_non, DL.lf_str, DL.lf_ref, DL.IsC_lst, DL.Ty_int, DL.Ty_tup, DL.Ty_lst, DL.Ty_bl, DL.Ty_str, DL.Ty_non, DL.wipeD, DL.ixQ, DL.tYesF, DL.bAddI, DL.bSub, DL.bMul, DL.bMod, DL.bFdiv, DL.bPow, DL.bMax2, DL.bMin2, DL.cLt, DL.cLe, DL.cGt, DL.cGe, List.set, List.map, List.length, List.length_cons, List.length_nil, List.replicate, List.nil_append, List.cons_append, List.append_nil, Option.isSome_some, Option.getD_some, Option.isSome_none, Bool.not_true, Bool.not_false, and_true, true_and, and_self, implies_true, Nat.zero_add, List.length_set, List.length_replicate, atI_0, atI_1, er]
      decide) rfl ?_
    have ev : ∀ M, (ph_is_row [rowD r] M).val = .bl true := fun M => rfl
    unfold sRetF
    show _ ∧ RES _ _ _
    have hv : (pIf (tAnd2 (tOf (pCall 1 ph_is_row (aCons (pDr (pVar 3)) aNil))) (tOr2 (tIsN (pDr (pVar 2))) (tc2 cLe (pDr (pVar 2)) (pInt 899)))) (pLf (pVar 3)) pNon [some (.lst [.str (numS r.id), .str (kindS r.live), .str (numS r.len)]), some (dI [r.id, r.len]), some (.non), some (rowD r), none] (ro M)).ok ∧ (pIf (tAnd2 (tOf (pCall 1 ph_is_row (aCons (pDr (pVar 3)) aNil))) (tOr2 (tIsN (pDr (pVar 2))) (tc2 cLe (pDr (pVar 2)) (pInt 899)))) (pLf (pVar 3)) pNon [some (.lst [.str (numS r.id), .str (kindS r.live), .str (numS r.len)]), some (dI [r.id, r.len]), some (.non), some (rowD r), none] (ro M)).val = rowD r := by
      simp only [DL.sSetZ, DL.sRetZ, DL.sPar1, DL.sSeq, DL.sIf, DL.sSet, DL.sSetM, DL.sSetMN, DL.sAppN, DL.sSetMT, DL.sSetMS, DL.wLc, DL.wYes, DL.wPop, DL.wSl, DL.w1, DL.w1r, DL.lcW, DL.sFor, DL.sNext, DL.sRet, DL.sRetF, DL.sRetN, DL.sDrop, DL.sApp, DL.sAppR, DL.sSetIx, DL.sPar, DL.sParM, DL.sAsg, DL.wP, DL.wT, DL.wA, DL.wCall, DL.wCallP, DL.wACons, DL.wANil, DL.w2, DL.w2c, DL.w2t, DL.wIf, DL.wTup, DL.wLst, DL.wR1, DL.wAnd, DL.wOr, DL.wNot, DL.wTV, DL.pVar, DL.pInt, DL.pBl, DL.pStr, DL.pNon, DL.pDr, DL.pLf, DL.p1, DL.p2, DL.bI, DL.pc2, DL.tc2, DL.cI, DL.pAnd, DL.pOr, DL.pNot, DL.pIf, DL.pIsi, DL.pIsi2, DL.pChain, DL.tOf, DL.tNot1, DL.tAnd2, DL.tOr2, DL.tChn, DL.tIsN, DL.tNotN, DL.pIsN, DL.pNotN, DL.pNeg, DL.pSl, DL.pSlF, DL.pSlU, DL.pRev, DL.sfN, DL.sfS, DL.iU, DL.iL, DL.iR1, DL.iR2, DL.aCons, DL.aNil, DL.pLst, DL.pTup, DL.pLc, DL.pLcF, DL.pCall, DL.lV, DL.lIx, DL.lk, DL.startD, DL.ro, DL.gN, DL.gT, DL.gTL, DL.gC_cons, DL.gNl, DL.iS, DL.iE, DL.sAppC, DL.IsI_int, DL.toI_int, DL.IsB_bl, DL.toB_bl, DL.IsS_str, DL.toS_str, DL.IsL_lst, DL.IsU_tup, DL.IsQ_lst, DL.IsQ_tup, DL.toL_lst, DL.toL_tup, DL.drf_int, DL.drf_bl, DL.drf_str, DL.drf_non, DL.drf_lst, DL.drf_tup, DL.drf_obj, DL.drf_upd, DL.lenD_lst, DL.lenD_tup, DL.intD_int, DL.intD_bl, DL.rA_ref, DL.lf_int, DL.lf_bl, DL.lf_non, DL.lf_str, DL.lf_ref, DL.IsC_lst, DL.Ty_int, DL.Ty_tup, DL.Ty_lst, DL.Ty_bl, DL.Ty_str, DL.Ty_non, DL.wipeD, DL.ixQ, DL.tYesF, DL.bAddI, DL.bSub, DL.bMul, DL.bMod, DL.bFdiv, DL.bPow, DL.bMax2, DL.bMin2, DL.cLt, DL.cLe, DL.cGt, DL.cGe, List.set, List.map, List.length, List.length_cons, List.length_nil, List.replicate, List.nil_append, List.cons_append, List.append_nil, Option.isSome_some, Option.getD_some, Option.isSome_none, Bool.not_true, Bool.not_false, and_true, true_and, and_self, implies_true, Nat.zero_add, List.length_set, List.length_replicate, drf_row, IsQ_row, rat0, rat1, rat2, rat3, lf_row_, isN, ev]
      exact ⟨⟨⟨isr _, fun _ z => by cases z⟩, by simp⟩, by simp⟩
    exact ⟨hv.1, Eq.mpr (congrArg (fun z => RES (ro M) z (rowD r)) hv.2) (RES_row.mpr rfl)⟩
  | some m =>
    have hm2 := hm m hmo
    have n3 := fun M => numV (M := M) (show 0 ≤ m by omega) (show m ≤ 999 by omega)
    have ew : (wordsOf r).map D.str = [.str (numS r.id), .str (kindS r.live), .str (numS r.len), .str (numS m)] := by unfold wordsOf; rw [hmo]; rfl
    have er : rowD r = .tup [.int r.id, .str (kindS r.live), .int r.len, .int m] := by unfold rowD; rw [hmo]; rfl
    rw [ew]
    show w_row_of _ [some (.lst [.str (numS r.id), .str (kindS r.live), .str (numS r.len), .str (numS m)]), none, none, none, none] _
    have ni : inT false .non (.lst [.int r.id, .int r.len, .int m]) = ⟨True, false⟩ := none_in (xs := [r.id, r.len, m])
    have ec : cutD [D.str (numS r.id), D.str (kindS r.live), D.str (numS r.len), D.str (numS m)] (some 2) none = [.str (numS r.len), .str (numS m)] := rfl
    have ep : [D.str (numS r.id)] ++ [.str (numS r.len), .str (numS m)] = [r.id, r.len, m].map fun i => D.str (numS i) := rfl
    have hb : ∀ i ∈ [r.id, r.len, m], 0 ≤ i ∧ i ≤ 999 := by intro i hi; simp at hi; rcases hi with rfl | rfl | rfl <;> omega
    unfold w_row_of
    refine st_ifF (by
      simp only [DL.sSetZ, DL.sRetZ, DL.sPar1, DL.sSeq, DL.sIf, DL.sSet, DL.sSetM, DL.sSetMN, DL.sAppN, DL.sSetMT, DL.sSetMS, DL.wLc, DL.wYes, DL.wPop, DL.wSl, DL.w1, DL.w1r, DL.lcW, DL.sFor, DL.sNext, DL.sRet, DL.sRetF, DL.sRetN, DL.sDrop, DL.sApp, DL.sAppR, DL.sSetIx, DL.sPar, DL.sParM, DL.sAsg, DL.wP, DL.wT, DL.wA, DL.wCall, DL.wCallP, DL.wACons, DL.wANil, DL.w2, DL.w2c, DL.w2t, DL.wIf, DL.wTup, DL.wLst, DL.wR1, DL.wAnd, DL.wOr, DL.wNot, DL.wTV, DL.pVar, DL.pInt, DL.pBl, DL.pStr, DL.pNon, DL.pDr, DL.pLf, DL.p1, DL.p2, DL.bI, DL.pc2, DL.tc2, DL.cI, DL.pAnd, DL.pOr, DL.pNot, DL.pIf, DL.pIsi, DL.pIsi2, DL.pChain, DL.tOf, DL.tNot1, DL.tAnd2, DL.tOr2, DL.tChn, DL.tIsN, DL.tNotN, DL.pIsN, DL.pNotN, DL.pNeg, DL.pSl, DL.pSlF, DL.pSlU, DL.pRev, DL.sfN, DL.sfS, DL.iU, DL.iL, DL.iR1, DL.iR2, DL.aCons, DL.aNil, DL.pLst, DL.pTup, DL.pLc, DL.pLcF, DL.pCall, DL.lV, DL.lIx, DL.lk, DL.startD, DL.ro, DL.gN, DL.gT, DL.gTL, DL.gC_cons, DL.gNl, DL.iS, DL.iE, DL.sAppC, DL.IsI_int, DL.toI_int, DL.IsB_bl, DL.toB_bl, DL.IsS_str, DL.toS_str, DL.IsL_lst, DL.IsU_tup, DL.IsQ_lst, DL.IsQ_tup, DL.toL_lst, DL.toL_tup, DL.drf_int, DL.drf_bl, DL.drf_str, DL.drf_non, DL.drf_lst, DL.drf_tup, DL.drf_obj, DL.drf_upd, DL.lenD_lst, DL.lenD_tup, DL.intD_int, DL.intD_bl, DL.rA_ref, DL.lf_int, DL.lf_bl, DL.lf_non, DL.lf_str, DL.lf_ref, DL.IsC_lst, DL.Ty_int, DL.Ty_tup, DL.Ty_lst, DL.Ty_bl, DL.Ty_str, DL.Ty_non, DL.wipeD, DL.ixQ, DL.tYesF, DL.bAddI, DL.bSub, DL.bMul, DL.bMod, DL.bFdiv, DL.bPow, DL.bMax2, DL.bMin2, DL.cLt, DL.cLe, DL.cGt, DL.cGe, List.set, List.map, List.length, List.length_cons, List.length_nil, List.replicate, List.nil_append, List.cons_append, List.append_nil, Option.isSome_some, Option.getD_some, Option.isSome_none, Bool.not_true, Bool.not_false, and_true, true_and, and_self, implies_true, Nat.zero_add, List.length_set, List.length_replicate, atI_1, in_kind, in34 (n := ((1+1+1+1 : Nat) : Int)) (by decide)]
      exact ⟨⟨by decide, fun _ => by decide⟩, rfl⟩) ?_
    refine st_set (dI [r.id, r.len, m]) (by
      simp only [DL.sSetZ, DL.sRetZ, DL.sPar1, DL.sSeq, DL.sIf, DL.sSet, DL.sSetM, DL.sSetMN, DL.sAppN, DL.sSetMT, DL.sSetMS, DL.wLc, DL.wYes, DL.wPop, DL.wSl, DL.w1, DL.w1r, DL.lcW, DL.sFor, DL.sNext, DL.sRet, DL.sRetF, DL.sRetN, DL.sDrop, DL.sApp, DL.sAppR, DL.sSetIx, DL.sPar, DL.sParM, DL.sAsg, DL.wP, DL.wT, DL.wA, DL.wCall, DL.wCallP, DL.wACons, DL.wANil, DL.w2, DL.w2c, DL.w2t, DL.wIf, DL.wTup, DL.wLst, DL.wR1, DL.wAnd, DL.wOr, DL.wNot, DL.wTV, DL.pVar, DL.pInt, DL.pBl, DL.pStr, DL.pNon, DL.pDr, DL.pLf, DL.p1, DL.p2, DL.bI, DL.pc2, DL.tc2, DL.cI, DL.pAnd, DL.pOr, DL.pNot, DL.pIf, DL.pIsi, DL.pIsi2, DL.pChain, DL.tOf, DL.tNot1, DL.tAnd2, DL.tOr2, DL.tChn, DL.tIsN, DL.tNotN, DL.pIsN, DL.pNotN, DL.pNeg, DL.pSl, DL.pSlF, DL.pSlU, DL.pRev, DL.sfN, DL.sfS, DL.iU, DL.iL, DL.iR1, DL.iR2, DL.aCons, DL.aNil, DL.pLst, DL.pTup, DL.pLc, DL.pLcF, DL.pCall, DL.lV, DL.lIx, DL.lk, DL.startD, DL.ro, DL.gN, DL.gT, DL.gTL, DL.gC_cons, DL.gNl, DL.iS, DL.iE, DL.sAppC, DL.IsI_int, DL.toI_int, DL.IsB_bl, DL.toB_bl, DL.IsS_str, DL.toS_str, DL.IsL_lst, DL.IsU_tup, DL.IsQ_lst, DL.IsQ_tup, DL.toL_lst, DL.toL_tup, DL.drf_int, DL.drf_bl, DL.drf_str, DL.drf_non, DL.drf_lst, DL.drf_tup, DL.drf_obj, DL.drf_upd, DL.lenD_lst, DL.lenD_tup, DL.intD_int, DL.intD_bl, DL.rA_ref, DL.lf_int, DL.lf_bl, DL.lf_non, DL.lf_str, DL.lf_ref, DL.IsC_lst, DL.Ty_int, DL.Ty_tup, DL.Ty_lst, DL.Ty_bl, DL.Ty_str, DL.Ty_non, DL.wipeD, DL.ixQ, DL.tYesF, DL.bAddI, DL.bSub, DL.bMul, DL.bMod, DL.bFdiv, DL.bPow, DL.bMax2, DL.bMin2, DL.cLt, DL.cLe, DL.cGt, DL.cGe, List.set, List.map, List.length, List.length_cons, List.length_nil, List.replicate, List.nil_append, List.cons_append, List.append_nil, Option.isSome_some, Option.getD_some, Option.isSome_none, Bool.not_true, Bool.not_false, and_true, true_and, and_self, implies_true, Nat.zero_add, List.length_set, List.length_replicate, atI_0]
      rw [ec, catL_lst, ep]
      simp only [toL_lst, IsL_lst]
      rw [lc_all (fun i => D.str (numS i)) (fun i => .int i) fun i hi => ?c1]
      case c1 => simp only [DL.sSetZ, DL.sRetZ, DL.sPar1, DL.sSeq, DL.sIf, DL.sSet, DL.sSetM, DL.sSetMN, DL.sAppN, DL.sSetMT, DL.sSetMS, DL.wLc, DL.wYes, DL.wPop, DL.wSl, DL.w1, DL.w1r, DL.lcW, DL.sFor, DL.sNext, DL.sRet, DL.sRetF, DL.sRetN, DL.sDrop, DL.sApp, DL.sAppR, DL.sSetIx, DL.sPar, DL.sParM, DL.sAsg, DL.wP, DL.wT, DL.wA, DL.wCall, DL.wCallP, DL.wACons, DL.wANil, DL.w2, DL.w2c, DL.w2t, DL.wIf, DL.wTup, DL.wLst, DL.wR1, DL.wAnd, DL.wOr, DL.wNot, DL.wTV, DL.pVar, DL.pInt, DL.pBl, DL.pStr, DL.pNon, DL.pDr, DL.pLf, DL.p1, DL.p2, DL.bI, DL.pc2, DL.tc2, DL.cI, DL.pAnd, DL.pOr, DL.pNot, DL.pIf, DL.pIsi, DL.pIsi2, DL.pChain, DL.tOf, DL.tNot1, DL.tAnd2, DL.tOr2, DL.tChn, DL.tIsN, DL.tNotN, DL.pIsN, DL.pNotN, DL.pNeg, DL.pSl, DL.pSlF, DL.pSlU, DL.pRev, DL.sfN, DL.sfS, DL.iU, DL.iL, DL.iR1, DL.iR2, DL.aCons, DL.aNil, DL.pLst, DL.pTup, DL.pLc, DL.pLcF, DL.pCall, DL.lV, DL.lIx, DL.lk, DL.startD, DL.ro, DL.gN, DL.gT, DL.gTL, DL.gC_cons, DL.gNl, DL.iS, DL.iE, DL.sAppC, DL.IsI_int, DL.toI_int, DL.IsB_bl, DL.toB_bl, DL.IsS_str, DL.toS_str, DL.IsL_lst, DL.IsU_tup, DL.IsQ_lst, DL.IsQ_tup, DL.toL_lst, DL.toL_tup, DL.drf_int, DL.drf_bl, DL.drf_str, DL.drf_non, DL.drf_lst, DL.drf_tup, DL.drf_obj, DL.drf_upd, DL.lenD_lst, DL.lenD_tup, DL.intD_int, DL.intD_bl, DL.rA_ref, DL.lf_int, DL.lf_bl, DL.lf_non, DL.lf_str, DL.lf_ref, DL.IsC_lst, DL.Ty_int, DL.Ty_tup, DL.Ty_lst, DL.Ty_bl, DL.Ty_str, DL.Ty_non, DL.wipeD, DL.ixQ, DL.tYesF, DL.bAddI, DL.bSub, DL.bMul, DL.bMod, DL.bFdiv, DL.bPow, DL.bMax2, DL.bMin2, DL.cLt, DL.cLe, DL.cGt, DL.cGe, List.set, List.map, List.length, List.length_cons, List.length_nil, List.replicate, List.nil_append, List.cons_append, List.append_nil, Option.isSome_some, Option.getD_some, Option.isSome_none, Bool.not_true, Bool.not_false, and_true, true_and, and_self, implies_true, Nat.zero_add, List.length_set, List.length_replicate, (numV (hb i hi).1 (hb i hi).2).2]
      refine ⟨⟨⟨⟨by decide, by show _ ≤ 16000000; simp⟩, trivial⟩, by show _ ≤ 16000000; simp, fun d hd => ?_⟩, rfl⟩
      obtain ⟨i, hi, rfl⟩ := List.mem_map.mp hd
      exact ⟨by decide, fun _ => (numV (hb i hi).1 (hb i hi).2).1⟩) rfl ?_
    refine st_ifF (by simp only [DL.sSetZ, DL.sRetZ, DL.sPar1, DL.sSeq, DL.sIf, DL.sSet, DL.sSetM, DL.sSetMN, DL.sAppN, DL.sSetMT, DL.sSetMS, DL.wLc, DL.wYes, DL.wPop, DL.wSl, DL.w1, DL.w1r, DL.lcW, DL.sFor, DL.sNext, DL.sRet, DL.sRetF, DL.sRetN, DL.sDrop, DL.sApp, DL.sAppR, DL.sSetIx, DL.sPar, DL.sParM, DL.sAsg, DL.wP, DL.wT, DL.wA, DL.wCall, DL.wCallP, DL.wACons, DL.wANil, DL.w2, DL.w2c, DL.w2t, DL.wIf, DL.wTup, DL.wLst, DL.wR1, DL.wAnd, DL.wOr, DL.wNot, DL.wTV, DL.pVar, DL.pInt, DL.pBl, DL.pStr, DL.pNon, DL.pDr, DL.pLf, DL.p1, DL.p2, DL.bI, DL.pc2, DL.tc2, DL.cI, DL.pAnd, DL.pOr, DL.pNot, DL.pIf, DL.pIsi, DL.pIsi2, DL.pChain, DL.tOf, DL.tNot1, DL.tAnd2, DL.tOr2, DL.tChn, DL.tIsN, DL.tNotN, DL.pIsN, DL.pNotN, DL.pNeg, DL.pSl, DL.pSlF, DL.pSlU, DL.pRev, DL.sfN, DL.sfS, DL.iU, DL.iL, DL.iR1, DL.iR2, DL.aCons, DL.aNil, DL.pLst, DL.pTup, DL.pLc, DL.pLcF, DL.pCall, DL.lV, DL.lIx, DL.lk, DL.startD, DL.ro, DL.gN, DL.gT, DL.gTL, DL.gC_cons, DL.gNl, DL.iS, DL.iE, DL.sAppC, DL.IsI_int, DL.toI_int, DL.IsB_bl, DL.toB_bl, DL.IsS_str, DL.toS_str, DL.IsL_lst, DL.IsU_tup, DL.IsQ_lst, DL.IsQ_tup, DL.toL_lst, DL.toL_tup, DL.drf_int, DL.drf_bl, DL.drf_str, DL.drf_non, DL.drf_lst, DL.drf_tup, DL.drf_obj, DL.drf_upd, DL.lenD_lst, DL.lenD_tup, DL.intD_int, DL.intD_bl, DL.rA_ref, DL.lf_int, DL.lf_bl, DL.lf_non, DL.lf_str, DL.lf_ref, DL.IsC_lst, DL.Ty_int, DL.Ty_tup, DL.Ty_lst, DL.Ty_bl, DL.Ty_str, DL.Ty_non, DL.wipeD, DL.ixQ, DL.tYesF, DL.bAddI, DL.bSub, DL.bMul, DL.bMod, DL.bFdiv, DL.bPow, DL.bMax2, DL.bMin2, DL.cLt, DL.cLe, DL.cGt, DL.cGe, List.set, List.map, List.length, List.length_cons, List.length_nil, List.replicate, List.nil_append, List.cons_append, List.append_nil, Option.isSome_some, Option.getD_some, Option.isSome_none, Bool.not_true, Bool.not_false, and_true, true_and, and_self, implies_true, Nat.zero_add, List.length_set, List.length_replicate, ni]) ?_
    refine st_set (.int m) (by
      simp only [DL.sSetZ, DL.sRetZ, DL.sPar1, DL.sSeq, DL.sIf, DL.sSet, DL.sSetM, DL.sSetMN, DL.sAppN, DL.sSetMT, DL.sSetMS, DL.wLc, DL.wYes, DL.wPop, DL.wSl, DL.w1, DL.w1r, DL.lcW, DL.sFor, DL.sNext, DL.sRet, DL.sRetF, DL.sRetN, DL.sDrop, DL.sApp, DL.sAppR, DL.sSetIx, DL.sPar, DL.sParM, DL.sAsg, DL.wP, DL.wT, DL.wA, DL.wCall, DL.wCallP, DL.wACons, DL.wANil, DL.w2, DL.w2c, DL.w2t, DL.wIf, DL.wTup, DL.wLst, DL.wR1, DL.wAnd, DL.wOr, DL.wNot, DL.wTV, DL.pVar, DL.pInt, DL.pBl, DL.pStr, DL.pNon, DL.pDr, DL.pLf, DL.p1, DL.p2, DL.bI, DL.pc2, DL.tc2, DL.cI, DL.pAnd, DL.pOr, DL.pNot, DL.pIf, DL.pIsi, DL.pIsi2, DL.pChain, DL.tOf, DL.tNot1, DL.tAnd2, DL.tOr2, DL.tChn, DL.tIsN, DL.tNotN, DL.pIsN, DL.pNotN, DL.pNeg, DL.pSl, DL.pSlF, DL.pSlU, DL.pRev, DL.sfN, DL.sfS, DL.iU, DL.iL, DL.iR1, DL.iR2, DL.aCons, DL.aNil, DL.pLst, DL.pTup, DL.pLc, DL.pLcF, DL.pCall, DL.lV, DL.lIx, DL.lk, DL.startD, DL.ro, DL.gN, DL.gT, DL.gTL, DL.gC_cons, DL.gNl, DL.iS, DL.iE, DL.sAppC, DL.IsI_int, DL.toI_int, DL.IsB_bl, DL.toB_bl, DL.IsS_str, DL.toS_str, DL.IsL_lst, DL.IsU_tup, DL.IsQ_lst, DL.IsQ_tup, DL.toL_lst, DL.toL_tup, DL.drf_int, DL.drf_bl, DL.drf_str, DL.drf_non, DL.drf_lst, DL.drf_tup, DL.drf_obj, DL.drf_upd, DL.lenD_lst, DL.lenD_tup, DL.intD_int, DL.intD_bl, DL.rA_ref, DL.lf_int, DL.lf_bl, DL.lf_non, DL.lf_str, DL.lf_ref, DL.IsC_lst, DL.Ty_int, DL.Ty_tup, DL.Ty_lst, DL.Ty_bl, DL.Ty_str, DL.Ty_non, DL.wipeD, DL.ixQ, DL.tYesF, DL.bAddI, DL.bSub, DL.bMul, DL.bMod, DL.bFdiv, DL.bPow, DL.bMax2, DL.bMin2, DL.cLt, DL.cLe, DL.cGt, DL.cGe, List.set, List.map, List.length, List.length_cons, List.length_nil, List.replicate, List.nil_append, List.cons_append, List.append_nil, Option.isSome_some, Option.getD_some, Option.isSome_none, Bool.not_true, Bool.not_false, and_true, true_and, and_self, implies_true, Nat.zero_add, List.length_set, List.length_replicate, atI_2]
      simp [eqT, eqD_int, okD, lf]) rfl ?_
    refine st_set (rowD r) (by
      simp only [DL.sSetZ, DL.sRetZ, DL.sPar1, DL.sSeq, DL.sIf, DL.sSet, DL.sSetM, DL.sSetMN, DL.sAppN, DL.sSetMT, DL.sSetMS, DL.wLc, DL.wYes, DL.wPop, DL.wSl, DL.w1, DL.w1r, DL.lcW, DL.sFor, DL.sNext, DL.sRet, DL.sRetF, DL.sRetN, DL.sDrop, DL.sApp, DL.sAppR, DL.sSetIx, DL.sPar, DL.sParM, DL.sAsg, DL.wP, DL.wT, DL.wA, DL.wCall, DL.wCallP, DL.wACons, DL.wANil, DL.w2, DL.w2c, DL.w2t, DL.wIf, DL.wTup, DL.wLst, DL.wR1, DL.wAnd, DL.wOr, DL.wNot, DL.wTV, DL.pVar, DL.pInt, DL.pBl, DL.pStr, DL.pNon, DL.pDr, DL.pLf, DL.p1, DL.p2, DL.bI, DL.pc2, DL.tc2, DL.cI, DL.pAnd, DL.pOr, DL.pNot, DL.pIf, DL.pIsi, DL.pIsi2, DL.pChain, DL.tOf, DL.tNot1, DL.tAnd2, DL.tOr2, DL.tChn, DL.tIsN, DL.tNotN, DL.pIsN, DL.pNotN, DL.pNeg, DL.pSl, DL.pSlF, DL.pSlU, DL.pRev, DL.sfN, DL.sfS, DL.iU, DL.iL, DL.iR1, DL.iR2, DL.aCons, DL.aNil, DL.pLst, DL.pTup, DL.pLc, DL.pLcF, DL.pCall, DL.lV, DL.lIx, DL.lk, DL.startD, DL.ro, DL.gN, DL.gT, DL.gTL, DL.gC_cons, DL.gNl, DL.iS, DL.iE, DL.sAppC, DL.IsI_int, DL.toI_int, DL.IsB_bl, DL.toB_bl, DL.IsS_str, DL.toS_str, DL.IsL_lst, DL.IsU_tup, DL.IsQ_lst, DL.IsQ_tup, DL.toL_lst, DL.toL_tup, DL.drf_int, DL.drf_bl, DL.drf_str, DL.drf_non, DL.drf_lst, DL.drf_tup, DL.drf_obj, DL.drf_upd, DL.lenD_lst, DL.lenD_tup, DL.intD_int, DL.intD_bl, DL.rA_ref, DL.lf_int, DL.lf_bl, DL.lf_non, DL.lf_str, DL.lf_ref, DL.IsC_lst, DL.Ty_int, DL.Ty_tup, DL.Ty_lst, DL.Ty_bl, DL.Ty_str, DL.Ty_non, DL.wipeD, DL.ixQ, DL.tYesF, DL.bAddI, DL.bSub, DL.bMul, DL.bMod, DL.bFdiv, DL.bPow, DL.bMax2, DL.bMin2, DL.cLt, DL.cLe, DL.cGt, DL.cGe, List.set, List.map, List.length, List.length_cons, List.length_nil, List.replicate, List.nil_append, List.cons_append, List.append_nil, Option.isSome_some, Option.getD_some, Option.isSome_none, Bool.not_true, Bool.not_false, and_true, true_and, and_self, implies_true, Nat.zero_add, List.length_set, List.length_replicate, atI_0, atI_1, er]
      decide) rfl ?_
    have ev : ∀ M, (ph_is_row [rowD r] M).val = .bl true := fun M => rfl
    unfold sRetF
    show _ ∧ RES _ _ _
    have hv : (pIf (tAnd2 (tOf (pCall 1 ph_is_row (aCons (pDr (pVar 3)) aNil))) (tOr2 (tIsN (pDr (pVar 2))) (tc2 cLe (pDr (pVar 2)) (pInt 899)))) (pLf (pVar 3)) pNon [some (.lst [.str (numS r.id), .str (kindS r.live), .str (numS r.len), .str (numS m)]), some (dI [r.id, r.len, m]), some (.int m), some (rowD r), none] (ro M)).ok ∧ (pIf (tAnd2 (tOf (pCall 1 ph_is_row (aCons (pDr (pVar 3)) aNil))) (tOr2 (tIsN (pDr (pVar 2))) (tc2 cLe (pDr (pVar 2)) (pInt 899)))) (pLf (pVar 3)) pNon [some (.lst [.str (numS r.id), .str (kindS r.live), .str (numS r.len), .str (numS m)]), some (dI [r.id, r.len, m]), some (.int m), some (rowD r), none] (ro M)).val = rowD r := by
      simp only [DL.sSetZ, DL.sRetZ, DL.sPar1, DL.sSeq, DL.sIf, DL.sSet, DL.sSetM, DL.sSetMN, DL.sAppN, DL.sSetMT, DL.sSetMS, DL.wLc, DL.wYes, DL.wPop, DL.wSl, DL.w1, DL.w1r, DL.lcW, DL.sFor, DL.sNext, DL.sRet, DL.sRetF, DL.sRetN, DL.sDrop, DL.sApp, DL.sAppR, DL.sSetIx, DL.sPar, DL.sParM, DL.sAsg, DL.wP, DL.wT, DL.wA, DL.wCall, DL.wCallP, DL.wACons, DL.wANil, DL.w2, DL.w2c, DL.w2t, DL.wIf, DL.wTup, DL.wLst, DL.wR1, DL.wAnd, DL.wOr, DL.wNot, DL.wTV, DL.pVar, DL.pInt, DL.pBl, DL.pStr, DL.pNon, DL.pDr, DL.pLf, DL.p1, DL.p2, DL.bI, DL.pc2, DL.tc2, DL.cI, DL.pAnd, DL.pOr, DL.pNot, DL.pIf, DL.pIsi, DL.pIsi2, DL.pChain, DL.tOf, DL.tNot1, DL.tAnd2, DL.tOr2, DL.tChn, DL.tIsN, DL.tNotN, DL.pIsN, DL.pNotN, DL.pNeg, DL.pSl, DL.pSlF, DL.pSlU, DL.pRev, DL.sfN, DL.sfS, DL.iU, DL.iL, DL.iR1, DL.iR2, DL.aCons, DL.aNil, DL.pLst, DL.pTup, DL.pLc, DL.pLcF, DL.pCall, DL.lV, DL.lIx, DL.lk, DL.startD, DL.ro, DL.gN, DL.gT, DL.gTL, DL.gC_cons, DL.gNl, DL.iS, DL.iE, DL.sAppC, DL.IsI_int, DL.toI_int, DL.IsB_bl, DL.toB_bl, DL.IsS_str, DL.toS_str, DL.IsL_lst, DL.IsU_tup, DL.IsQ_lst, DL.IsQ_tup, DL.toL_lst, DL.toL_tup, DL.drf_int, DL.drf_bl, DL.drf_str, DL.drf_non, DL.drf_lst, DL.drf_tup, DL.drf_obj, DL.drf_upd, DL.lenD_lst, DL.lenD_tup, DL.intD_int, DL.intD_bl, DL.rA_ref, DL.lf_int, DL.lf_bl, DL.lf_non, DL.lf_str, DL.lf_ref, DL.IsC_lst, DL.Ty_int, DL.Ty_tup, DL.Ty_lst, DL.Ty_bl, DL.Ty_str, DL.Ty_non, DL.wipeD, DL.ixQ, DL.tYesF, DL.bAddI, DL.bSub, DL.bMul, DL.bMod, DL.bFdiv, DL.bPow, DL.bMax2, DL.bMin2, DL.cLt, DL.cLe, DL.cGt, DL.cGe, List.set, List.map, List.length, List.length_cons, List.length_nil, List.replicate, List.nil_append, List.cons_append, List.append_nil, Option.isSome_some, Option.getD_some, Option.isSome_none, Bool.not_true, Bool.not_false, and_true, true_and, and_self, implies_true, Nat.zero_add, List.length_set, List.length_replicate, drf_row, IsQ_row, rat0, rat1, rat2, rat3, lf_row_, isN, ev]
      have d9 : decide (m ≤ 899) = true := decide_eq_true hm2.2
      rw [d9]
      exact ⟨⟨isr _, by simp⟩, by simp⟩
    exact ⟨hv.1, Eq.mpr (congrArg (fun z => RES (ro M) z (rowD r)) hv.2) (RES_row.mpr rfl)⟩
theorem joinV {s : Str} {ps : List Str} (h : (ps.map (·.length)).sum + ps.length * s.length ≤ SZ) : joinD (.str s) (.lst (ps.map D.str)) = ⟨True, .str (Txt.join s ps)⟩ := by
  have e : (ps.map D.str).map toS = ps := by rw [List.map_map]; exact (List.map_congr_left fun x _ => rfl).trans (List.map_id _)
  unfold joinD
  rw [toL_lst, toS_str, e]
  congr 1
  exact eq_true ⟨trivial, trivial, fun d hd => by obtain ⟨x, _, rfl⟩ := List.mem_map.mp hd; trivial, h⟩
theorem st_drop {K : EndD} {δ : DL.Loc} {N : Nm} {f : PF} {u : WS} (h : (f δ N).ok) (k : u K δ N) : sSeq (sDrop (wP f)) u K δ N := ⟨h, k⟩
theorem textV {rs : List Row} {M : Nm} (h : ROk rs 0 900) : (ph_read [.str (textS rs)] M).ok ∧ (ph_read [.str (textS rs)] M).val = dR rs := by
  refine ⟨⟨rs, rfl, h⟩, ?_⟩
  show dR (rdT (textS rs)) = _
  rw [rdT_text fun r hr => (h.one r hr).rf fun m hm => by
    have := h.mo m (List.mem_filterMap.mpr ⟨r, hr, hm⟩); omega]
theorem ROk.rf1 {rs : List Row} (h : ROk rs 0 900) {r : Row} (hr : r ∈ rs) : RF r ∧ ∀ m ∈ r.mo, 0 ≤ m ∧ m ≤ 899 := by
  have hm : ∀ m ∈ r.mo, 0 ≤ m ∧ m ≤ 899 := fun m hm => by
    have := h.mo m (List.mem_filterMap.mpr ⟨r, hr, hm⟩); omega
  exact ⟨(h.one r hr).rf hm, hm⟩
theorem r_read (ds : List D) (M : Nm) (hl : ds.length = 1) (h : (ph_read ds M).ok) : w_read { nx := fun _ _ => (ph_read ds M).val = .non, rt := fun d M' => RES M' d (ph_read ds M).val } (startD n_read.length ds) (ro M) := by
  obtain ⟨rs, rfl, h⟩ := h
  rw [(textV h).2]
  have hn := h.n
  have hrf : ∀ r ∈ rs, RF r := fun r hr => (h.rf1 hr).1
  show w_read _ [some (.str (textS rs)), none, none, none, none] _
  unfold w_read
  refine st_setM (.lst []) (by simp only [DL.sSetZ, DL.sRetZ, DL.sPar1, DL.sSeq, DL.sIf, DL.sSet, DL.sSetM, DL.sSetMN, DL.sAppN, DL.sSetMT, DL.sSetMS, DL.wLc, DL.wYes, DL.wPop, DL.wSl, DL.w1, DL.w1r, DL.lcW, DL.sFor, DL.sNext, DL.sRet, DL.sRetF, DL.sRetN, DL.sDrop, DL.sApp, DL.sAppR, DL.sSetIx, DL.sPar, DL.sParM, DL.sAsg, DL.wP, DL.wT, DL.wA, DL.wCall, DL.wCallP, DL.wACons, DL.wANil, DL.w2, DL.w2c, DL.w2t, DL.wIf, DL.wTup, DL.wLst, DL.wR1, DL.wAnd, DL.wOr, DL.wNot, DL.wTV, DL.pVar, DL.pInt, DL.pBl, DL.pStr, DL.pNon, DL.pDr, DL.pLf, DL.p1, DL.p2, DL.bI, DL.pc2, DL.tc2, DL.cI, DL.pAnd, DL.pOr, DL.pNot, DL.pIf, DL.pIsi, DL.pIsi2, DL.pChain, DL.tOf, DL.tNot1, DL.tAnd2, DL.tOr2, DL.tChn, DL.tIsN, DL.tNotN, DL.pIsN, DL.pNotN, DL.pNeg, DL.pSl, DL.pSlF, DL.pSlU, DL.pRev, DL.sfN, DL.sfS, DL.iU, DL.iL, DL.iR1, DL.iR2, DL.aCons, DL.aNil, DL.pLst, DL.pTup, DL.pLc, DL.pLcF, DL.pCall, DL.lV, DL.lIx, DL.lk, DL.startD, DL.ro, DL.gN, DL.gT, DL.gTL, DL.gC_cons, DL.gNl, DL.iS, DL.iE, DL.sAppC, DL.IsI_int, DL.toI_int, DL.IsB_bl, DL.toB_bl, DL.IsS_str, DL.toS_str, DL.IsL_lst, DL.IsU_tup, DL.IsQ_lst, DL.IsQ_tup, DL.toL_lst, DL.toL_tup, DL.drf_int, DL.drf_bl, DL.drf_str, DL.drf_non, DL.drf_lst, DL.drf_tup, DL.drf_obj, DL.drf_upd, DL.lenD_lst, DL.lenD_tup, DL.intD_int, DL.intD_bl, DL.rA_ref, DL.lf_int, DL.lf_bl, DL.lf_non, DL.lf_str, DL.lf_ref, DL.IsC_lst, DL.Ty_int, DL.Ty_tup, DL.Ty_lst, DL.Ty_bl, DL.Ty_str, DL.Ty_non, DL.wipeD, DL.ixQ, DL.tYesF, DL.bAddI, DL.bSub, DL.bMul, DL.bMod, DL.bFdiv, DL.bPow, DL.bMax2, DL.bMin2, DL.cLt, DL.cLe, DL.cGt, DL.cGe, List.set, List.map, List.length, List.length_cons, List.length_nil, List.replicate, List.nil_append, List.cons_append, List.append_nil, Option.isSome_some, Option.getD_some, Option.isSome_none, Bool.not_true, Bool.not_false, and_true, true_and, and_self, implies_true, Nat.zero_add, List.length_set, List.length_replicate]; decide) trivial fun a ha => ?_
  have tok := text_ok hrf
  have tl := text_len hrf
  have nev : ∀ s t : Str, neT 8 (.str s) (.str t) = ⟨PyData.strOk s = true ∧ PyData.strOk t = true, !decide (s = t)⟩ := fun s t => by unfold neT; rw [eqD_str]; rfl
  have sp : ∀ s t : Str, splitD (.str s) (.str t) = ⟨(t.length == 0) = false ∧ s.length + 2 ≤ SZ, .lst ((Txt.split s t).map D.str)⟩ := fun s t => by unfold splitD; simp only [IsS_str, toS_str, true_and]
  refine st_for (enu 0 (rs.map fun r => .str (lineS r))) (by
    simp only [DL.sSetZ, DL.sRetZ, DL.sPar1, DL.sSeq, DL.sIf, DL.sSet, DL.sSetM, DL.sSetMN, DL.sAppN, DL.sSetMT, DL.sSetMS, DL.wLc, DL.wYes, DL.wPop, DL.wSl, DL.w1, DL.w1r, DL.lcW, DL.sFor, DL.sNext, DL.sRet, DL.sRetF, DL.sRetN, DL.sDrop, DL.sApp, DL.sAppR, DL.sSetIx, DL.sPar, DL.sParM, DL.sAsg, DL.wP, DL.wT, DL.wA, DL.wCall, DL.wCallP, DL.wACons, DL.wANil, DL.w2, DL.w2c, DL.w2t, DL.wIf, DL.wTup, DL.wLst, DL.wR1, DL.wAnd, DL.wOr, DL.wNot, DL.wTV, DL.pVar, DL.pInt, DL.pBl, DL.pStr, DL.pNon, DL.pDr, DL.pLf, DL.p1, DL.p2, DL.bI, DL.pc2, DL.tc2, DL.cI, DL.pAnd, DL.pOr, DL.pNot, DL.pIf, DL.pIsi, DL.pIsi2, DL.pChain, DL.tOf, DL.tNot1, DL.tAnd2, DL.tOr2, DL.tChn, DL.tIsN, DL.tNotN, DL.pIsN, DL.pNotN, DL.pNeg, DL.pSl, DL.pSlF, DL.pSlU, DL.pRev, DL.sfN, DL.sfS, DL.iU, DL.iL, DL.iR1, DL.iR2, DL.aCons, DL.aNil, DL.pLst, DL.pTup, DL.pLc, DL.pLcF, DL.pCall, DL.lV, DL.lIx, DL.lk, DL.startD, DL.ro, DL.gN, DL.gT, DL.gTL, DL.gC_cons, DL.gNl, DL.iS, DL.iE, DL.sAppC, DL.IsI_int, DL.toI_int, DL.IsB_bl, DL.toB_bl, DL.IsS_str, DL.toS_str, DL.IsL_lst, DL.IsU_tup, DL.IsQ_lst, DL.IsQ_tup, DL.toL_lst, DL.toL_tup, DL.drf_int, DL.drf_bl, DL.drf_str, DL.drf_non, DL.drf_lst, DL.drf_tup, DL.drf_obj, DL.drf_upd, DL.lenD_lst, DL.lenD_tup, DL.intD_int, DL.intD_bl, DL.rA_ref, DL.lf_int, DL.lf_bl, DL.lf_non, DL.lf_str, DL.lf_ref, DL.IsC_lst, DL.Ty_int, DL.Ty_tup, DL.Ty_lst, DL.Ty_bl, DL.Ty_str, DL.Ty_non, DL.wipeD, DL.ixQ, DL.tYesF, DL.bAddI, DL.bSub, DL.bMul, DL.bMod, DL.bFdiv, DL.bPow, DL.bMax2, DL.bMin2, DL.cLt, DL.cLe, DL.cGt, DL.cGe, List.set, List.map, List.length, List.length_cons, List.length_nil, List.replicate, List.nil_append, List.cons_append, List.append_nil, Option.isSome_some, Option.getD_some, Option.isSome_none, Bool.not_true, Bool.not_false, and_true, true_and, and_self, implies_true, Nat.zero_add, List.length_set, List.length_replicate, nev, sp]
    by_cases e : rs = []
    · subst e
      have e0 : textS [] = "" := rfl
      simp only [e0]
      exact ⟨⟨⟨⟨by decide +kernel, by decide +kernel⟩, by decide⟩, trivial⟩, rfl⟩
    · have d : decide (textS rs = "") = false := decide_eq_false (text_ne e)
      have d' : decide (textS rs = Str.ofString "") = false := d
      simp only [d', split_text e hrf]
      exact ⟨⟨⟨⟨tok, by decide +kernel⟩, ⟨by decide, by show _ ≤ 16000000; omega⟩⟩, trivial⟩, by show enu 0 (List.map D.str (rs.map lineS)) = _; rw [List.map_map]; rfl⟩) ?_
  refine loopD_get (fun i δ N => ∃ x2 x3 x4, δ = [some (.str (textS rs)), some (.ref a), x2, x3, x4] ∧ N a = some ⟨true, dR (rs.take i)⟩) ?_ ?_ ?_
  · exact ⟨_, _, _, rfl, updN_same⟩
  · rintro δ N ⟨x2, x3, x4, rfl, z1⟩
    rw [enu_length, List.length_map, List.take_length] at z1
    simp only [DL.sSetZ, DL.sRetZ, DL.sPar1, DL.sSeq, DL.sIf, DL.sSet, DL.sSetM, DL.sSetMN, DL.sAppN, DL.sSetMT, DL.sSetMS, DL.wLc, DL.wYes, DL.wPop, DL.wSl, DL.w1, DL.w1r, DL.lcW, DL.sFor, DL.sNext, DL.sRet, DL.sRetF, DL.sRetN, DL.sDrop, DL.sApp, DL.sAppR, DL.sSetIx, DL.sPar, DL.sParM, DL.sAsg, DL.wP, DL.wT, DL.wA, DL.wCall, DL.wCallP, DL.wACons, DL.wANil, DL.w2, DL.w2c, DL.w2t, DL.wIf, DL.wTup, DL.wLst, DL.wR1, DL.wAnd, DL.wOr, DL.wNot, DL.wTV, DL.pVar, DL.pInt, DL.pBl, DL.pStr, DL.pNon, DL.pDr, DL.pLf, DL.p1, DL.p2, DL.bI, DL.pc2, DL.tc2, DL.cI, DL.pAnd, DL.pOr, DL.pNot, DL.pIf, DL.pIsi, DL.pIsi2, DL.pChain, DL.tOf, DL.tNot1, DL.tAnd2, DL.tOr2, DL.tChn, DL.tIsN, DL.tNotN, DL.pIsN, DL.pNotN, DL.pNeg, DL.pSl, DL.pSlF, DL.pSlU, DL.pRev, DL.sfN, DL.sfS, DL.iU, DL.iL, DL.iR1, DL.iR2, DL.aCons, DL.aNil, DL.pLst, DL.pTup, DL.pLc, DL.pLcF, DL.pCall, DL.lV, DL.lIx, DL.lk, DL.startD, DL.ro, DL.gN, DL.gT, DL.gTL, DL.gC_cons, DL.gNl, DL.iS, DL.iE, DL.sAppC, DL.IsI_int, DL.toI_int, DL.IsB_bl, DL.toB_bl, DL.IsS_str, DL.toS_str, DL.IsL_lst, DL.IsU_tup, DL.IsQ_lst, DL.IsQ_tup, DL.toL_lst, DL.toL_tup, DL.drf_int, DL.drf_bl, DL.drf_str, DL.drf_non, DL.drf_lst, DL.drf_tup, DL.drf_obj, DL.drf_upd, DL.lenD_lst, DL.lenD_tup, DL.intD_int, DL.intD_bl, DL.rA_ref, DL.lf_int, DL.lf_bl, DL.lf_non, DL.lf_str, DL.lf_ref, DL.IsC_lst, DL.Ty_int, DL.Ty_tup, DL.Ty_lst, DL.Ty_bl, DL.Ty_str, DL.Ty_non, DL.wipeD, DL.ixQ, DL.tYesF, DL.bAddI, DL.bSub, DL.bMul, DL.bMod, DL.bFdiv, DL.bPow, DL.bMax2, DL.bMin2, DL.cLt, DL.cLe, DL.cGt, DL.cGe, List.set, List.map, List.length, List.length_cons, List.length_nil, List.replicate, List.nil_append, List.cons_append, List.append_nil, Option.isSome_some, Option.getD_some, Option.isSome_none, Bool.not_true, Bool.not_false, and_true, true_and, and_self, implies_true, Nat.zero_add, List.length_set, List.length_replicate]
    exact (RES_ref z1).mpr rfl
  · rintro i d0 δ N L hd0 hL ⟨x2, x3, x4, rfl, z1⟩
    rw [enu_get, List.getElem?_map] at hd0
    obtain ⟨d1, hd1, rfl⟩ := Option.map_eq_some_iff.mp hd0
    obtain ⟨r, hr, rfl⟩ := Option.map_eq_some_iff.mp hd1
    have hmem : r ∈ rs := List.mem_of_getElem? hr
    obtain ⟨hf, hm⟩ := h.rf1 hmem
    have rv := fun M => rowV (M := M) (h.one r hmem) hm
    refine ⟨by simp only [DL.sSetZ, DL.sRetZ, DL.sPar1, DL.sSeq, DL.sIf, DL.sSet, DL.sSetM, DL.sSetMN, DL.sAppN, DL.sSetMT, DL.sSetMS, DL.wLc, DL.wYes, DL.wPop, DL.wSl, DL.w1, DL.w1r, DL.lcW, DL.sFor, DL.sNext, DL.sRet, DL.sRetF, DL.sRetN, DL.sDrop, DL.sApp, DL.sAppR, DL.sSetIx, DL.sPar, DL.sParM, DL.sAsg, DL.wP, DL.wT, DL.wA, DL.wCall, DL.wCallP, DL.wACons, DL.wANil, DL.w2, DL.w2c, DL.w2t, DL.wIf, DL.wTup, DL.wLst, DL.wR1, DL.wAnd, DL.wOr, DL.wNot, DL.wTV, DL.pVar, DL.pInt, DL.pBl, DL.pStr, DL.pNon, DL.pDr, DL.pLf, DL.p1, DL.p2, DL.bI, DL.pc2, DL.tc2, DL.cI, DL.pAnd, DL.pOr, DL.pNot, DL.pIf, DL.pIsi, DL.pIsi2, DL.pChain, DL.tOf, DL.tNot1, DL.tAnd2, DL.tOr2, DL.tChn, DL.tIsN, DL.tNotN, DL.pIsN, DL.pNotN, DL.pNeg, DL.pSl, DL.pSlF, DL.pSlU, DL.pRev, DL.sfN, DL.sfS, DL.iU, DL.iL, DL.iR1, DL.iR2, DL.aCons, DL.aNil, DL.pLst, DL.pTup, DL.pLc, DL.pLcF, DL.pCall, DL.lV, DL.lIx, DL.lk, DL.startD, DL.ro, DL.gN, DL.gT, DL.gTL, DL.gC_cons, DL.gNl, DL.iS, DL.iE, DL.sAppC, DL.IsI_int, DL.toI_int, DL.IsB_bl, DL.toB_bl, DL.IsS_str, DL.toS_str, DL.IsL_lst, DL.IsU_tup, DL.IsQ_lst, DL.IsQ_tup, DL.toL_lst, DL.toL_tup, DL.drf_int, DL.drf_bl, DL.drf_str, DL.drf_non, DL.drf_lst, DL.drf_tup, DL.drf_obj, DL.drf_upd, DL.lenD_lst, DL.lenD_tup, DL.intD_int, DL.intD_bl, DL.rA_ref, DL.lf_int, DL.lf_bl, DL.lf_non, DL.lf_str, DL.lf_ref, DL.IsC_lst, DL.Ty_int, DL.Ty_tup, DL.Ty_lst, DL.Ty_bl, DL.Ty_str, DL.Ty_non, DL.wipeD, DL.ixQ, DL.tYesF, DL.bAddI, DL.bSub, DL.bMul, DL.bMod, DL.bFdiv, DL.bPow, DL.bMax2, DL.bMin2, DL.cLt, DL.cLe, DL.cGt, DL.cGe, List.set, List.map, List.length, List.length_cons, List.length_nil, List.replicate, List.nil_append, List.cons_append, List.append_nil, Option.isSome_some, Option.getD_some, Option.isSome_none, Bool.not_true, Bool.not_false, and_true, true_and, and_self, implies_true, Nat.zero_add, List.length_set, List.length_replicate]; decide, ?_⟩
    show sSeq _ _ _ [some (.str (textS rs)), some (.ref a), some (.int ((0 + i : Nat) : Int)), some (.str (lineS r)), x4] N
    refine st_set (rowD r) (by
      simp only [DL.sSetZ, DL.sRetZ, DL.sPar1, DL.sSeq, DL.sIf, DL.sSet, DL.sSetM, DL.sSetMN, DL.sAppN, DL.sSetMT, DL.sSetMS, DL.wLc, DL.wYes, DL.wPop, DL.wSl, DL.w1, DL.w1r, DL.lcW, DL.sFor, DL.sNext, DL.sRet, DL.sRetF, DL.sRetN, DL.sDrop, DL.sApp, DL.sAppR, DL.sSetIx, DL.sPar, DL.sParM, DL.sAsg, DL.wP, DL.wT, DL.wA, DL.wCall, DL.wCallP, DL.wACons, DL.wANil, DL.w2, DL.w2c, DL.w2t, DL.wIf, DL.wTup, DL.wLst, DL.wR1, DL.wAnd, DL.wOr, DL.wNot, DL.wTV, DL.pVar, DL.pInt, DL.pBl, DL.pStr, DL.pNon, DL.pDr, DL.pLf, DL.p1, DL.p2, DL.bI, DL.pc2, DL.tc2, DL.cI, DL.pAnd, DL.pOr, DL.pNot, DL.pIf, DL.pIsi, DL.pIsi2, DL.pChain, DL.tOf, DL.tNot1, DL.tAnd2, DL.tOr2, DL.tChn, DL.tIsN, DL.tNotN, DL.pIsN, DL.pNotN, DL.pNeg, DL.pSl, DL.pSlF, DL.pSlU, DL.pRev, DL.sfN, DL.sfS, DL.iU, DL.iL, DL.iR1, DL.iR2, DL.aCons, DL.aNil, DL.pLst, DL.pTup, DL.pLc, DL.pLcF, DL.pCall, DL.lV, DL.lIx, DL.lk, DL.startD, DL.ro, DL.gN, DL.gT, DL.gTL, DL.gC_cons, DL.gNl, DL.iS, DL.iE, DL.sAppC, DL.IsI_int, DL.toI_int, DL.IsB_bl, DL.toB_bl, DL.IsS_str, DL.toS_str, DL.IsL_lst, DL.IsU_tup, DL.IsQ_lst, DL.IsQ_tup, DL.toL_lst, DL.toL_tup, DL.drf_int, DL.drf_bl, DL.drf_str, DL.drf_non, DL.drf_lst, DL.drf_tup, DL.drf_obj, DL.drf_upd, DL.lenD_lst, DL.lenD_tup, DL.intD_int, DL.intD_bl, DL.rA_ref, DL.lf_int, DL.lf_bl, DL.lf_non, DL.lf_str, DL.lf_ref, DL.IsC_lst, DL.Ty_int, DL.Ty_tup, DL.Ty_lst, DL.Ty_bl, DL.Ty_str, DL.Ty_non, DL.wipeD, DL.ixQ, DL.tYesF, DL.bAddI, DL.bSub, DL.bMul, DL.bMod, DL.bFdiv, DL.bPow, DL.bMax2, DL.bMin2, DL.cLt, DL.cLe, DL.cGt, DL.cGe, List.set, List.map, List.length, List.length_cons, List.length_nil, List.replicate, List.nil_append, List.cons_append, List.append_nil, Option.isSome_some, Option.getD_some, Option.isSome_none, Bool.not_true, Bool.not_false, and_true, true_and, and_self, implies_true, Nat.zero_add, List.length_set, List.length_replicate, sp]
      have ll := line_len hf
      have e : Txt.split (lineS r) (Str.ofString " ") = wordsOf r := split_line hf
      rw [e]
      exact ⟨⟨⟨by decide, by show _ ≤ 16000000; omega⟩, (rv _).1⟩, (rv _).2⟩) rfl ?_
    refine st_ifF (by simp only [DL.sSetZ, DL.sRetZ, DL.sPar1, DL.sSeq, DL.sIf, DL.sSet, DL.sSetM, DL.sSetMN, DL.sAppN, DL.sSetMT, DL.sSetMS, DL.wLc, DL.wYes, DL.wPop, DL.wSl, DL.w1, DL.w1r, DL.lcW, DL.sFor, DL.sNext, DL.sRet, DL.sRetF, DL.sRetN, DL.sDrop, DL.sApp, DL.sAppR, DL.sSetIx, DL.sPar, DL.sParM, DL.sAsg, DL.wP, DL.wT, DL.wA, DL.wCall, DL.wCallP, DL.wACons, DL.wANil, DL.w2, DL.w2c, DL.w2t, DL.wIf, DL.wTup, DL.wLst, DL.wR1, DL.wAnd, DL.wOr, DL.wNot, DL.wTV, DL.pVar, DL.pInt, DL.pBl, DL.pStr, DL.pNon, DL.pDr, DL.pLf, DL.p1, DL.p2, DL.bI, DL.pc2, DL.tc2, DL.cI, DL.pAnd, DL.pOr, DL.pNot, DL.pIf, DL.pIsi, DL.pIsi2, DL.pChain, DL.tOf, DL.tNot1, DL.tAnd2, DL.tOr2, DL.tChn, DL.tIsN, DL.tNotN, DL.pIsN, DL.pNotN, DL.pNeg, DL.pSl, DL.pSlF, DL.pSlU, DL.pRev, DL.sfN, DL.sfS, DL.iU, DL.iL, DL.iR1, DL.iR2, DL.aCons, DL.aNil, DL.pLst, DL.pTup, DL.pLc, DL.pLcF, DL.pCall, DL.lV, DL.lIx, DL.lk, DL.startD, DL.ro, DL.gN, DL.gT, DL.gTL, DL.gC_cons, DL.gNl, DL.iS, DL.iE, DL.sAppC, DL.IsI_int, DL.toI_int, DL.IsB_bl, DL.toB_bl, DL.IsS_str, DL.toS_str, DL.IsL_lst, DL.IsU_tup, DL.IsQ_lst, DL.IsQ_tup, DL.toL_lst, DL.toL_tup, DL.drf_int, DL.drf_bl, DL.drf_str, DL.drf_non, DL.drf_lst, DL.drf_tup, DL.drf_obj, DL.drf_upd, DL.lenD_lst, DL.lenD_tup, DL.intD_int, DL.intD_bl, DL.rA_ref, DL.lf_int, DL.lf_bl, DL.lf_non, DL.lf_str, DL.lf_ref, DL.IsC_lst, DL.Ty_int, DL.Ty_tup, DL.Ty_lst, DL.Ty_bl, DL.Ty_str, DL.Ty_non, DL.wipeD, DL.ixQ, DL.tYesF, DL.bAddI, DL.bSub, DL.bMul, DL.bMod, DL.bFdiv, DL.bPow, DL.bMax2, DL.bMin2, DL.cLt, DL.cLe, DL.cGt, DL.cGe, List.set, List.map, List.length, List.length_cons, List.length_nil, List.replicate, List.nil_append, List.cons_append, List.append_nil, Option.isSome_some, Option.getD_some, Option.isSome_none, Bool.not_true, Bool.not_false, and_true, true_and, and_self, implies_true, Nat.zero_add, List.length_set, List.length_replicate, drf_row, IsQ_row, rat0, rat1, rat2, rat3, lf_row_]; rfl) ?_
    refine st_app1 (a := a) (π := []) (rowD r) (by simp only [DL.sSetZ, DL.sRetZ, DL.sPar1, DL.sSeq, DL.sIf, DL.sSet, DL.sSetM, DL.sSetMN, DL.sAppN, DL.sSetMT, DL.sSetMS, DL.wLc, DL.wYes, DL.wPop, DL.wSl, DL.w1, DL.w1r, DL.lcW, DL.sFor, DL.sNext, DL.sRet, DL.sRetF, DL.sRetN, DL.sDrop, DL.sApp, DL.sAppR, DL.sSetIx, DL.sPar, DL.sParM, DL.sAsg, DL.wP, DL.wT, DL.wA, DL.wCall, DL.wCallP, DL.wACons, DL.wANil, DL.w2, DL.w2c, DL.w2t, DL.wIf, DL.wTup, DL.wLst, DL.wR1, DL.wAnd, DL.wOr, DL.wNot, DL.wTV, DL.pVar, DL.pInt, DL.pBl, DL.pStr, DL.pNon, DL.pDr, DL.pLf, DL.p1, DL.p2, DL.bI, DL.pc2, DL.tc2, DL.cI, DL.pAnd, DL.pOr, DL.pNot, DL.pIf, DL.pIsi, DL.pIsi2, DL.pChain, DL.tOf, DL.tNot1, DL.tAnd2, DL.tOr2, DL.tChn, DL.tIsN, DL.tNotN, DL.pIsN, DL.pNotN, DL.pNeg, DL.pSl, DL.pSlF, DL.pSlU, DL.pRev, DL.sfN, DL.sfS, DL.iU, DL.iL, DL.iR1, DL.iR2, DL.aCons, DL.aNil, DL.pLst, DL.pTup, DL.pLc, DL.pLcF, DL.pCall, DL.lV, DL.lIx, DL.lk, DL.startD, DL.ro, DL.gN, DL.gT, DL.gTL, DL.gC_cons, DL.gNl, DL.iS, DL.iE, DL.sAppC, DL.IsI_int, DL.toI_int, DL.IsB_bl, DL.toB_bl, DL.IsS_str, DL.toS_str, DL.IsL_lst, DL.IsU_tup, DL.IsQ_lst, DL.IsQ_tup, DL.toL_lst, DL.toL_tup, DL.drf_int, DL.drf_bl, DL.drf_str, DL.drf_non, DL.drf_lst, DL.drf_tup, DL.drf_obj, DL.drf_upd, DL.lenD_lst, DL.lenD_tup, DL.intD_int, DL.intD_bl, DL.rA_ref, DL.lf_int, DL.lf_bl, DL.lf_non, DL.lf_str, DL.lf_ref, DL.IsC_lst, DL.Ty_int, DL.Ty_tup, DL.Ty_lst, DL.Ty_bl, DL.Ty_str, DL.Ty_non, DL.wipeD, DL.ixQ, DL.tYesF, DL.bAddI, DL.bSub, DL.bMul, DL.bMod, DL.bFdiv, DL.bPow, DL.bMax2, DL.bMin2, DL.cLt, DL.cLe, DL.cGt, DL.cGe, List.set, List.map, List.length, List.length_cons, List.length_nil, List.replicate, List.nil_append, List.cons_append, List.append_nil, Option.isSome_some, Option.getD_some, Option.isSome_none, Bool.not_true, Bool.not_false, and_true, true_and, and_self, implies_true, Nat.zero_add, List.length_set, List.length_replicate, drf_row, IsQ_row, rat0, rat1, rat2, rat3, lf_row_]) (by simp only [DL.sSetZ, DL.sRetZ, DL.sPar1, DL.sSeq, DL.sIf, DL.sSet, DL.sSetM, DL.sSetMN, DL.sAppN, DL.sSetMT, DL.sSetMS, DL.wLc, DL.wYes, DL.wPop, DL.wSl, DL.w1, DL.w1r, DL.lcW, DL.sFor, DL.sNext, DL.sRet, DL.sRetF, DL.sRetN, DL.sDrop, DL.sApp, DL.sAppR, DL.sSetIx, DL.sPar, DL.sParM, DL.sAsg, DL.wP, DL.wT, DL.wA, DL.wCall, DL.wCallP, DL.wACons, DL.wANil, DL.w2, DL.w2c, DL.w2t, DL.wIf, DL.wTup, DL.wLst, DL.wR1, DL.wAnd, DL.wOr, DL.wNot, DL.wTV, DL.pVar, DL.pInt, DL.pBl, DL.pStr, DL.pNon, DL.pDr, DL.pLf, DL.p1, DL.p2, DL.bI, DL.pc2, DL.tc2, DL.cI, DL.pAnd, DL.pOr, DL.pNot, DL.pIf, DL.pIsi, DL.pIsi2, DL.pChain, DL.tOf, DL.tNot1, DL.tAnd2, DL.tOr2, DL.tChn, DL.tIsN, DL.tNotN, DL.pIsN, DL.pNotN, DL.pNeg, DL.pSl, DL.pSlF, DL.pSlU, DL.pRev, DL.sfN, DL.sfS, DL.iU, DL.iL, DL.iR1, DL.iR2, DL.aCons, DL.aNil, DL.pLst, DL.pTup, DL.pLc, DL.pLcF, DL.pCall, DL.lV, DL.lIx, DL.lk, DL.startD, DL.ro, DL.gN, DL.gT, DL.gTL, DL.gC_cons, DL.gNl, DL.iS, DL.iE, DL.sAppC, DL.IsI_int, DL.toI_int, DL.IsB_bl, DL.toB_bl, DL.IsS_str, DL.toS_str, DL.IsL_lst, DL.IsU_tup, DL.IsQ_lst, DL.IsQ_tup, DL.toL_lst, DL.toL_tup, DL.drf_int, DL.drf_bl, DL.drf_str, DL.drf_non, DL.drf_lst, DL.drf_tup, DL.drf_obj, DL.drf_upd, DL.lenD_lst, DL.lenD_tup, DL.intD_int, DL.intD_bl, DL.rA_ref, DL.lf_int, DL.lf_bl, DL.lf_non, DL.lf_str, DL.lf_ref, DL.IsC_lst, DL.Ty_int, DL.Ty_tup, DL.Ty_lst, DL.Ty_bl, DL.Ty_str, DL.Ty_non, DL.wipeD, DL.ixQ, DL.tYesF, DL.bAddI, DL.bSub, DL.bMul, DL.bMod, DL.bFdiv, DL.bPow, DL.bMax2, DL.bMin2, DL.cLt, DL.cLe, DL.cGt, DL.cGe, List.set, List.map, List.length, List.length_cons, List.length_nil, List.replicate, List.nil_append, List.cons_append, List.append_nil, Option.isSome_some, Option.getD_some, Option.isSome_none, Bool.not_true, Bool.not_false, and_true, true_and, and_self, implies_true, Nat.zero_add, List.length_set, List.length_replicate]) z1 sub_nil (by rw [List.length_map, List.length_take]; show _ < 16000000; omega) ?_
    refine hL _ _ ⟨_, _, _, rfl, ?_⟩
    rw [updN_same, put_nil, List.take_succ, hr]
    simp only [dR, List.map_append]; rfl
theorem r_written (ds : List D) (M : Nm) (hl : ds.length = 1) (h : (ph_written ds M).ok) : w_written { nx := fun _ _ => (ph_written ds M).val = .non, rt := fun d M' => RES M' d (ph_written ds M).val } (startD n_written.length ds) (ro M) := by
  obtain ⟨rs, rfl, h⟩ := h
  have ev : (ph_written [dR rs] M).val = .str (textS rs) := by
    show D.str (textS (toRs (dR rs))) = _
    rw [toRs_dR]
  rw [ev]
  have hn := h.n
  have hrf : ∀ r ∈ rs, RF r := fun r hr => (h.rf1 hr).1
  have sg : ∀ i : Int, 0 ≤ i → i ≤ 999 → strD (.int i) = ⟨True, .str (numS i)⟩ := fun i h0 h1 => by
    unfold strD
    rw [toI_int]
    congr 1
    refine eq_true ⟨trivial, ?_⟩
    have : ∀ n : Fin 1000, n.val.log2 < 1920 := by decide +kernel
    exact this ⟨i.natAbs, by omega⟩
  show w_written _ [some (dR rs), none, none, none, none, none, none] _
  unfold w_written
  refine (st_drop (by simp only [DL.sSetZ, DL.sRetZ, DL.sPar1, DL.sSeq, DL.sIf, DL.sSet, DL.sSetM, DL.sSetMN, DL.sAppN, DL.sSetMT, DL.sSetMS, DL.wLc, DL.wYes, DL.wPop, DL.wSl, DL.w1, DL.w1r, DL.lcW, DL.sFor, DL.sNext, DL.sRet, DL.sRetF, DL.sRetN, DL.sDrop, DL.sApp, DL.sAppR, DL.sSetIx, DL.sPar, DL.sParM, DL.sAsg, DL.wP, DL.wT, DL.wA, DL.wCall, DL.wCallP, DL.wACons, DL.wANil, DL.w2, DL.w2c, DL.w2t, DL.wIf, DL.wTup, DL.wLst, DL.wR1, DL.wAnd, DL.wOr, DL.wNot, DL.wTV, DL.pVar, DL.pInt, DL.pBl, DL.pStr, DL.pNon, DL.pDr, DL.pLf, DL.p1, DL.p2, DL.bI, DL.pc2, DL.tc2, DL.cI, DL.pAnd, DL.pOr, DL.pNot, DL.pIf, DL.pIsi, DL.pIsi2, DL.pChain, DL.tOf, DL.tNot1, DL.tAnd2, DL.tOr2, DL.tChn, DL.tIsN, DL.tNotN, DL.pIsN, DL.pNotN, DL.pNeg, DL.pSl, DL.pSlF, DL.pSlU, DL.pRev, DL.sfN, DL.sfS, DL.iU, DL.iL, DL.iR1, DL.iR2, DL.aCons, DL.aNil, DL.pLst, DL.pTup, DL.pLc, DL.pLcF, DL.pCall, DL.lV, DL.lIx, DL.lk, DL.startD, DL.ro, DL.gN, DL.gT, DL.gTL, DL.gC_cons, DL.gNl, DL.iS, DL.iE, DL.sAppC, DL.IsI_int, DL.toI_int, DL.IsB_bl, DL.toB_bl, DL.IsS_str, DL.toS_str, DL.IsL_lst, DL.IsU_tup, DL.IsQ_lst, DL.IsQ_tup, DL.toL_lst, DL.toL_tup, DL.drf_int, DL.drf_bl, DL.drf_str, DL.drf_non, DL.drf_lst, DL.drf_tup, DL.drf_obj, DL.drf_upd, DL.lenD_lst, DL.lenD_tup, DL.intD_int, DL.intD_bl, DL.rA_ref, DL.lf_int, DL.lf_bl, DL.lf_non, DL.lf_str, DL.lf_ref, DL.IsC_lst, DL.Ty_int, DL.Ty_tup, DL.Ty_lst, DL.Ty_bl, DL.Ty_str, DL.Ty_non, DL.wipeD, DL.ixQ, DL.tYesF, DL.bAddI, DL.bSub, DL.bMul, DL.bMod, DL.bFdiv, DL.bPow, DL.bMax2, DL.bMin2, DL.cLt, DL.cLe, DL.cGt, DL.cGe, List.set, List.map, List.length, List.length_cons, List.length_nil, List.replicate, List.nil_append, List.cons_append, List.append_nil, Option.isSome_some, Option.getD_some, Option.isSome_none, Bool.not_true, Bool.not_false, and_true, true_and, and_self, implies_true, Nat.zero_add, List.length_set, List.length_replicate]; exact ⟨rs, 0, 900, rfl, h⟩) ?_)
  refine st_setM (.lst []) (by simp only [DL.sSetZ, DL.sRetZ, DL.sPar1, DL.sSeq, DL.sIf, DL.sSet, DL.sSetM, DL.sSetMN, DL.sAppN, DL.sSetMT, DL.sSetMS, DL.wLc, DL.wYes, DL.wPop, DL.wSl, DL.w1, DL.w1r, DL.lcW, DL.sFor, DL.sNext, DL.sRet, DL.sRetF, DL.sRetN, DL.sDrop, DL.sApp, DL.sAppR, DL.sSetIx, DL.sPar, DL.sParM, DL.sAsg, DL.wP, DL.wT, DL.wA, DL.wCall, DL.wCallP, DL.wACons, DL.wANil, DL.w2, DL.w2c, DL.w2t, DL.wIf, DL.wTup, DL.wLst, DL.wR1, DL.wAnd, DL.wOr, DL.wNot, DL.wTV, DL.pVar, DL.pInt, DL.pBl, DL.pStr, DL.pNon, DL.pDr, DL.pLf, DL.p1, DL.p2, DL.bI, DL.pc2, DL.tc2, DL.cI, DL.pAnd, DL.pOr, DL.pNot, DL.pIf, DL.pIsi, DL.pIsi2, DL.pChain, DL.tOf, DL.tNot1, DL.tAnd2, DL.tOr2, DL.tChn, DL.tIsN, DL.tNotN, DL.pIsN, DL.pNotN, DL.pNeg, DL.pSl, DL.pSlF, DL.pSlU, DL.pRev, DL.sfN, DL.sfS, DL.iU, DL.iL, DL.iR1, DL.iR2, DL.aCons, DL.aNil, DL.pLst, DL.pTup, DL.pLc, DL.pLcF, DL.pCall, DL.lV, DL.lIx, DL.lk, DL.startD, DL.ro, DL.gN, DL.gT, DL.gTL, DL.gC_cons, DL.gNl, DL.iS, DL.iE, DL.sAppC, DL.IsI_int, DL.toI_int, DL.IsB_bl, DL.toB_bl, DL.IsS_str, DL.toS_str, DL.IsL_lst, DL.IsU_tup, DL.IsQ_lst, DL.IsQ_tup, DL.toL_lst, DL.toL_tup, DL.drf_int, DL.drf_bl, DL.drf_str, DL.drf_non, DL.drf_lst, DL.drf_tup, DL.drf_obj, DL.drf_upd, DL.lenD_lst, DL.lenD_tup, DL.intD_int, DL.intD_bl, DL.rA_ref, DL.lf_int, DL.lf_bl, DL.lf_non, DL.lf_str, DL.lf_ref, DL.IsC_lst, DL.Ty_int, DL.Ty_tup, DL.Ty_lst, DL.Ty_bl, DL.Ty_str, DL.Ty_non, DL.wipeD, DL.ixQ, DL.tYesF, DL.bAddI, DL.bSub, DL.bMul, DL.bMod, DL.bFdiv, DL.bPow, DL.bMax2, DL.bMin2, DL.cLt, DL.cLe, DL.cGt, DL.cGe, List.set, List.map, List.length, List.length_cons, List.length_nil, List.replicate, List.nil_append, List.cons_append, List.append_nil, Option.isSome_some, Option.getD_some, Option.isSome_none, Bool.not_true, Bool.not_false, and_true, true_and, and_self, implies_true, Nat.zero_add, List.length_set, List.length_replicate]; decide) trivial fun a ha => ?_
  refine st_for (rs.map rowD) (by simp only [DL.sSetZ, DL.sRetZ, DL.sPar1, DL.sSeq, DL.sIf, DL.sSet, DL.sSetM, DL.sSetMN, DL.sAppN, DL.sSetMT, DL.sSetMS, DL.wLc, DL.wYes, DL.wPop, DL.wSl, DL.w1, DL.w1r, DL.lcW, DL.sFor, DL.sNext, DL.sRet, DL.sRetF, DL.sRetN, DL.sDrop, DL.sApp, DL.sAppR, DL.sSetIx, DL.sPar, DL.sParM, DL.sAsg, DL.wP, DL.wT, DL.wA, DL.wCall, DL.wCallP, DL.wACons, DL.wANil, DL.w2, DL.w2c, DL.w2t, DL.wIf, DL.wTup, DL.wLst, DL.wR1, DL.wAnd, DL.wOr, DL.wNot, DL.wTV, DL.pVar, DL.pInt, DL.pBl, DL.pStr, DL.pNon, DL.pDr, DL.pLf, DL.p1, DL.p2, DL.bI, DL.pc2, DL.tc2, DL.cI, DL.pAnd, DL.pOr, DL.pNot, DL.pIf, DL.pIsi, DL.pIsi2, DL.pChain, DL.tOf, DL.tNot1, DL.tAnd2, DL.tOr2, DL.tChn, DL.tIsN, DL.tNotN, DL.pIsN, DL.pNotN, DL.pNeg, DL.pSl, DL.pSlF, DL.pSlU, DL.pRev, DL.sfN, DL.sfS, DL.iU, DL.iL, DL.iR1, DL.iR2, DL.aCons, DL.aNil, DL.pLst, DL.pTup, DL.pLc, DL.pLcF, DL.pCall, DL.lV, DL.lIx, DL.lk, DL.startD, DL.ro, DL.gN, DL.gT, DL.gTL, DL.gC_cons, DL.gNl, DL.iS, DL.iE, DL.sAppC, DL.IsI_int, DL.toI_int, DL.IsB_bl, DL.toB_bl, DL.IsS_str, DL.toS_str, DL.IsL_lst, DL.IsU_tup, DL.IsQ_lst, DL.IsQ_tup, DL.toL_lst, DL.toL_tup, DL.drf_int, DL.drf_bl, DL.drf_str, DL.drf_non, DL.drf_lst, DL.drf_tup, DL.drf_obj, DL.drf_upd, DL.lenD_lst, DL.lenD_tup, DL.intD_int, DL.intD_bl, DL.rA_ref, DL.lf_int, DL.lf_bl, DL.lf_non, DL.lf_str, DL.lf_ref, DL.IsC_lst, DL.Ty_int, DL.Ty_tup, DL.Ty_lst, DL.Ty_bl, DL.Ty_str, DL.Ty_non, DL.wipeD, DL.ixQ, DL.tYesF, DL.bAddI, DL.bSub, DL.bMul, DL.bMod, DL.bFdiv, DL.bPow, DL.bMax2, DL.bMin2, DL.cLt, DL.cLe, DL.cGt, DL.cGe, List.set, List.map, List.length, List.length_cons, List.length_nil, List.replicate, List.nil_append, List.cons_append, List.append_nil, Option.isSome_some, Option.getD_some, Option.isSome_none, Bool.not_true, Bool.not_false, and_true, true_and, and_self, implies_true, Nat.zero_add, List.length_set, List.length_replicate]) ?_
  refine loopD_get (fun i δ N => ∃ x2 x3 x4 x5 x6, δ = [some (dR rs), some (.ref a), x2, x3, x4, x5, x6] ∧ N a = some ⟨true, .lst ((rs.take i).map fun r => .str (lineS r))⟩) ?_ ?_ ?_
  · exact ⟨_, _, _, _, _, rfl, updN_same⟩
  · rintro δ N ⟨x2, x3, x4, x5, x6, rfl, z1⟩
    rw [List.length_map, List.take_length] at z1
    have da : drf N (.ref a) = .lst (rs.map fun r => .str (lineS r)) := drf_ref z1
    simp only [DL.sSetZ, DL.sRetZ, DL.sPar1, DL.sSeq, DL.sIf, DL.sSet, DL.sSetM, DL.sSetMN, DL.sAppN, DL.sSetMT, DL.sSetMS, DL.wLc, DL.wYes, DL.wPop, DL.wSl, DL.w1, DL.w1r, DL.lcW, DL.sFor, DL.sNext, DL.sRet, DL.sRetF, DL.sRetN, DL.sDrop, DL.sApp, DL.sAppR, DL.sSetIx, DL.sPar, DL.sParM, DL.sAsg, DL.wP, DL.wT, DL.wA, DL.wCall, DL.wCallP, DL.wACons, DL.wANil, DL.w2, DL.w2c, DL.w2t, DL.wIf, DL.wTup, DL.wLst, DL.wR1, DL.wAnd, DL.wOr, DL.wNot, DL.wTV, DL.pVar, DL.pInt, DL.pBl, DL.pStr, DL.pNon, DL.pDr, DL.pLf, DL.p1, DL.p2, DL.bI, DL.pc2, DL.tc2, DL.cI, DL.pAnd, DL.pOr, DL.pNot, DL.pIf, DL.pIsi, DL.pIsi2, DL.pChain, DL.tOf, DL.tNot1, DL.tAnd2, DL.tOr2, DL.tChn, DL.tIsN, DL.tNotN, DL.pIsN, DL.pNotN, DL.pNeg, DL.pSl, DL.pSlF, DL.pSlU, DL.pRev, DL.sfN, DL.sfS, DL.iU, DL.iL, DL.iR1, DL.iR2, DL.aCons, DL.aNil, DL.pLst, DL.pTup, DL.pLc, DL.pLcF, DL.pCall, DL.lV, DL.lIx, DL.lk, DL.startD, DL.ro, DL.gN, DL.gT, DL.gTL, DL.gC_cons, DL.gNl, DL.iS, DL.iE, DL.sAppC, DL.IsI_int, DL.toI_int, DL.IsB_bl, DL.toB_bl, DL.IsS_str, DL.toS_str, DL.IsL_lst, DL.IsU_tup, DL.IsQ_lst, DL.IsQ_tup, DL.toL_lst, DL.toL_tup, DL.drf_int, DL.drf_bl, DL.drf_str, DL.drf_non, DL.drf_lst, DL.drf_tup, DL.drf_obj, DL.drf_upd, DL.lenD_lst, DL.lenD_tup, DL.intD_int, DL.intD_bl, DL.rA_ref, DL.lf_int, DL.lf_bl, DL.lf_non, DL.lf_str, DL.lf_ref, DL.IsC_lst, DL.Ty_int, DL.Ty_tup, DL.Ty_lst, DL.Ty_bl, DL.Ty_str, DL.Ty_non, DL.wipeD, DL.ixQ, DL.tYesF, DL.bAddI, DL.bSub, DL.bMul, DL.bMod, DL.bFdiv, DL.bPow, DL.bMax2, DL.bMin2, DL.cLt, DL.cLe, DL.cGt, DL.cGe, List.set, List.map, List.length, List.length_cons, List.length_nil, List.replicate, List.nil_append, List.cons_append, List.append_nil, Option.isSome_some, Option.getD_some, Option.isSome_none, Bool.not_true, Bool.not_false, and_true, true_and, and_self, implies_true, Nat.zero_add, List.length_set, List.length_replicate, da]
    have e : rs.map (fun r => D.str (lineS r)) = (rs.map lineS).map D.str := by rw [List.map_map]; rfl
    have hs := sum_lines hrf
    rw [e, joinV (by simp only [List.length_map]; show _ + _ * 1 ≤ 16000000; omega)]
    exact ⟨trivial, RES_str.mpr rfl⟩
  · rintro i d0 δ N L hd0 hL ⟨x2, x3, x4, x5, x6, rfl, z1⟩
    rw [List.getElem?_map] at hd0
    obtain ⟨r, hr, rfl⟩ := Option.map_eq_some_iff.mp hd0
    have hmem : r ∈ rs := List.mem_of_getElem? hr
    obtain ⟨hf, hm⟩ := h.rf1 hmem
    refine ⟨by simp only [rowD, DL.sSetZ, DL.sRetZ, DL.sPar1, DL.sSeq, DL.sIf, DL.sSet, DL.sSetM, DL.sSetMN, DL.sAppN, DL.sSetMT, DL.sSetMS, DL.wLc, DL.wYes, DL.wPop, DL.wSl, DL.w1, DL.w1r, DL.lcW, DL.sFor, DL.sNext, DL.sRet, DL.sRetF, DL.sRetN, DL.sDrop, DL.sApp, DL.sAppR, DL.sSetIx, DL.sPar, DL.sParM, DL.sAsg, DL.wP, DL.wT, DL.wA, DL.wCall, DL.wCallP, DL.wACons, DL.wANil, DL.w2, DL.w2c, DL.w2t, DL.wIf, DL.wTup, DL.wLst, DL.wR1, DL.wAnd, DL.wOr, DL.wNot, DL.wTV, DL.pVar, DL.pInt, DL.pBl, DL.pStr, DL.pNon, DL.pDr, DL.pLf, DL.p1, DL.p2, DL.bI, DL.pc2, DL.tc2, DL.cI, DL.pAnd, DL.pOr, DL.pNot, DL.pIf, DL.pIsi, DL.pIsi2, DL.pChain, DL.tOf, DL.tNot1, DL.tAnd2, DL.tOr2, DL.tChn, DL.tIsN, DL.tNotN, DL.pIsN, DL.pNotN, DL.pNeg, DL.pSl, DL.pSlF, DL.pSlU, DL.pRev, DL.sfN, DL.sfS, DL.iU, DL.iL, DL.iR1, DL.iR2, DL.aCons, DL.aNil, DL.pLst, DL.pTup, DL.pLc, DL.pLcF, DL.pCall, DL.lV, DL.lIx, DL.lk, DL.startD, DL.ro, DL.gN, DL.gT, DL.gTL, DL.gC_cons, DL.gNl, DL.iS, DL.iE, DL.sAppC, DL.IsI_int, DL.toI_int, DL.IsB_bl, DL.toB_bl, DL.IsS_str, DL.toS_str, DL.IsL_lst, DL.IsU_tup, DL.IsQ_lst, DL.IsQ_tup, DL.toL_lst, DL.toL_tup, DL.drf_int, DL.drf_bl, DL.drf_str, DL.drf_non, DL.drf_lst, DL.drf_tup, DL.drf_obj, DL.drf_upd, DL.lenD_lst, DL.lenD_tup, DL.intD_int, DL.intD_bl, DL.rA_ref, DL.lf_int, DL.lf_bl, DL.lf_non, DL.lf_str, DL.lf_ref, DL.IsC_lst, DL.Ty_int, DL.Ty_tup, DL.Ty_lst, DL.Ty_bl, DL.Ty_str, DL.Ty_non, DL.wipeD, DL.ixQ, DL.tYesF, DL.bAddI, DL.bSub, DL.bMul, DL.bMod, DL.bFdiv, DL.bPow, DL.bMax2, DL.bMin2, DL.cLt, DL.cLe, DL.cGt, DL.cGe, List.set, List.map, List.length, List.length_cons, List.length_nil, List.replicate, List.nil_append, List.cons_append, List.append_nil, Option.isSome_some, Option.getD_some, Option.isSome_none, Bool.not_true, Bool.not_false, and_true, true_and, and_self, implies_true, Nat.zero_add, List.length_set, List.length_replicate]; decide, ?_⟩
    show sSeq _ _ _ [some (dR rs), some (.ref a), some (.int r.id), some (.str (kindS r.live)), some (.int r.len), some (moD r.mo), x6] N
    refine st_set (.lst ((wordsOf r).map D.str)) (by
      simp only [DL.sSetZ, DL.sRetZ, DL.sPar1, DL.sSeq, DL.sIf, DL.sSet, DL.sSetM, DL.sSetMN, DL.sAppN, DL.sSetMT, DL.sSetMS, DL.wLc, DL.wYes, DL.wPop, DL.wSl, DL.w1, DL.w1r, DL.lcW, DL.sFor, DL.sNext, DL.sRet, DL.sRetF, DL.sRetN, DL.sDrop, DL.sApp, DL.sAppR, DL.sSetIx, DL.sPar, DL.sParM, DL.sAsg, DL.wP, DL.wT, DL.wA, DL.wCall, DL.wCallP, DL.wACons, DL.wANil, DL.w2, DL.w2c, DL.w2t, DL.wIf, DL.wTup, DL.wLst, DL.wR1, DL.wAnd, DL.wOr, DL.wNot, DL.wTV, DL.pVar, DL.pInt, DL.pBl, DL.pStr, DL.pNon, DL.pDr, DL.pLf, DL.p1, DL.p2, DL.bI, DL.pc2, DL.tc2, DL.cI, DL.pAnd, DL.pOr, DL.pNot, DL.pIf, DL.pIsi, DL.pIsi2, DL.pChain, DL.tOf, DL.tNot1, DL.tAnd2, DL.tOr2, DL.tChn, DL.tIsN, DL.tNotN, DL.pIsN, DL.pNotN, DL.pNeg, DL.pSl, DL.pSlF, DL.pSlU, DL.pRev, DL.sfN, DL.sfS, DL.iU, DL.iL, DL.iR1, DL.iR2, DL.aCons, DL.aNil, DL.pLst, DL.pTup, DL.pLc, DL.pLcF, DL.pCall, DL.lV, DL.lIx, DL.lk, DL.startD, DL.ro, DL.gN, DL.gT, DL.gTL, DL.gC_cons, DL.gNl, DL.iS, DL.iE, DL.sAppC, DL.IsI_int, DL.toI_int, DL.IsB_bl, DL.toB_bl, DL.IsS_str, DL.toS_str, DL.IsL_lst, DL.IsU_tup, DL.IsQ_lst, DL.IsQ_tup, DL.toL_lst, DL.toL_tup, DL.drf_int, DL.drf_bl, DL.drf_str, DL.drf_non, DL.drf_lst, DL.drf_tup, DL.drf_obj, DL.drf_upd, DL.lenD_lst, DL.lenD_tup, DL.intD_int, DL.intD_bl, DL.rA_ref, DL.lf_int, DL.lf_bl, DL.lf_non, DL.lf_str, DL.lf_ref, DL.IsC_lst, DL.Ty_int, DL.Ty_tup, DL.Ty_lst, DL.Ty_bl, DL.Ty_str, DL.Ty_non, DL.wipeD, DL.ixQ, DL.tYesF, DL.bAddI, DL.bSub, DL.bMul, DL.bMod, DL.bFdiv, DL.bPow, DL.bMax2, DL.bMin2, DL.cLt, DL.cLe, DL.cGt, DL.cGe, List.set, List.map, List.length, List.length_cons, List.length_nil, List.replicate, List.nil_append, List.cons_append, List.append_nil, Option.isSome_some, Option.getD_some, Option.isSome_none, Bool.not_true, Bool.not_false, and_true, true_and, and_self, implies_true, Nat.zero_add, List.length_set, List.length_replicate, sg _ hf.id.1 hf.id.2, sg _ hf.len.1 hf.len.2]
      cases hmo : r.mo with
      | none =>
        simp only [moD, isN, DL.sSetZ, DL.sRetZ, DL.sPar1, DL.sSeq, DL.sIf, DL.sSet, DL.sSetM, DL.sSetMN, DL.sAppN, DL.sSetMT, DL.sSetMS, DL.wLc, DL.wYes, DL.wPop, DL.wSl, DL.w1, DL.w1r, DL.lcW, DL.sFor, DL.sNext, DL.sRet, DL.sRetF, DL.sRetN, DL.sDrop, DL.sApp, DL.sAppR, DL.sSetIx, DL.sPar, DL.sParM, DL.sAsg, DL.wP, DL.wT, DL.wA, DL.wCall, DL.wCallP, DL.wACons, DL.wANil, DL.w2, DL.w2c, DL.w2t, DL.wIf, DL.wTup, DL.wLst, DL.wR1, DL.wAnd, DL.wOr, DL.wNot, DL.wTV, DL.pVar, DL.pInt, DL.pBl, DL.pStr, DL.pNon, DL.pDr, DL.pLf, DL.p1, DL.p2, DL.bI, DL.pc2, DL.tc2, DL.cI, DL.pAnd, DL.pOr, DL.pNot, DL.pIf, DL.pIsi, DL.pIsi2, DL.pChain, DL.tOf, DL.tNot1, DL.tAnd2, DL.tOr2, DL.tChn, DL.tIsN, DL.tNotN, DL.pIsN, DL.pNotN, DL.pNeg, DL.pSl, DL.pSlF, DL.pSlU, DL.pRev, DL.sfN, DL.sfS, DL.iU, DL.iL, DL.iR1, DL.iR2, DL.aCons, DL.aNil, DL.pLst, DL.pTup, DL.pLc, DL.pLcF, DL.pCall, DL.lV, DL.lIx, DL.lk, DL.startD, DL.ro, DL.gN, DL.gT, DL.gTL, DL.gC_cons, DL.gNl, DL.iS, DL.iE, DL.sAppC, DL.IsI_int, DL.toI_int, DL.IsB_bl, DL.toB_bl, DL.IsS_str, DL.toS_str, DL.IsL_lst, DL.IsU_tup, DL.IsQ_lst, DL.IsQ_tup, DL.toL_lst, DL.toL_tup, DL.drf_int, DL.drf_bl, DL.drf_str, DL.drf_non, DL.drf_lst, DL.drf_tup, DL.drf_obj, DL.drf_upd, DL.lenD_lst, DL.lenD_tup, DL.intD_int, DL.intD_bl, DL.rA_ref, DL.lf_int, DL.lf_bl, DL.lf_non, DL.lf_str, DL.lf_ref, DL.IsC_lst, DL.Ty_int, DL.Ty_tup, DL.Ty_lst, DL.Ty_bl, DL.Ty_str, DL.Ty_non, DL.wipeD, DL.ixQ, DL.tYesF, DL.bAddI, DL.bSub, DL.bMul, DL.bMod, DL.bFdiv, DL.bPow, DL.bMax2, DL.bMin2, DL.cLt, DL.cLe, DL.cGt, DL.cGe, List.set, List.map, List.length, List.length_cons, List.length_nil, List.replicate, List.nil_append, List.cons_append, List.append_nil, Option.isSome_some, Option.getD_some, Option.isSome_none, Bool.not_true, Bool.not_false, and_true, true_and, and_self, implies_true, Nat.zero_add, List.length_set, List.length_replicate, catL_lst, wordsOf, hmo]
        have c00 : (if false = true then D.lst [(strD D.non).val] else D.lst []) = D.lst [] := if_neg (by decide)
        rw [c00, catL_lst]
        exact ⟨⟨by decide, (if_neg (by decide)).mpr (by decide), by show _ ≤ 16000000; simp⟩, rfl⟩
      | some m =>
        have := hm m hmo
        simp only [moD, isN, DL.sSetZ, DL.sRetZ, DL.sPar1, DL.sSeq, DL.sIf, DL.sSet, DL.sSetM, DL.sSetMN, DL.sAppN, DL.sSetMT, DL.sSetMS, DL.wLc, DL.wYes, DL.wPop, DL.wSl, DL.w1, DL.w1r, DL.lcW, DL.sFor, DL.sNext, DL.sRet, DL.sRetF, DL.sRetN, DL.sDrop, DL.sApp, DL.sAppR, DL.sSetIx, DL.sPar, DL.sParM, DL.sAsg, DL.wP, DL.wT, DL.wA, DL.wCall, DL.wCallP, DL.wACons, DL.wANil, DL.w2, DL.w2c, DL.w2t, DL.wIf, DL.wTup, DL.wLst, DL.wR1, DL.wAnd, DL.wOr, DL.wNot, DL.wTV, DL.pVar, DL.pInt, DL.pBl, DL.pStr, DL.pNon, DL.pDr, DL.pLf, DL.p1, DL.p2, DL.bI, DL.pc2, DL.tc2, DL.cI, DL.pAnd, DL.pOr, DL.pNot, DL.pIf, DL.pIsi, DL.pIsi2, DL.pChain, DL.tOf, DL.tNot1, DL.tAnd2, DL.tOr2, DL.tChn, DL.tIsN, DL.tNotN, DL.pIsN, DL.pNotN, DL.pNeg, DL.pSl, DL.pSlF, DL.pSlU, DL.pRev, DL.sfN, DL.sfS, DL.iU, DL.iL, DL.iR1, DL.iR2, DL.aCons, DL.aNil, DL.pLst, DL.pTup, DL.pLc, DL.pLcF, DL.pCall, DL.lV, DL.lIx, DL.lk, DL.startD, DL.ro, DL.gN, DL.gT, DL.gTL, DL.gC_cons, DL.gNl, DL.iS, DL.iE, DL.sAppC, DL.IsI_int, DL.toI_int, DL.IsB_bl, DL.toB_bl, DL.IsS_str, DL.toS_str, DL.IsL_lst, DL.IsU_tup, DL.IsQ_lst, DL.IsQ_tup, DL.toL_lst, DL.toL_tup, DL.drf_int, DL.drf_bl, DL.drf_str, DL.drf_non, DL.drf_lst, DL.drf_tup, DL.drf_obj, DL.drf_upd, DL.lenD_lst, DL.lenD_tup, DL.intD_int, DL.intD_bl, DL.rA_ref, DL.lf_int, DL.lf_bl, DL.lf_non, DL.lf_str, DL.lf_ref, DL.IsC_lst, DL.Ty_int, DL.Ty_tup, DL.Ty_lst, DL.Ty_bl, DL.Ty_str, DL.Ty_non, DL.wipeD, DL.ixQ, DL.tYesF, DL.bAddI, DL.bSub, DL.bMul, DL.bMod, DL.bFdiv, DL.bPow, DL.bMax2, DL.bMin2, DL.cLt, DL.cLe, DL.cGt, DL.cGe, List.set, List.map, List.length, List.length_cons, List.length_nil, List.replicate, List.nil_append, List.cons_append, List.append_nil, Option.isSome_some, Option.getD_some, Option.isSome_none, Bool.not_true, Bool.not_false, and_true, true_and, and_self, implies_true, Nat.zero_add, List.length_set, List.length_replicate, catL_lst, wordsOf, hmo, sg m (by omega) (by omega)]
        have c11 : (if True then D.lst [D.str (numS m)] else D.lst []) = D.lst [D.str (numS m)] := if_pos trivial
        rw [c11, catL_lst]
        exact ⟨⟨by decide, (if_pos trivial).mpr (by decide), by show _ ≤ 16000000; simp⟩, rfl⟩) rfl ?_
    refine st_app1 (a := a) (π := []) (.str (lineS r)) (by
      simp only [DL.sSetZ, DL.sRetZ, DL.sPar1, DL.sSeq, DL.sIf, DL.sSet, DL.sSetM, DL.sSetMN, DL.sAppN, DL.sSetMT, DL.sSetMS, DL.wLc, DL.wYes, DL.wPop, DL.wSl, DL.w1, DL.w1r, DL.lcW, DL.sFor, DL.sNext, DL.sRet, DL.sRetF, DL.sRetN, DL.sDrop, DL.sApp, DL.sAppR, DL.sSetIx, DL.sPar, DL.sParM, DL.sAsg, DL.wP, DL.wT, DL.wA, DL.wCall, DL.wCallP, DL.wACons, DL.wANil, DL.w2, DL.w2c, DL.w2t, DL.wIf, DL.wTup, DL.wLst, DL.wR1, DL.wAnd, DL.wOr, DL.wNot, DL.wTV, DL.pVar, DL.pInt, DL.pBl, DL.pStr, DL.pNon, DL.pDr, DL.pLf, DL.p1, DL.p2, DL.bI, DL.pc2, DL.tc2, DL.cI, DL.pAnd, DL.pOr, DL.pNot, DL.pIf, DL.pIsi, DL.pIsi2, DL.pChain, DL.tOf, DL.tNot1, DL.tAnd2, DL.tOr2, DL.tChn, DL.tIsN, DL.tNotN, DL.pIsN, DL.pNotN, DL.pNeg, DL.pSl, DL.pSlF, DL.pSlU, DL.pRev, DL.sfN, DL.sfS, DL.iU, DL.iL, DL.iR1, DL.iR2, DL.aCons, DL.aNil, DL.pLst, DL.pTup, DL.pLc, DL.pLcF, DL.pCall, DL.lV, DL.lIx, DL.lk, DL.startD, DL.ro, DL.gN, DL.gT, DL.gTL, DL.gC_cons, DL.gNl, DL.iS, DL.iE, DL.sAppC, DL.IsI_int, DL.toI_int, DL.IsB_bl, DL.toB_bl, DL.IsS_str, DL.toS_str, DL.IsL_lst, DL.IsU_tup, DL.IsQ_lst, DL.IsQ_tup, DL.toL_lst, DL.toL_tup, DL.drf_int, DL.drf_bl, DL.drf_str, DL.drf_non, DL.drf_lst, DL.drf_tup, DL.drf_obj, DL.drf_upd, DL.lenD_lst, DL.lenD_tup, DL.intD_int, DL.intD_bl, DL.rA_ref, DL.lf_int, DL.lf_bl, DL.lf_non, DL.lf_str, DL.lf_ref, DL.IsC_lst, DL.Ty_int, DL.Ty_tup, DL.Ty_lst, DL.Ty_bl, DL.Ty_str, DL.Ty_non, DL.wipeD, DL.ixQ, DL.tYesF, DL.bAddI, DL.bSub, DL.bMul, DL.bMod, DL.bFdiv, DL.bPow, DL.bMax2, DL.bMin2, DL.cLt, DL.cLe, DL.cGt, DL.cGe, List.set, List.map, List.length, List.length_cons, List.length_nil, List.replicate, List.nil_append, List.cons_append, List.append_nil, Option.isSome_some, Option.getD_some, Option.isSome_none, Bool.not_true, Bool.not_false, and_true, true_and, and_self, implies_true, Nat.zero_add, List.length_set, List.length_replicate]
      have hw := words_len hf
      rw [joinV (by show _ + _ * 1 ≤ 16000000; omega)]
      exact ⟨trivial, rfl⟩) (by simp only [DL.sSetZ, DL.sRetZ, DL.sPar1, DL.sSeq, DL.sIf, DL.sSet, DL.sSetM, DL.sSetMN, DL.sAppN, DL.sSetMT, DL.sSetMS, DL.wLc, DL.wYes, DL.wPop, DL.wSl, DL.w1, DL.w1r, DL.lcW, DL.sFor, DL.sNext, DL.sRet, DL.sRetF, DL.sRetN, DL.sDrop, DL.sApp, DL.sAppR, DL.sSetIx, DL.sPar, DL.sParM, DL.sAsg, DL.wP, DL.wT, DL.wA, DL.wCall, DL.wCallP, DL.wACons, DL.wANil, DL.w2, DL.w2c, DL.w2t, DL.wIf, DL.wTup, DL.wLst, DL.wR1, DL.wAnd, DL.wOr, DL.wNot, DL.wTV, DL.pVar, DL.pInt, DL.pBl, DL.pStr, DL.pNon, DL.pDr, DL.pLf, DL.p1, DL.p2, DL.bI, DL.pc2, DL.tc2, DL.cI, DL.pAnd, DL.pOr, DL.pNot, DL.pIf, DL.pIsi, DL.pIsi2, DL.pChain, DL.tOf, DL.tNot1, DL.tAnd2, DL.tOr2, DL.tChn, DL.tIsN, DL.tNotN, DL.pIsN, DL.pNotN, DL.pNeg, DL.pSl, DL.pSlF, DL.pSlU, DL.pRev, DL.sfN, DL.sfS, DL.iU, DL.iL, DL.iR1, DL.iR2, DL.aCons, DL.aNil, DL.pLst, DL.pTup, DL.pLc, DL.pLcF, DL.pCall, DL.lV, DL.lIx, DL.lk, DL.startD, DL.ro, DL.gN, DL.gT, DL.gTL, DL.gC_cons, DL.gNl, DL.iS, DL.iE, DL.sAppC, DL.IsI_int, DL.toI_int, DL.IsB_bl, DL.toB_bl, DL.IsS_str, DL.toS_str, DL.IsL_lst, DL.IsU_tup, DL.IsQ_lst, DL.IsQ_tup, DL.toL_lst, DL.toL_tup, DL.drf_int, DL.drf_bl, DL.drf_str, DL.drf_non, DL.drf_lst, DL.drf_tup, DL.drf_obj, DL.drf_upd, DL.lenD_lst, DL.lenD_tup, DL.intD_int, DL.intD_bl, DL.rA_ref, DL.lf_int, DL.lf_bl, DL.lf_non, DL.lf_str, DL.lf_ref, DL.IsC_lst, DL.Ty_int, DL.Ty_tup, DL.Ty_lst, DL.Ty_bl, DL.Ty_str, DL.Ty_non, DL.wipeD, DL.ixQ, DL.tYesF, DL.bAddI, DL.bSub, DL.bMul, DL.bMod, DL.bFdiv, DL.bPow, DL.bMax2, DL.bMin2, DL.cLt, DL.cLe, DL.cGt, DL.cGe, List.set, List.map, List.length, List.length_cons, List.length_nil, List.replicate, List.nil_append, List.cons_append, List.append_nil, Option.isSome_some, Option.getD_some, Option.isSome_none, Bool.not_true, Bool.not_false, and_true, true_and, and_self, implies_true, Nat.zero_add, List.length_set, List.length_replicate]) z1 sub_nil (by rw [List.length_map, List.length_take]; show _ < 16000000; omega) ?_
    refine hL _ _ ⟨_, _, _, _, _, rfl, ?_⟩
    rw [updN_same, put_nil, List.take_succ, hr]
    simp only [List.map_append]; rfl
end K13
set_option maxHeartbeats 4000000
namespace K13
open PySem L2 DL TL
theorem line_cat {r : Row} : (match r.mo with
    | none => numS r.id ++ " " ++ kindS r.live ++ " " ++ numS r.len
    | some m => numS r.id ++ " " ++ kindS r.live ++ " " ++ numS r.len ++ " " ++ numS m) = lineS r := by
  unfold lineS wordsOf
  rw [join_eq]
  apply ext_tl
  rw [tl_join]
  cases hm : r.mo with
  | none => simp only [tl_append, tl_sp, List.append_nil, List.cons_append, List.nil_append, List.map_cons, List.map_nil, joinL, List.append_assoc]
  | some m => simp only [tl_append, tl_sp, List.append_nil, List.cons_append, List.nil_append, List.map_cons, List.map_nil, joinL, List.append_assoc]
theorem strV {i : Int} (h0 : 0 ≤ i) (h1 : i ≤ 999) : strD (.int i) = ⟨True, .str (numS i)⟩ := by
  unfold strD
  rw [toI_int]
  congr 1
  refine eq_true ⟨trivial, ?_⟩
  have : ∀ n : Fin 1000, n.val.log2 < 1920 := by decide +kernel
  exact this ⟨i.natAbs, by omega⟩
theorem catSV {a b : Str} : catS (.str a) (.str b) = ⟨a.length + b.length ≤ SZ, .str (a ++ b)⟩ := by
  unfold catS
  simp only [IsS_str, toS_str, true_and]
theorem len_app (a b : Str) : (a ++ b).length = a.length + b.length := by rw [len_tl, len_tl a, len_tl b, tl_append, List.length_append]
theorem strOk_kind (b : Bool) : PyData.strOk (kindS b) = true := by cases b <;> decide +kernel
theorem pl_row {r : Row} {n : Nat} : Pl (n + 2) (rowD r) := by
  refine ⟨by show 4 ≤ 100000; decide, fun x hx => ?_⟩
  simp at hx
  rcases hx with rfl | rfl | rfl | rfl
  · trivial
  · exact strOk_kind _
  · trivial
  · cases r.mo <;> trivial
theorem pl_rows {rs : List Row} (h : rs.length ≤ 100) : Pl 6 (dR rs) := ⟨by rw [List.length_map]; omega, fun x hx => by obtain ⟨r, _, rfl⟩ := List.mem_map.mp hx; exact pl_row⟩
theorem okD_row {r : Row} {n : Nat} : okD (n + 1) (rowD r) := by
  intro x hx
  simp at hx
  rcases hx with rfl | rfl | rfl | rfl
  · cases n <;> trivial
  · have := strOk_kind r.live; cases n <;> exact this
  · cases n <;> trivial
  · cases r.mo <;> cases n <;> trivial
theorem okD_rows {rs : List Row} : okD 8 (dR rs) := fun x hx => by obtain ⟨r, _, rfl⟩ := List.mem_map.mp hx; exact okD_row
theorem ROk.wide {rs : List Row} {e : Int} (h : ROk rs 0 e) (he : e ≤ 900) : ROk rs 0 900 :=
  ⟨h.n, h.one, h.nd, fun m hm => by have := h.mo m hm; omega, h.up, by decide⟩
theorem writtenV {rs : List Row} {M : Nm} (h : ROk rs 0 900) : (ph_written [dR rs] M).ok ∧ (ph_written [dR rs] M).val = .str (textS rs) := by
  refine ⟨⟨rs, rfl, h⟩, ?_⟩
  show D.str (textS (toRs (dR rs))) = _
  rw [toRs_dR]
theorem r_law (p : Addr) (m : Int) (ns : List Int) (h0 : 0 ≤ m) (h1 : m < MX) : w_law { nx := fun _ _ => False, rt := fun d _ => d = .bl true } (none :: some (.ref p) :: List.replicate 10 none) (nm1 p (.lst [.int m, .lst (ns.map .int), .int 0])) := by
  unfold MX at h1
  unfold w_law
  have nilOk : ROk [] 0 900 := ⟨by simp, by simp, by simp, by simp, by simp, by decide⟩
  refine st_for ((rng 0 6).map D.int) (by simp only [DL.sSetZ, DL.sRetZ, DL.sPar1, DL.sSeq, DL.sIf, DL.sSet, DL.sSetM, DL.sSetMN, DL.sAppN, DL.sSetMT, DL.sSetMS, DL.wLc, DL.wYes, DL.wPop, DL.wSl, DL.w1, DL.w1r, DL.lcW, DL.sFor, DL.sNext, DL.sRet, DL.sRetF, DL.sRetN, DL.sDrop, DL.sApp, DL.sAppR, DL.sSetIx, DL.sPar, DL.sParM, DL.sAsg, DL.wP, DL.wT, DL.wA, DL.wCall, DL.wCallP, DL.wACons, DL.wANil, DL.w2, DL.w2c, DL.w2t, DL.wIf, DL.wTup, DL.wLst, DL.wR1, DL.wAnd, DL.wOr, DL.wNot, DL.wTV, DL.pVar, DL.pInt, DL.pBl, DL.pStr, DL.pNon, DL.pDr, DL.pLf, DL.p1, DL.p2, DL.bI, DL.pc2, DL.tc2, DL.cI, DL.pAnd, DL.pOr, DL.pNot, DL.pIf, DL.pIsi, DL.pIsi2, DL.pChain, DL.tOf, DL.tNot1, DL.tAnd2, DL.tOr2, DL.tChn, DL.tIsN, DL.tNotN, DL.pIsN, DL.pNotN, DL.pNeg, DL.pSl, DL.pSlF, DL.pSlU, DL.pRev, DL.sfN, DL.sfS, DL.iU, DL.iL, DL.iR1, DL.iR2, DL.aCons, DL.aNil, DL.pLst, DL.pTup, DL.pLc, DL.pLcF, DL.pCall, DL.lV, DL.lIx, DL.lk, DL.startD, DL.ro, DL.gN, DL.gT, DL.gTL, DL.gC_cons, DL.gNl, DL.iS, DL.iE, DL.sAppC, DL.IsI_int, DL.toI_int, DL.IsB_bl, DL.toB_bl, DL.IsS_str, DL.toS_str, DL.IsL_lst, DL.IsU_tup, DL.IsQ_lst, DL.IsQ_tup, DL.toL_lst, DL.toL_tup, DL.drf_int, DL.drf_bl, DL.drf_str, DL.drf_non, DL.drf_lst, DL.drf_tup, DL.drf_obj, DL.drf_upd, DL.lenD_lst, DL.lenD_tup, DL.intD_int, DL.intD_bl, DL.rA_ref, DL.lf_int, DL.lf_bl, DL.lf_non, DL.lf_str, DL.lf_ref, DL.IsC_lst, DL.Ty_int, DL.Ty_tup, DL.Ty_lst, DL.Ty_bl, DL.Ty_str, DL.Ty_non, DL.wipeD, DL.ixQ, DL.tYesF, DL.bAddI, DL.bSub, DL.bMul, DL.bMod, DL.bFdiv, DL.bPow, DL.bMax2, DL.bMin2, DL.cLt, DL.cLe, DL.cGt, DL.cGe, List.set, List.map, List.length, List.length_cons, List.length_nil, List.replicate, List.nil_append, List.cons_append, List.append_nil, Option.isSome_some, Option.getD_some, Option.isSome_none, Bool.not_true, Bool.not_false, and_true, true_and, and_self, implies_true, Nat.zero_add, List.length_set, List.length_replicate]; exact ⟨⟨by decide, by decide⟩, rfl⟩) ?_
  refine loopD_rng (fun k δ N => ∃ x2 x3 x4 x5 x6 x7 x8 x9 x10 x11 d, δ = [none, some (.ref p), x2, x3, x4, x5, x6, x7, x8, x9, x10, x11] ∧ N p = some ⟨true, d⟩ ∧ HSt d) ?_ ?_ ?_
  · exact ⟨_, _, _, _, _, _, _, _, _, _, _, rfl, updN_same, _, _, _, rfl, h0, h1, by decide⟩
  · rintro δ N ⟨x2, x3, x4, x5, x6, x7, x8, x9, x10, x11, d, rfl, hN, hd⟩
    have e1 := fun M => textV (M := M) nilOk
    have e2 := fun M => writtenV (M := M) nilOk
    have et : textS [] = "" := rfl
    rw [et] at e1 e2
    have s0 : D.str (Str.ofString "") = D.str "" := rfl
    have l0 : D.lst [] = dR [] := rfl
    have q1 : eqT 8 (.lst []) (.lst []) = ⟨True, true⟩ := by
      unfold eqT
      rw [eqD_self (by intro d hd; cases hd)]
      simp [okD]
    have q2 : eqT 8 (.str "") (.str "") = ⟨True, true⟩ := by
      unfold eqT
      rw [eqD_self (by show PyData.strOk _ = true; decide +kernel)]
      congr 1
      exact eq_true ⟨by show PyData.strOk _ = true; decide +kernel, by show PyData.strOk _ = true; decide +kernel⟩
    simp only [DL.sSetZ, DL.sRetZ, DL.sPar1, DL.sSeq, DL.sIf, DL.sSet, DL.sSetM, DL.sSetMN, DL.sAppN, DL.sSetMT, DL.sSetMS, DL.wLc, DL.wYes, DL.wPop, DL.wSl, DL.w1, DL.w1r, DL.lcW, DL.sFor, DL.sNext, DL.sRet, DL.sRetF, DL.sRetN, DL.sDrop, DL.sApp, DL.sAppR, DL.sSetIx, DL.sPar, DL.sParM, DL.sAsg, DL.wP, DL.wT, DL.wA, DL.wCall, DL.wCallP, DL.wACons, DL.wANil, DL.w2, DL.w2c, DL.w2t, DL.wIf, DL.wTup, DL.wLst, DL.wR1, DL.wAnd, DL.wOr, DL.wNot, DL.wTV, DL.pVar, DL.pInt, DL.pBl, DL.pStr, DL.pNon, DL.pDr, DL.pLf, DL.p1, DL.p2, DL.bI, DL.pc2, DL.tc2, DL.cI, DL.pAnd, DL.pOr, DL.pNot, DL.pIf, DL.pIsi, DL.pIsi2, DL.pChain, DL.tOf, DL.tNot1, DL.tAnd2, DL.tOr2, DL.tChn, DL.tIsN, DL.tNotN, DL.pIsN, DL.pNotN, DL.pNeg, DL.pSl, DL.pSlF, DL.pSlU, DL.pRev, DL.sfN, DL.sfS, DL.iU, DL.iL, DL.iR1, DL.iR2, DL.aCons, DL.aNil, DL.pLst, DL.pTup, DL.pLc, DL.pLcF, DL.pCall, DL.lV, DL.lIx, DL.lk, DL.startD, DL.ro, DL.gN, DL.gT, DL.gTL, DL.gC_cons, DL.gNl, DL.iS, DL.iE, DL.sAppC, DL.IsI_int, DL.toI_int, DL.IsB_bl, DL.toB_bl, DL.IsS_str, DL.toS_str, DL.IsL_lst, DL.IsU_tup, DL.IsQ_lst, DL.IsQ_tup, DL.toL_lst, DL.toL_tup, DL.drf_int, DL.drf_bl, DL.drf_str, DL.drf_non, DL.drf_lst, DL.drf_tup, DL.drf_obj, DL.drf_upd, DL.lenD_lst, DL.lenD_tup, DL.intD_int, DL.intD_bl, DL.rA_ref, DL.lf_int, DL.lf_bl, DL.lf_non, DL.lf_str, DL.lf_ref, DL.IsC_lst, DL.Ty_int, DL.Ty_tup, DL.Ty_lst, DL.Ty_bl, DL.Ty_str, DL.Ty_non, DL.wipeD, DL.ixQ, DL.tYesF, DL.bAddI, DL.bSub, DL.bMul, DL.bMod, DL.bFdiv, DL.bPow, DL.bMax2, DL.bMin2, DL.cLt, DL.cLe, DL.cGt, DL.cGe, List.set, List.map, List.length, List.length_cons, List.length_nil, List.replicate, List.nil_append, List.cons_append, List.append_nil, Option.isSome_some, Option.getD_some, Option.isSome_none, Bool.not_true, Bool.not_false, and_true, true_and, and_self, implies_true, Nat.zero_add, List.length_set, List.length_replicate, s0]
    rw [show D.lst [] = dR [] from rfl, (e1 N).2, (e2 N).2]
    rw [← l0, q1, q2]
    exact ⟨⟨⟨(e1 _).1, by decide, trivial⟩, fun _ => ⟨⟨by decide, (e2 _).1⟩, trivial⟩⟩, rfl⟩
  · rintro k δ N L hk hL ⟨x2, x3, x4, x5, x6, x7, x8, x9, x10, x11, d, rfl, hN, hd⟩
    refine ⟨by show 2 < 12; decide, ?_⟩
    refine st_setE (fun t N4 => ∃ rs d9, t = dR rs ∧ N4 p = some ⟨true, d9⟩ ∧ HSt d9 ∧ ROk rs 0 900) (fun Q hQ => ?c2) ?_
    case c2 =>
      simp only [DL.sSetZ, DL.sRetZ, DL.sPar1, DL.sSeq, DL.sIf, DL.sSet, DL.sSetM, DL.sSetMN, DL.sAppN, DL.sSetMT, DL.sSetMS, DL.wLc, DL.wYes, DL.wPop, DL.wSl, DL.w1, DL.w1r, DL.lcW, DL.sFor, DL.sNext, DL.sRet, DL.sRetF, DL.sRetN, DL.sDrop, DL.sApp, DL.sAppR, DL.sSetIx, DL.sPar, DL.sParM, DL.sAsg, DL.wP, DL.wT, DL.wA, DL.wCall, DL.wCallP, DL.wACons, DL.wANil, DL.w2, DL.w2c, DL.w2t, DL.wIf, DL.wTup, DL.wLst, DL.wR1, DL.wAnd, DL.wOr, DL.wNot, DL.wTV, DL.pVar, DL.pInt, DL.pBl, DL.pStr, DL.pNon, DL.pDr, DL.pLf, DL.p1, DL.p2, DL.bI, DL.pc2, DL.tc2, DL.cI, DL.pAnd, DL.pOr, DL.pNot, DL.pIf, DL.pIsi, DL.pIsi2, DL.pChain, DL.tOf, DL.tNot1, DL.tAnd2, DL.tOr2, DL.tChn, DL.tIsN, DL.tNotN, DL.pIsN, DL.pNotN, DL.pNeg, DL.pSl, DL.pSlF, DL.pSlU, DL.pRev, DL.sfN, DL.sfS, DL.iU, DL.iL, DL.iR1, DL.iR2, DL.aCons, DL.aNil, DL.pLst, DL.pTup, DL.pLc, DL.pLcF, DL.pCall, DL.lV, DL.lIx, DL.lk, DL.startD, DL.ro, DL.gN, DL.gT, DL.gTL, DL.gC_cons, DL.gNl, DL.iS, DL.iE, DL.sAppC, DL.IsI_int, DL.toI_int, DL.IsB_bl, DL.toB_bl, DL.IsS_str, DL.toS_str, DL.IsL_lst, DL.IsU_tup, DL.IsQ_lst, DL.IsQ_tup, DL.toL_lst, DL.toL_tup, DL.drf_int, DL.drf_bl, DL.drf_str, DL.drf_non, DL.drf_lst, DL.drf_tup, DL.drf_obj, DL.drf_upd, DL.lenD_lst, DL.lenD_tup, DL.intD_int, DL.intD_bl, DL.rA_ref, DL.lf_int, DL.lf_bl, DL.lf_non, DL.lf_str, DL.lf_ref, DL.IsC_lst, DL.Ty_int, DL.Ty_tup, DL.Ty_lst, DL.Ty_bl, DL.Ty_str, DL.Ty_non, DL.wipeD, DL.ixQ, DL.tYesF, DL.bAddI, DL.bSub, DL.bMul, DL.bMod, DL.bFdiv, DL.bPow, DL.bMax2, DL.bMin2, DL.cLt, DL.cLe, DL.cGt, DL.cGe, List.set, List.map, List.length, List.length_cons, List.length_nil, List.replicate, List.nil_append, List.cons_append, List.append_nil, Option.isSome_some, Option.getD_some, Option.isSome_none, Bool.not_true, Bool.not_false, and_true, true_and, and_self, implies_true, Nat.zero_add, List.length_set, List.length_replicate]
      refine ⟨p, 900, d, rfl, hN, hd, by decide, by decide, fun r d' r0 r1 hd' => ⟨trivial, ?_⟩⟩
      simp only [DL.sSetZ, DL.sRetZ, DL.sPar1, DL.sSeq, DL.sIf, DL.sSet, DL.sSetM, DL.sSetMN, DL.sAppN, DL.sSetMT, DL.sSetMS, DL.wLc, DL.wYes, DL.wPop, DL.wSl, DL.w1, DL.w1r, DL.lcW, DL.sFor, DL.sNext, DL.sRet, DL.sRetF, DL.sRetN, DL.sDrop, DL.sApp, DL.sAppR, DL.sSetIx, DL.sPar, DL.sParM, DL.sAsg, DL.wP, DL.wT, DL.wA, DL.wCall, DL.wCallP, DL.wACons, DL.wANil, DL.w2, DL.w2c, DL.w2t, DL.wIf, DL.wTup, DL.wLst, DL.wR1, DL.wAnd, DL.wOr, DL.wNot, DL.wTV, DL.pVar, DL.pInt, DL.pBl, DL.pStr, DL.pNon, DL.pDr, DL.pLf, DL.p1, DL.p2, DL.bI, DL.pc2, DL.tc2, DL.cI, DL.pAnd, DL.pOr, DL.pNot, DL.pIf, DL.pIsi, DL.pIsi2, DL.pChain, DL.tOf, DL.tNot1, DL.tAnd2, DL.tOr2, DL.tChn, DL.tIsN, DL.tNotN, DL.pIsN, DL.pNotN, DL.pNeg, DL.pSl, DL.pSlF, DL.pSlU, DL.pRev, DL.sfN, DL.sfS, DL.iU, DL.iL, DL.iR1, DL.iR2, DL.aCons, DL.aNil, DL.pLst, DL.pTup, DL.pLc, DL.pLcF, DL.pCall, DL.lV, DL.lIx, DL.lk, DL.startD, DL.ro, DL.gN, DL.gT, DL.gTL, DL.gC_cons, DL.gNl, DL.iS, DL.iE, DL.sAppC, DL.IsI_int, DL.toI_int, DL.IsB_bl, DL.toB_bl, DL.IsS_str, DL.toS_str, DL.IsL_lst, DL.IsU_tup, DL.IsQ_lst, DL.IsQ_tup, DL.toL_lst, DL.toL_tup, DL.drf_int, DL.drf_bl, DL.drf_str, DL.drf_non, DL.drf_lst, DL.drf_tup, DL.drf_obj, DL.drf_upd, DL.lenD_lst, DL.lenD_tup, DL.intD_int, DL.intD_bl, DL.rA_ref, DL.lf_int, DL.lf_bl, DL.lf_non, DL.lf_str, DL.lf_ref, DL.IsC_lst, DL.Ty_int, DL.Ty_tup, DL.Ty_lst, DL.Ty_bl, DL.Ty_str, DL.Ty_non, DL.wipeD, DL.ixQ, DL.tYesF, DL.bAddI, DL.bSub, DL.bMul, DL.bMod, DL.bFdiv, DL.bPow, DL.bMax2, DL.bMin2, DL.cLt, DL.cLe, DL.cGt, DL.cGe, List.set, List.map, List.length, List.length_cons, List.length_nil, List.replicate, List.nil_append, List.cons_append, List.append_nil, Option.isSome_some, Option.getD_some, Option.isSome_none, Bool.not_true, Bool.not_false, and_true, true_and, and_self, implies_true, Nat.zero_add, List.length_set, List.length_replicate, updN_twice]
      refine ⟨by decide, p, 2, d', rfl, updN_same, hd', by decide, by decide, fun r2 d2 a0 a1 hd2 => ?_⟩
      have hm : ∃ most : Int, atI [D.int 6, D.int 30] r2 = some (.int most) ∧ 0 ≤ most ∧ most ≤ 30 := by
        have : r2 = 0 ∨ r2 = 1 := by omega
        rcases this with rfl | rfl
        · exact ⟨6, rfl, by decide, by decide⟩
        · exact ⟨30, rfl, by decide, by decide⟩
      obtain ⟨most, em, m0, m1⟩ := hm
      simp only [DL.sSetZ, DL.sRetZ, DL.sPar1, DL.sSeq, DL.sIf, DL.sSet, DL.sSetM, DL.sSetMN, DL.sAppN, DL.sSetMT, DL.sSetMS, DL.wLc, DL.wYes, DL.wPop, DL.wSl, DL.w1, DL.w1r, DL.lcW, DL.sFor, DL.sNext, DL.sRet, DL.sRetF, DL.sRetN, DL.sDrop, DL.sApp, DL.sAppR, DL.sSetIx, DL.sPar, DL.sParM, DL.sAsg, DL.wP, DL.wT, DL.wA, DL.wCall, DL.wCallP, DL.wACons, DL.wANil, DL.w2, DL.w2c, DL.w2t, DL.wIf, DL.wTup, DL.wLst, DL.wR1, DL.wAnd, DL.wOr, DL.wNot, DL.wTV, DL.pVar, DL.pInt, DL.pBl, DL.pStr, DL.pNon, DL.pDr, DL.pLf, DL.p1, DL.p2, DL.bI, DL.pc2, DL.tc2, DL.cI, DL.pAnd, DL.pOr, DL.pNot, DL.pIf, DL.pIsi, DL.pIsi2, DL.pChain, DL.tOf, DL.tNot1, DL.tAnd2, DL.tOr2, DL.tChn, DL.tIsN, DL.tNotN, DL.pIsN, DL.pNotN, DL.pNeg, DL.pSl, DL.pSlF, DL.pSlU, DL.pRev, DL.sfN, DL.sfS, DL.iU, DL.iL, DL.iR1, DL.iR2, DL.aCons, DL.aNil, DL.pLst, DL.pTup, DL.pLc, DL.pLcF, DL.pCall, DL.lV, DL.lIx, DL.lk, DL.startD, DL.ro, DL.gN, DL.gT, DL.gTL, DL.gC_cons, DL.gNl, DL.iS, DL.iE, DL.sAppC, DL.IsI_int, DL.toI_int, DL.IsB_bl, DL.toB_bl, DL.IsS_str, DL.toS_str, DL.IsL_lst, DL.IsU_tup, DL.IsQ_lst, DL.IsQ_tup, DL.toL_lst, DL.toL_tup, DL.drf_int, DL.drf_bl, DL.drf_str, DL.drf_non, DL.drf_lst, DL.drf_tup, DL.drf_obj, DL.drf_upd, DL.lenD_lst, DL.lenD_tup, DL.intD_int, DL.intD_bl, DL.rA_ref, DL.lf_int, DL.lf_bl, DL.lf_non, DL.lf_str, DL.lf_ref, DL.IsC_lst, DL.Ty_int, DL.Ty_tup, DL.Ty_lst, DL.Ty_bl, DL.Ty_str, DL.Ty_non, DL.wipeD, DL.ixQ, DL.tYesF, DL.bAddI, DL.bSub, DL.bMul, DL.bMod, DL.bFdiv, DL.bPow, DL.bMax2, DL.bMin2, DL.cLt, DL.cLe, DL.cGt, DL.cGe, List.set, List.map, List.length, List.length_cons, List.length_nil, List.replicate, List.nil_append, List.cons_append, List.append_nil, Option.isSome_some, Option.getD_some, Option.isSome_none, Bool.not_true, Bool.not_false, and_true, true_and, and_self, implies_true, Nat.zero_add, List.length_set, List.length_replicate, updN_twice, em]
      exact ⟨p, _, 0, 1 + r, most, rfl, updN_same, hd2, by decide, by omega, by omega, m0, by omega, fun d6 rs N1 hR hrl hd6 _ hNp => hQ _ _ ⟨rs, d6, rfl, hNp, hd6, hR.wide (by omega)⟩⟩
    rintro _ N4 ⟨rs, d9, rfl, hN4, hd9, hR⟩
    have hn := hR.n
    have hrf : ∀ r ∈ rs, RF r := fun r hr => (hR.rf1 hr).1
    refine st_setM (.lst []) (by simp only [DL.sSetZ, DL.sRetZ, DL.sPar1, DL.sSeq, DL.sIf, DL.sSet, DL.sSetM, DL.sSetMN, DL.sAppN, DL.sSetMT, DL.sSetMS, DL.wLc, DL.wYes, DL.wPop, DL.wSl, DL.w1, DL.w1r, DL.lcW, DL.sFor, DL.sNext, DL.sRet, DL.sRetF, DL.sRetN, DL.sDrop, DL.sApp, DL.sAppR, DL.sSetIx, DL.sPar, DL.sParM, DL.sAsg, DL.wP, DL.wT, DL.wA, DL.wCall, DL.wCallP, DL.wACons, DL.wANil, DL.w2, DL.w2c, DL.w2t, DL.wIf, DL.wTup, DL.wLst, DL.wR1, DL.wAnd, DL.wOr, DL.wNot, DL.wTV, DL.pVar, DL.pInt, DL.pBl, DL.pStr, DL.pNon, DL.pDr, DL.pLf, DL.p1, DL.p2, DL.bI, DL.pc2, DL.tc2, DL.cI, DL.pAnd, DL.pOr, DL.pNot, DL.pIf, DL.pIsi, DL.pIsi2, DL.pChain, DL.tOf, DL.tNot1, DL.tAnd2, DL.tOr2, DL.tChn, DL.tIsN, DL.tNotN, DL.pIsN, DL.pNotN, DL.pNeg, DL.pSl, DL.pSlF, DL.pSlU, DL.pRev, DL.sfN, DL.sfS, DL.iU, DL.iL, DL.iR1, DL.iR2, DL.aCons, DL.aNil, DL.pLst, DL.pTup, DL.pLc, DL.pLcF, DL.pCall, DL.lV, DL.lIx, DL.lk, DL.startD, DL.ro, DL.gN, DL.gT, DL.gTL, DL.gC_cons, DL.gNl, DL.iS, DL.iE, DL.sAppC, DL.IsI_int, DL.toI_int, DL.IsB_bl, DL.toB_bl, DL.IsS_str, DL.toS_str, DL.IsL_lst, DL.IsU_tup, DL.IsQ_lst, DL.IsQ_tup, DL.toL_lst, DL.toL_tup, DL.drf_int, DL.drf_bl, DL.drf_str, DL.drf_non, DL.drf_lst, DL.drf_tup, DL.drf_obj, DL.drf_upd, DL.lenD_lst, DL.lenD_tup, DL.intD_int, DL.intD_bl, DL.rA_ref, DL.lf_int, DL.lf_bl, DL.lf_non, DL.lf_str, DL.lf_ref, DL.IsC_lst, DL.Ty_int, DL.Ty_tup, DL.Ty_lst, DL.Ty_bl, DL.Ty_str, DL.Ty_non, DL.wipeD, DL.ixQ, DL.tYesF, DL.bAddI, DL.bSub, DL.bMul, DL.bMod, DL.bFdiv, DL.bPow, DL.bMax2, DL.bMin2, DL.cLt, DL.cLe, DL.cGt, DL.cGe, List.set, List.map, List.length, List.length_cons, List.length_nil, List.replicate, List.nil_append, List.cons_append, List.append_nil, Option.isSome_some, Option.getD_some, Option.isSome_none, Bool.not_true, Bool.not_false, and_true, true_and, and_self, implies_true, Nat.zero_add, List.length_set, List.length_replicate]; decide) trivial fun a ha => ?_
    have hap : a ≠ p := fun z => by rw [z, hN4] at ha; cases ha
    have hN5 : updN N4 a ⟨true, .lst []⟩ p = some ⟨true, d9⟩ := by rw [updN_ne hap.symm]; exact hN4
    have hA5 : updN N4 a ⟨true, .lst []⟩ a = some ⟨true, .lst []⟩ := updN_same
    generalize updN N4 a ⟨true, .lst []⟩ = N5 at hN5 hA5 ⊢
    refine st_for (rs.map rowD) (by simp only [DL.sSetZ, DL.sRetZ, DL.sPar1, DL.sSeq, DL.sIf, DL.sSet, DL.sSetM, DL.sSetMN, DL.sAppN, DL.sSetMT, DL.sSetMS, DL.wLc, DL.wYes, DL.wPop, DL.wSl, DL.w1, DL.w1r, DL.lcW, DL.sFor, DL.sNext, DL.sRet, DL.sRetF, DL.sRetN, DL.sDrop, DL.sApp, DL.sAppR, DL.sSetIx, DL.sPar, DL.sParM, DL.sAsg, DL.wP, DL.wT, DL.wA, DL.wCall, DL.wCallP, DL.wACons, DL.wANil, DL.w2, DL.w2c, DL.w2t, DL.wIf, DL.wTup, DL.wLst, DL.wR1, DL.wAnd, DL.wOr, DL.wNot, DL.wTV, DL.pVar, DL.pInt, DL.pBl, DL.pStr, DL.pNon, DL.pDr, DL.pLf, DL.p1, DL.p2, DL.bI, DL.pc2, DL.tc2, DL.cI, DL.pAnd, DL.pOr, DL.pNot, DL.pIf, DL.pIsi, DL.pIsi2, DL.pChain, DL.tOf, DL.tNot1, DL.tAnd2, DL.tOr2, DL.tChn, DL.tIsN, DL.tNotN, DL.pIsN, DL.pNotN, DL.pNeg, DL.pSl, DL.pSlF, DL.pSlU, DL.pRev, DL.sfN, DL.sfS, DL.iU, DL.iL, DL.iR1, DL.iR2, DL.aCons, DL.aNil, DL.pLst, DL.pTup, DL.pLc, DL.pLcF, DL.pCall, DL.lV, DL.lIx, DL.lk, DL.startD, DL.ro, DL.gN, DL.gT, DL.gTL, DL.gC_cons, DL.gNl, DL.iS, DL.iE, DL.sAppC, DL.IsI_int, DL.toI_int, DL.IsB_bl, DL.toB_bl, DL.IsS_str, DL.toS_str, DL.IsL_lst, DL.IsU_tup, DL.IsQ_lst, DL.IsQ_tup, DL.toL_lst, DL.toL_tup, DL.drf_int, DL.drf_bl, DL.drf_str, DL.drf_non, DL.drf_lst, DL.drf_tup, DL.drf_obj, DL.drf_upd, DL.lenD_lst, DL.lenD_tup, DL.intD_int, DL.intD_bl, DL.rA_ref, DL.lf_int, DL.lf_bl, DL.lf_non, DL.lf_str, DL.lf_ref, DL.IsC_lst, DL.Ty_int, DL.Ty_tup, DL.Ty_lst, DL.Ty_bl, DL.Ty_str, DL.Ty_non, DL.wipeD, DL.ixQ, DL.tYesF, DL.bAddI, DL.bSub, DL.bMul, DL.bMod, DL.bFdiv, DL.bPow, DL.bMax2, DL.bMin2, DL.cLt, DL.cLe, DL.cGt, DL.cGe, List.set, List.map, List.length, List.length_cons, List.length_nil, List.replicate, List.nil_append, List.cons_append, List.append_nil, Option.isSome_some, Option.getD_some, Option.isSome_none, Bool.not_true, Bool.not_false, and_true, true_and, and_self, implies_true, Nat.zero_add, List.length_set, List.length_replicate]) ?_
    refine loopD_get (fun i δ N => ∃ x5 x6 x7 x8 x9, δ = [none, some (.ref p), some (.int (0 + (k : Int))), some (dR rs), some (.ref a), x5, x6, x7, x8, x9, x10, x11] ∧ N p = some ⟨true, d9⟩ ∧ N a = some ⟨true, .lst (((rs.take i).map lineS).map D.str)⟩) ?_ ?_ ?_
    · exact ⟨_, _, _, _, _, rfl, hN5, hA5⟩
    · rintro δ N ⟨x5, x6, x7, x8, x9, rfl, z1, z2⟩
      rw [List.length_map, List.take_length] at z2
      have da : drf N (.ref a) = .lst ((rs.map lineS).map D.str) := drf_ref z2
      refine st_set (dR rs) (by simp only [DL.sSetZ, DL.sRetZ, DL.sPar1, DL.sSeq, DL.sIf, DL.sSet, DL.sSetM, DL.sSetMN, DL.sAppN, DL.sSetMT, DL.sSetMS, DL.wLc, DL.wYes, DL.wPop, DL.wSl, DL.w1, DL.w1r, DL.lcW, DL.sFor, DL.sNext, DL.sRet, DL.sRetF, DL.sRetN, DL.sDrop, DL.sApp, DL.sAppR, DL.sSetIx, DL.sPar, DL.sParM, DL.sAsg, DL.wP, DL.wT, DL.wA, DL.wCall, DL.wCallP, DL.wACons, DL.wANil, DL.w2, DL.w2c, DL.w2t, DL.wIf, DL.wTup, DL.wLst, DL.wR1, DL.wAnd, DL.wOr, DL.wNot, DL.wTV, DL.pVar, DL.pInt, DL.pBl, DL.pStr, DL.pNon, DL.pDr, DL.pLf, DL.p1, DL.p2, DL.bI, DL.pc2, DL.tc2, DL.cI, DL.pAnd, DL.pOr, DL.pNot, DL.pIf, DL.pIsi, DL.pIsi2, DL.pChain, DL.tOf, DL.tNot1, DL.tAnd2, DL.tOr2, DL.tChn, DL.tIsN, DL.tNotN, DL.pIsN, DL.pNotN, DL.pNeg, DL.pSl, DL.pSlF, DL.pSlU, DL.pRev, DL.sfN, DL.sfS, DL.iU, DL.iL, DL.iR1, DL.iR2, DL.aCons, DL.aNil, DL.pLst, DL.pTup, DL.pLc, DL.pLcF, DL.pCall, DL.lV, DL.lIx, DL.lk, DL.startD, DL.ro, DL.gN, DL.gT, DL.gTL, DL.gC_cons, DL.gNl, DL.iS, DL.iE, DL.sAppC, DL.IsI_int, DL.toI_int, DL.IsB_bl, DL.toB_bl, DL.IsS_str, DL.toS_str, DL.IsL_lst, DL.IsU_tup, DL.IsQ_lst, DL.IsQ_tup, DL.toL_lst, DL.toL_tup, DL.drf_int, DL.drf_bl, DL.drf_str, DL.drf_non, DL.drf_lst, DL.drf_tup, DL.drf_obj, DL.drf_upd, DL.lenD_lst, DL.lenD_tup, DL.intD_int, DL.intD_bl, DL.rA_ref, DL.lf_int, DL.lf_bl, DL.lf_non, DL.lf_str, DL.lf_ref, DL.IsC_lst, DL.Ty_int, DL.Ty_tup, DL.Ty_lst, DL.Ty_bl, DL.Ty_str, DL.Ty_non, DL.wipeD, DL.ixQ, DL.tYesF, DL.bAddI, DL.bSub, DL.bMul, DL.bMod, DL.bFdiv, DL.bPow, DL.bMax2, DL.bMin2, DL.cLt, DL.cLe, DL.cGt, DL.cGe, List.set, List.map, List.length, List.length_cons, List.length_nil, List.replicate, List.nil_append, List.cons_append, List.append_nil, Option.isSome_some, Option.getD_some, Option.isSome_none, Bool.not_true, Bool.not_false, and_true, true_and, and_self, implies_true, Nat.zero_add, List.length_set, List.length_replicate, lstD]; rw [List.length_map]; show _ ≤ 16000000; omega) rfl ?_
      refine st_set (.str (textS rs)) (by
        have hs := sum_lines hrf
        simp only [DL.sSetZ, DL.sRetZ, DL.sPar1, DL.sSeq, DL.sIf, DL.sSet, DL.sSetM, DL.sSetMN, DL.sAppN, DL.sSetMT, DL.sSetMS, DL.wLc, DL.wYes, DL.wPop, DL.wSl, DL.w1, DL.w1r, DL.lcW, DL.sFor, DL.sNext, DL.sRet, DL.sRetF, DL.sRetN, DL.sDrop, DL.sApp, DL.sAppR, DL.sSetIx, DL.sPar, DL.sParM, DL.sAsg, DL.wP, DL.wT, DL.wA, DL.wCall, DL.wCallP, DL.wACons, DL.wANil, DL.w2, DL.w2c, DL.w2t, DL.wIf, DL.wTup, DL.wLst, DL.wR1, DL.wAnd, DL.wOr, DL.wNot, DL.wTV, DL.pVar, DL.pInt, DL.pBl, DL.pStr, DL.pNon, DL.pDr, DL.pLf, DL.p1, DL.p2, DL.bI, DL.pc2, DL.tc2, DL.cI, DL.pAnd, DL.pOr, DL.pNot, DL.pIf, DL.pIsi, DL.pIsi2, DL.pChain, DL.tOf, DL.tNot1, DL.tAnd2, DL.tOr2, DL.tChn, DL.tIsN, DL.tNotN, DL.pIsN, DL.pNotN, DL.pNeg, DL.pSl, DL.pSlF, DL.pSlU, DL.pRev, DL.sfN, DL.sfS, DL.iU, DL.iL, DL.iR1, DL.iR2, DL.aCons, DL.aNil, DL.pLst, DL.pTup, DL.pLc, DL.pLcF, DL.pCall, DL.lV, DL.lIx, DL.lk, DL.startD, DL.ro, DL.gN, DL.gT, DL.gTL, DL.gC_cons, DL.gNl, DL.iS, DL.iE, DL.sAppC, DL.IsI_int, DL.toI_int, DL.IsB_bl, DL.toB_bl, DL.IsS_str, DL.toS_str, DL.IsL_lst, DL.IsU_tup, DL.IsQ_lst, DL.IsQ_tup, DL.toL_lst, DL.toL_tup, DL.drf_int, DL.drf_bl, DL.drf_str, DL.drf_non, DL.drf_lst, DL.drf_tup, DL.drf_obj, DL.drf_upd, DL.lenD_lst, DL.lenD_tup, DL.intD_int, DL.intD_bl, DL.rA_ref, DL.lf_int, DL.lf_bl, DL.lf_non, DL.lf_str, DL.lf_ref, DL.IsC_lst, DL.Ty_int, DL.Ty_tup, DL.Ty_lst, DL.Ty_bl, DL.Ty_str, DL.Ty_non, DL.wipeD, DL.ixQ, DL.tYesF, DL.bAddI, DL.bSub, DL.bMul, DL.bMod, DL.bFdiv, DL.bPow, DL.bMax2, DL.bMin2, DL.cLt, DL.cLe, DL.cGt, DL.cGe, List.set, List.map, List.length, List.length_cons, List.length_nil, List.replicate, List.nil_append, List.cons_append, List.append_nil, Option.isSome_some, Option.getD_some, Option.isSome_none, Bool.not_true, Bool.not_false, and_true, true_and, and_self, implies_true, Nat.zero_add, List.length_set, List.length_replicate, da]
        rw [joinV (by simp only [List.length_map]; show _ + _ * 1 ≤ 16000000; omega)]
        exact ⟨trivial, rfl⟩) rfl ?_
      have w1 := fun M => writtenV (M := M) hR
      have w2 := fun M => textV (M := M) hR
      have av : ∀ ds M, (ph_law_alike ds M).val = .bl true := fun _ _ => rfl
      refine st_ifF (by
        simp only [DL.sSetZ, DL.sRetZ, DL.sPar1, DL.sSeq, DL.sIf, DL.sSet, DL.sSetM, DL.sSetMN, DL.sAppN, DL.sSetMT, DL.sSetMS, DL.wLc, DL.wYes, DL.wPop, DL.wSl, DL.w1, DL.w1r, DL.lcW, DL.sFor, DL.sNext, DL.sRet, DL.sRetF, DL.sRetN, DL.sDrop, DL.sApp, DL.sAppR, DL.sSetIx, DL.sPar, DL.sParM, DL.sAsg, DL.wP, DL.wT, DL.wA, DL.wCall, DL.wCallP, DL.wACons, DL.wANil, DL.w2, DL.w2c, DL.w2t, DL.wIf, DL.wTup, DL.wLst, DL.wR1, DL.wAnd, DL.wOr, DL.wNot, DL.wTV, DL.pVar, DL.pInt, DL.pBl, DL.pStr, DL.pNon, DL.pDr, DL.pLf, DL.p1, DL.p2, DL.bI, DL.pc2, DL.tc2, DL.cI, DL.pAnd, DL.pOr, DL.pNot, DL.pIf, DL.pIsi, DL.pIsi2, DL.pChain, DL.tOf, DL.tNot1, DL.tAnd2, DL.tOr2, DL.tChn, DL.tIsN, DL.tNotN, DL.pIsN, DL.pNotN, DL.pNeg, DL.pSl, DL.pSlF, DL.pSlU, DL.pRev, DL.sfN, DL.sfS, DL.iU, DL.iL, DL.iR1, DL.iR2, DL.aCons, DL.aNil, DL.pLst, DL.pTup, DL.pLc, DL.pLcF, DL.pCall, DL.lV, DL.lIx, DL.lk, DL.startD, DL.ro, DL.gN, DL.gT, DL.gTL, DL.gC_cons, DL.gNl, DL.iS, DL.iE, DL.sAppC, DL.IsI_int, DL.toI_int, DL.IsB_bl, DL.toB_bl, DL.IsS_str, DL.toS_str, DL.IsL_lst, DL.IsU_tup, DL.IsQ_lst, DL.IsQ_tup, DL.toL_lst, DL.toL_tup, DL.drf_int, DL.drf_bl, DL.drf_str, DL.drf_non, DL.drf_lst, DL.drf_tup, DL.drf_obj, DL.drf_upd, DL.lenD_lst, DL.lenD_tup, DL.intD_int, DL.intD_bl, DL.rA_ref, DL.lf_int, DL.lf_bl, DL.lf_non, DL.lf_str, DL.lf_ref, DL.IsC_lst, DL.Ty_int, DL.Ty_tup, DL.Ty_lst, DL.Ty_bl, DL.Ty_str, DL.Ty_non, DL.wipeD, DL.ixQ, DL.tYesF, DL.bAddI, DL.bSub, DL.bMul, DL.bMod, DL.bFdiv, DL.bPow, DL.bMax2, DL.bMin2, DL.cLt, DL.cLe, DL.cGt, DL.cGe, List.set, List.map, List.length, List.length_cons, List.length_nil, List.replicate, List.nil_append, List.cons_append, List.append_nil, Option.isSome_some, Option.getD_some, Option.isSome_none, Bool.not_true, Bool.not_false, and_true, true_and, and_self, implies_true, Nat.zero_add, List.length_set, List.length_replicate, w1, w2, av, ne_self (okD_rows (rs := rs))]
        exact ⟨⟨⟨_, rfl, text_ok hrf⟩, fun _ _ => ⟨_, rfl, pl_rows (by omega)⟩⟩, rfl⟩) ?_
      show _ ∧ _
      simp only [DL.sSetZ, DL.sRetZ, DL.sPar1, DL.sSeq, DL.sIf, DL.sSet, DL.sSetM, DL.sSetMN, DL.sAppN, DL.sSetMT, DL.sSetMS, DL.wLc, DL.wYes, DL.wPop, DL.wSl, DL.w1, DL.w1r, DL.lcW, DL.sFor, DL.sNext, DL.sRet, DL.sRetF, DL.sRetN, DL.sDrop, DL.sApp, DL.sAppR, DL.sSetIx, DL.sPar, DL.sParM, DL.sAsg, DL.wP, DL.wT, DL.wA, DL.wCall, DL.wCallP, DL.wACons, DL.wANil, DL.w2, DL.w2c, DL.w2t, DL.wIf, DL.wTup, DL.wLst, DL.wR1, DL.wAnd, DL.wOr, DL.wNot, DL.wTV, DL.pVar, DL.pInt, DL.pBl, DL.pStr, DL.pNon, DL.pDr, DL.pLf, DL.p1, DL.p2, DL.bI, DL.pc2, DL.tc2, DL.cI, DL.pAnd, DL.pOr, DL.pNot, DL.pIf, DL.pIsi, DL.pIsi2, DL.pChain, DL.tOf, DL.tNot1, DL.tAnd2, DL.tOr2, DL.tChn, DL.tIsN, DL.tNotN, DL.pIsN, DL.pNotN, DL.pNeg, DL.pSl, DL.pSlF, DL.pSlU, DL.pRev, DL.sfN, DL.sfS, DL.iU, DL.iL, DL.iR1, DL.iR2, DL.aCons, DL.aNil, DL.pLst, DL.pTup, DL.pLc, DL.pLcF, DL.pCall, DL.lV, DL.lIx, DL.lk, DL.startD, DL.ro, DL.gN, DL.gT, DL.gTL, DL.gC_cons, DL.gNl, DL.iS, DL.iE, DL.sAppC, DL.IsI_int, DL.toI_int, DL.IsB_bl, DL.toB_bl, DL.IsS_str, DL.toS_str, DL.IsL_lst, DL.IsU_tup, DL.IsQ_lst, DL.IsQ_tup, DL.toL_lst, DL.toL_tup, DL.drf_int, DL.drf_bl, DL.drf_str, DL.drf_non, DL.drf_lst, DL.drf_tup, DL.drf_obj, DL.drf_upd, DL.lenD_lst, DL.lenD_tup, DL.intD_int, DL.intD_bl, DL.rA_ref, DL.lf_int, DL.lf_bl, DL.lf_non, DL.lf_str, DL.lf_ref, DL.IsC_lst, DL.Ty_int, DL.Ty_tup, DL.Ty_lst, DL.Ty_bl, DL.Ty_str, DL.Ty_non, DL.wipeD, DL.ixQ, DL.tYesF, DL.bAddI, DL.bSub, DL.bMul, DL.bMod, DL.bFdiv, DL.bPow, DL.bMax2, DL.bMin2, DL.cLt, DL.cLe, DL.cGt, DL.cGe, List.set, List.map, List.length, List.length_cons, List.length_nil, List.replicate, List.nil_append, List.cons_append, List.append_nil, Option.isSome_some, Option.getD_some, Option.isSome_none, Bool.not_true, Bool.not_false, and_true, true_and, and_self, implies_true, Nat.zero_add, List.length_set, List.length_replicate, w2]
      exact ⟨by decide, by rw [List.length_map]; show _ < 16000000; omega, hL _ _ ⟨_, _, _, _, _, _, _, _, _, _, _, rfl, z1, hd9⟩⟩
    · rintro i d0 δ N L2 hd0 hL2 ⟨x5, x6, x7, x8, x9, rfl, z1, z2⟩
      rw [List.getElem?_map] at hd0
      obtain ⟨r, hr, rfl⟩ := Option.map_eq_some_iff.mp hd0
      have hmem : r ∈ rs := List.mem_of_getElem? hr
      obtain ⟨hf, hm⟩ := hR.rf1 hmem
      refine ⟨by simp only [rowD, DL.sSetZ, DL.sRetZ, DL.sPar1, DL.sSeq, DL.sIf, DL.sSet, DL.sSetM, DL.sSetMN, DL.sAppN, DL.sSetMT, DL.sSetMS, DL.wLc, DL.wYes, DL.wPop, DL.wSl, DL.w1, DL.w1r, DL.lcW, DL.sFor, DL.sNext, DL.sRet, DL.sRetF, DL.sRetN, DL.sDrop, DL.sApp, DL.sAppR, DL.sSetIx, DL.sPar, DL.sParM, DL.sAsg, DL.wP, DL.wT, DL.wA, DL.wCall, DL.wCallP, DL.wACons, DL.wANil, DL.w2, DL.w2c, DL.w2t, DL.wIf, DL.wTup, DL.wLst, DL.wR1, DL.wAnd, DL.wOr, DL.wNot, DL.wTV, DL.pVar, DL.pInt, DL.pBl, DL.pStr, DL.pNon, DL.pDr, DL.pLf, DL.p1, DL.p2, DL.bI, DL.pc2, DL.tc2, DL.cI, DL.pAnd, DL.pOr, DL.pNot, DL.pIf, DL.pIsi, DL.pIsi2, DL.pChain, DL.tOf, DL.tNot1, DL.tAnd2, DL.tOr2, DL.tChn, DL.tIsN, DL.tNotN, DL.pIsN, DL.pNotN, DL.pNeg, DL.pSl, DL.pSlF, DL.pSlU, DL.pRev, DL.sfN, DL.sfS, DL.iU, DL.iL, DL.iR1, DL.iR2, DL.aCons, DL.aNil, DL.pLst, DL.pTup, DL.pLc, DL.pLcF, DL.pCall, DL.lV, DL.lIx, DL.lk, DL.startD, DL.ro, DL.gN, DL.gT, DL.gTL, DL.gC_cons, DL.gNl, DL.iS, DL.iE, DL.sAppC, DL.IsI_int, DL.toI_int, DL.IsB_bl, DL.toB_bl, DL.IsS_str, DL.toS_str, DL.IsL_lst, DL.IsU_tup, DL.IsQ_lst, DL.IsQ_tup, DL.toL_lst, DL.toL_tup, DL.drf_int, DL.drf_bl, DL.drf_str, DL.drf_non, DL.drf_lst, DL.drf_tup, DL.drf_obj, DL.drf_upd, DL.lenD_lst, DL.lenD_tup, DL.intD_int, DL.intD_bl, DL.rA_ref, DL.lf_int, DL.lf_bl, DL.lf_non, DL.lf_str, DL.lf_ref, DL.IsC_lst, DL.Ty_int, DL.Ty_tup, DL.Ty_lst, DL.Ty_bl, DL.Ty_str, DL.Ty_non, DL.wipeD, DL.ixQ, DL.tYesF, DL.bAddI, DL.bSub, DL.bMul, DL.bMod, DL.bFdiv, DL.bPow, DL.bMax2, DL.bMin2, DL.cLt, DL.cLe, DL.cGt, DL.cGe, List.set, List.map, List.length, List.length_cons, List.length_nil, List.replicate, List.nil_append, List.cons_append, List.append_nil, Option.isSome_some, Option.getD_some, Option.isSome_none, Bool.not_true, Bool.not_false, and_true, true_and, and_self, implies_true, Nat.zero_add, List.length_set, List.length_replicate]; decide, ?_⟩
      show sSeq _ _ _ [none, some (.ref p), some (.int (0 + (k : Int))), some (dR rs), some (.ref a), some (.int r.id), some (.str (kindS r.live)), some (.int r.len), some (moD r.mo), x9, x10, x11] N
      refine st_set (.str (numS r.id ++ " " ++ kindS r.live ++ " " ++ numS r.len)) (by
        have s1 := strV hf.id.1 hf.id.2
        have s2 := strV hf.len.1 hf.len.2
        have b1 := (numS_len hf.id.1 hf.id.2).2
        have b2 := (numS_len hf.len.1 hf.len.2).2
        have b3 : (kindS r.live).length = 4 := by cases r.live <;> rfl
        have b4 : (Str.ofString " ").length = 1 := rfl
        simp only [DL.sSetZ, DL.sRetZ, DL.sPar1, DL.sSeq, DL.sIf, DL.sSet, DL.sSetM, DL.sSetMN, DL.sAppN, DL.sSetMT, DL.sSetMS, DL.wLc, DL.wYes, DL.wPop, DL.wSl, DL.w1, DL.w1r, DL.lcW, DL.sFor, DL.sNext, DL.sRet, DL.sRetF, DL.sRetN, DL.sDrop, DL.sApp, DL.sAppR, DL.sSetIx, DL.sPar, DL.sParM, DL.sAsg, DL.wP, DL.wT, DL.wA, DL.wCall, DL.wCallP, DL.wACons, DL.wANil, DL.w2, DL.w2c, DL.w2t, DL.wIf, DL.wTup, DL.wLst, DL.wR1, DL.wAnd, DL.wOr, DL.wNot, DL.wTV, DL.pVar, DL.pInt, DL.pBl, DL.pStr, DL.pNon, DL.pDr, DL.pLf, DL.p1, DL.p2, DL.bI, DL.pc2, DL.tc2, DL.cI, DL.pAnd, DL.pOr, DL.pNot, DL.pIf, DL.pIsi, DL.pIsi2, DL.pChain, DL.tOf, DL.tNot1, DL.tAnd2, DL.tOr2, DL.tChn, DL.tIsN, DL.tNotN, DL.pIsN, DL.pNotN, DL.pNeg, DL.pSl, DL.pSlF, DL.pSlU, DL.pRev, DL.sfN, DL.sfS, DL.iU, DL.iL, DL.iR1, DL.iR2, DL.aCons, DL.aNil, DL.pLst, DL.pTup, DL.pLc, DL.pLcF, DL.pCall, DL.lV, DL.lIx, DL.lk, DL.startD, DL.ro, DL.gN, DL.gT, DL.gTL, DL.gC_cons, DL.gNl, DL.iS, DL.iE, DL.sAppC, DL.IsI_int, DL.toI_int, DL.IsB_bl, DL.toB_bl, DL.IsS_str, DL.toS_str, DL.IsL_lst, DL.IsU_tup, DL.IsQ_lst, DL.IsQ_tup, DL.toL_lst, DL.toL_tup, DL.drf_int, DL.drf_bl, DL.drf_str, DL.drf_non, DL.drf_lst, DL.drf_tup, DL.drf_obj, DL.drf_upd, DL.lenD_lst, DL.lenD_tup, DL.intD_int, DL.intD_bl, DL.rA_ref, DL.lf_int, DL.lf_bl, DL.lf_non, DL.lf_str, DL.lf_ref, DL.IsC_lst, DL.Ty_int, DL.Ty_tup, DL.Ty_lst, DL.Ty_bl, DL.Ty_str, DL.Ty_non, DL.wipeD, DL.ixQ, DL.tYesF, DL.bAddI, DL.bSub, DL.bMul, DL.bMod, DL.bFdiv, DL.bPow, DL.bMax2, DL.bMin2, DL.cLt, DL.cLe, DL.cGt, DL.cGe, List.set, List.map, List.length, List.length_cons, List.length_nil, List.replicate, List.nil_append, List.cons_append, List.append_nil, Option.isSome_some, Option.getD_some, Option.isSome_none, Bool.not_true, Bool.not_false, and_true, true_and, and_self, implies_true, Nat.zero_add, List.length_set, List.length_replicate, s1, s2, catSV, len_app, b3, b4]
        refine ⟨⟨⟨?_, ?_⟩, ?_⟩, ?_⟩ <;> · show _ ≤ 16000000; omega) rfl ?_
      refine st_app1 (a := a) (π := []) (.str (lineS r)) (by
        have lc := line_cat (r := r)
        cases hmo : r.mo with
        | none =>
          rw [hmo] at lc
          have lc : numS r.id ++ " " ++ kindS r.live ++ " " ++ numS r.len = lineS r := lc
          simp only [DL.sSetZ, DL.sRetZ, DL.sPar1, DL.sSeq, DL.sIf, DL.sSet, DL.sSetM, DL.sSetMN, DL.sAppN, DL.sSetMT, DL.sSetMS, DL.wLc, DL.wYes, DL.wPop, DL.wSl, DL.w1, DL.w1r, DL.lcW, DL.sFor, DL.sNext, DL.sRet, DL.sRetF, DL.sRetN, DL.sDrop, DL.sApp, DL.sAppR, DL.sSetIx, DL.sPar, DL.sParM, DL.sAsg, DL.wP, DL.wT, DL.wA, DL.wCall, DL.wCallP, DL.wACons, DL.wANil, DL.w2, DL.w2c, DL.w2t, DL.wIf, DL.wTup, DL.wLst, DL.wR1, DL.wAnd, DL.wOr, DL.wNot, DL.wTV, DL.pVar, DL.pInt, DL.pBl, DL.pStr, DL.pNon, DL.pDr, DL.pLf, DL.p1, DL.p2, DL.bI, DL.pc2, DL.tc2, DL.cI, DL.pAnd, DL.pOr, DL.pNot, DL.pIf, DL.pIsi, DL.pIsi2, DL.pChain, DL.tOf, DL.tNot1, DL.tAnd2, DL.tOr2, DL.tChn, DL.tIsN, DL.tNotN, DL.pIsN, DL.pNotN, DL.pNeg, DL.pSl, DL.pSlF, DL.pSlU, DL.pRev, DL.sfN, DL.sfS, DL.iU, DL.iL, DL.iR1, DL.iR2, DL.aCons, DL.aNil, DL.pLst, DL.pTup, DL.pLc, DL.pLcF, DL.pCall, DL.lV, DL.lIx, DL.lk, DL.startD, DL.ro, DL.gN, DL.gT, DL.gTL, DL.gC_cons, DL.gNl, DL.iS, DL.iE, DL.sAppC, DL.IsI_int, DL.toI_int, DL.IsB_bl, DL.toB_bl, DL.IsS_str, DL.toS_str, DL.IsL_lst, DL.IsU_tup, DL.IsQ_lst, DL.IsQ_tup, DL.toL_lst, DL.toL_tup, DL.drf_int, DL.drf_bl, DL.drf_str, DL.drf_non, DL.drf_lst, DL.drf_tup, DL.drf_obj, DL.drf_upd, DL.lenD_lst, DL.lenD_tup, DL.intD_int, DL.intD_bl, DL.rA_ref, DL.lf_int, DL.lf_bl, DL.lf_non, DL.lf_str, DL.lf_ref, DL.IsC_lst, DL.Ty_int, DL.Ty_tup, DL.Ty_lst, DL.Ty_bl, DL.Ty_str, DL.Ty_non, DL.wipeD, DL.ixQ, DL.tYesF, DL.bAddI, DL.bSub, DL.bMul, DL.bMod, DL.bFdiv, DL.bPow, DL.bMax2, DL.bMin2, DL.cLt, DL.cLe, DL.cGt, DL.cGe, List.set, List.map, List.length, List.length_cons, List.length_nil, List.replicate, List.nil_append, List.cons_append, List.append_nil, Option.isSome_some, Option.getD_some, Option.isSome_none, Bool.not_true, Bool.not_false, and_true, true_and, and_self, implies_true, Nat.zero_add, List.length_set, List.length_replicate, moD, isN, lc]
          exact ⟨by simp [lf], by simp⟩
        | some m =>
          rw [hmo] at lc
          have hm2 := hm m hmo
          have lc : numS r.id ++ " " ++ kindS r.live ++ " " ++ numS r.len ++ " " ++ numS m = lineS r := lc
          have s3 := strV (show 0 ≤ m by omega) (show m ≤ 999 by omega)
          have ll := line_len hf
          simp only [DL.sSetZ, DL.sRetZ, DL.sPar1, DL.sSeq, DL.sIf, DL.sSet, DL.sSetM, DL.sSetMN, DL.sAppN, DL.sSetMT, DL.sSetMS, DL.wLc, DL.wYes, DL.wPop, DL.wSl, DL.w1, DL.w1r, DL.lcW, DL.sFor, DL.sNext, DL.sRet, DL.sRetF, DL.sRetN, DL.sDrop, DL.sApp, DL.sAppR, DL.sSetIx, DL.sPar, DL.sParM, DL.sAsg, DL.wP, DL.wT, DL.wA, DL.wCall, DL.wCallP, DL.wACons, DL.wANil, DL.w2, DL.w2c, DL.w2t, DL.wIf, DL.wTup, DL.wLst, DL.wR1, DL.wAnd, DL.wOr, DL.wNot, DL.wTV, DL.pVar, DL.pInt, DL.pBl, DL.pStr, DL.pNon, DL.pDr, DL.pLf, DL.p1, DL.p2, DL.bI, DL.pc2, DL.tc2, DL.cI, DL.pAnd, DL.pOr, DL.pNot, DL.pIf, DL.pIsi, DL.pIsi2, DL.pChain, DL.tOf, DL.tNot1, DL.tAnd2, DL.tOr2, DL.tChn, DL.tIsN, DL.tNotN, DL.pIsN, DL.pNotN, DL.pNeg, DL.pSl, DL.pSlF, DL.pSlU, DL.pRev, DL.sfN, DL.sfS, DL.iU, DL.iL, DL.iR1, DL.iR2, DL.aCons, DL.aNil, DL.pLst, DL.pTup, DL.pLc, DL.pLcF, DL.pCall, DL.lV, DL.lIx, DL.lk, DL.startD, DL.ro, DL.gN, DL.gT, DL.gTL, DL.gC_cons, DL.gNl, DL.iS, DL.iE, DL.sAppC, DL.IsI_int, DL.toI_int, DL.IsB_bl, DL.toB_bl, DL.IsS_str, DL.toS_str, DL.IsL_lst, DL.IsU_tup, DL.IsQ_lst, DL.IsQ_tup, DL.toL_lst, DL.toL_tup, DL.drf_int, DL.drf_bl, DL.drf_str, DL.drf_non, DL.drf_lst, DL.drf_tup, DL.drf_obj, DL.drf_upd, DL.lenD_lst, DL.lenD_tup, DL.intD_int, DL.intD_bl, DL.rA_ref, DL.lf_int, DL.lf_bl, DL.lf_non, DL.lf_str, DL.lf_ref, DL.IsC_lst, DL.Ty_int, DL.Ty_tup, DL.Ty_lst, DL.Ty_bl, DL.Ty_str, DL.Ty_non, DL.wipeD, DL.ixQ, DL.tYesF, DL.bAddI, DL.bSub, DL.bMul, DL.bMod, DL.bFdiv, DL.bPow, DL.bMax2, DL.bMin2, DL.cLt, DL.cLe, DL.cGt, DL.cGe, List.set, List.map, List.length, List.length_cons, List.length_nil, List.replicate, List.nil_append, List.cons_append, List.append_nil, Option.isSome_some, Option.getD_some, Option.isSome_none, Bool.not_true, Bool.not_false, and_true, true_and, and_self, implies_true, Nat.zero_add, List.length_set, List.length_replicate, moD, isN, s3, catSV, lc]
          have l2 : (numS r.id ++ Str.ofString " " ++ kindS r.live ++ Str.ofString " " ++ numS r.len ++ Str.ofString " ").length + (numS m).length = (lineS r).length := by rw [← len_app]; exact congrArg Str.length lc
          have l3 := len_app (numS r.id ++ Str.ofString " " ++ kindS r.live ++ Str.ofString " " ++ numS r.len) (Str.ofString " ")
          refine ⟨(if_neg (by decide)).mpr ⟨?_, ?_⟩, if_neg (by decide)⟩ <;> · show _ ≤ 16000000; omega) (by simp only [DL.sSetZ, DL.sRetZ, DL.sPar1, DL.sSeq, DL.sIf, DL.sSet, DL.sSetM, DL.sSetMN, DL.sAppN, DL.sSetMT, DL.sSetMS, DL.wLc, DL.wYes, DL.wPop, DL.wSl, DL.w1, DL.w1r, DL.lcW, DL.sFor, DL.sNext, DL.sRet, DL.sRetF, DL.sRetN, DL.sDrop, DL.sApp, DL.sAppR, DL.sSetIx, DL.sPar, DL.sParM, DL.sAsg, DL.wP, DL.wT, DL.wA, DL.wCall, DL.wCallP, DL.wACons, DL.wANil, DL.w2, DL.w2c, DL.w2t, DL.wIf, DL.wTup, DL.wLst, DL.wR1, DL.wAnd, DL.wOr, DL.wNot, DL.wTV, DL.pVar, DL.pInt, DL.pBl, DL.pStr, DL.pNon, DL.pDr, DL.pLf, DL.p1, DL.p2, DL.bI, DL.pc2, DL.tc2, DL.cI, DL.pAnd, DL.pOr, DL.pNot, DL.pIf, DL.pIsi, DL.pIsi2, DL.pChain, DL.tOf, DL.tNot1, DL.tAnd2, DL.tOr2, DL.tChn, DL.tIsN, DL.tNotN, DL.pIsN, DL.pNotN, DL.pNeg, DL.pSl, DL.pSlF, DL.pSlU, DL.pRev, DL.sfN, DL.sfS, DL.iU, DL.iL, DL.iR1, DL.iR2, DL.aCons, DL.aNil, DL.pLst, DL.pTup, DL.pLc, DL.pLcF, DL.pCall, DL.lV, DL.lIx, DL.lk, DL.startD, DL.ro, DL.gN, DL.gT, DL.gTL, DL.gC_cons, DL.gNl, DL.iS, DL.iE, DL.sAppC, DL.IsI_int, DL.toI_int, DL.IsB_bl, DL.toB_bl, DL.IsS_str, DL.toS_str, DL.IsL_lst, DL.IsU_tup, DL.IsQ_lst, DL.IsQ_tup, DL.toL_lst, DL.toL_tup, DL.drf_int, DL.drf_bl, DL.drf_str, DL.drf_non, DL.drf_lst, DL.drf_tup, DL.drf_obj, DL.drf_upd, DL.lenD_lst, DL.lenD_tup, DL.intD_int, DL.intD_bl, DL.rA_ref, DL.lf_int, DL.lf_bl, DL.lf_non, DL.lf_str, DL.lf_ref, DL.IsC_lst, DL.Ty_int, DL.Ty_tup, DL.Ty_lst, DL.Ty_bl, DL.Ty_str, DL.Ty_non, DL.wipeD, DL.ixQ, DL.tYesF, DL.bAddI, DL.bSub, DL.bMul, DL.bMod, DL.bFdiv, DL.bPow, DL.bMax2, DL.bMin2, DL.cLt, DL.cLe, DL.cGt, DL.cGe, List.set, List.map, List.length, List.length_cons, List.length_nil, List.replicate, List.nil_append, List.cons_append, List.append_nil, Option.isSome_some, Option.getD_some, Option.isSome_none, Bool.not_true, Bool.not_false, and_true, true_and, and_self, implies_true, Nat.zero_add, List.length_set, List.length_replicate]) z2 sub_nil (by rw [List.length_map, List.length_map, List.length_take]; show _ < 16000000; omega) ?_
      refine hL2 _ _ ⟨_, _, _, _, _, rfl, by rw [updN_ne hap.symm]; exact z1, ?_⟩
      rw [updN_same, put_nil, List.take_succ, hr]
      simp only [List.map_append]; rfl
end K13
set_option maxHeartbeats 0
namespace K13
open PySem L2 DL
section
variable {P : Program} {w : World} {K : PySem.W.Frag} {mg : Str → Option Value} {base : Heap}
theorem has_is_number (B : Bi mg) (G : Fs K mg) : Has P w K mg base "is_number" 1 ["part", "low", "high"] (spP 3 ph_is_number) := by
  obtain ⟨f, fd, F, m⟩ := G.f_is_number
  exact ⟨f, fd, fn_pure F sc_is_number rfl (by decide) fun cdv A outer s H E hr => ⟨w_is_number, d_is_number B hr, r_is_number⟩, m, F.kp, F.binds fun _ _ _ _ _ _ us hl => match us, hl with | [_, _, _], _ => rfl⟩
theorem has_is_row (B : Bi mg) (G : Fs K mg) : Has P w K mg base "is_row" 2 ["row"] (spP 1 ph_is_row) := by
  obtain ⟨f, fd, F, m⟩ := G.f_is_row
  exact ⟨f, fd, fn_pure F sc_is_row rfl (by decide) fun cdv A outer s H E hr => ⟨w_is_row, d_is_row B hr (has_is_number B G), r_is_row⟩, m, F.kp, F.binds fun _ _ _ _ _ _ us hl => match us, hl with | [_], _ => rfl⟩
theorem has_need_rows (B : Bi mg) (G : Fs K mg) : Has P w K mg base "need_rows" 3 ["rows", "begin", "end"] (spP 3 ph_need_rows) := by
  obtain ⟨f, fd, F, m⟩ := G.f_need_rows
  exact ⟨f, fd, fn_pure F sc_need_rows rfl (by decide) fun cdv A outer s H E hr => ⟨w_need_rows, d_need_rows B hr (has_is_row B G), r_need_rows⟩, m, F.kp, F.binds fun _ _ _ _ _ _ us hl => match us, hl with | [_, _, _], _ => rfl⟩
theorem has_written (B : Bi mg) (G : Fs K mg) : Has P w K mg base "written" 4 ["rows"] (spP 1 ph_written) := by
  obtain ⟨f, fd, F, m⟩ := G.f_written
  exact ⟨f, fd, fn_pure F sc_written rfl (by decide) fun cdv A outer s H E hr => ⟨w_written, d_written B hr (has_need_rows B G), r_written⟩, m, F.kp, F.binds fun _ _ _ _ _ _ us hl => match us, hl with | [_], _ => rfl⟩
theorem has_number_of (B : Bi mg) (G : Fs K mg) : Has P w K mg base "number_of" 1 ["word"] (spP 1 ph_number_of) := by
  obtain ⟨f, fd, F, m⟩ := G.f_number_of
  exact ⟨f, fd, fn_pure F sc_number_of rfl (by decide) fun cdv A outer s H E hr => ⟨w_number_of, d_number_of B hr, r_number_of⟩, m, F.kp, F.binds fun _ _ _ _ _ _ us hl => match us, hl with | [_], _ => rfl⟩
theorem has_row_of (B : Bi mg) (G : Fs K mg) : Has P w K mg base "row_of" 3 ["words"] (spP 1 ph_row_of) := by
  obtain ⟨f, fd, F, m⟩ := G.f_row_of
  exact ⟨f, fd, fn_pure F sc_row_of rfl (by decide) fun cdv A outer s H E hr => ⟨w_row_of, d_row_of B hr (has_number_of B G) (has_is_row B G), r_row_of⟩, m, F.kp, F.binds fun _ _ _ _ _ _ us hl => match us, hl with | [_], _ => rfl⟩
theorem has_read (B : Bi mg) (G : Fs K mg) : Has P w K mg base "read" 4 ["text"] (spP 1 ph_read) := by
  obtain ⟨f, fd, F, m⟩ := G.f_read
  exact ⟨f, fd, fn_pure F sc_read rfl (by decide) fun cdv A outer s H E hr => ⟨w_read, d_read B hr (has_row_of B G), r_read⟩, m, F.kp, F.binds fun _ _ _ _ _ _ us hl => match us, hl with | [_], _ => rfl⟩
theorem has_law_next (B : Bi mg) (G : Fs K mg) : Has P w K mg base "_law_next" 1 ["_law_h", "_law_many"] (spM 2 sp_law_next) := by
  obtain ⟨f, fd, F, m⟩ := G.f_law_next
  exact ⟨f, fd, fn_mut F sc_law_next rfl (by decide) fun cdv A outer s H E hr => ⟨w_law_next, d_law_next B hr, r_law_next⟩, m, F.kp, F.binds fun _ _ _ _ _ _ us hl => match us, hl with | [_, _], _ => rfl⟩
theorem hasr_law_alike (B : Bi mg) (G : Fs K mg) : ∀ n, Has P w K mg base "_law_alike" n ["_law_found", "_law_due"] (spP 2 (phr_law_alike n))
  | 0 => by
    obtain ⟨f, fd, F, m⟩ := G.f_law_alike
    exact ⟨f, fd, ⟨fun vs H Q E h => (by obtain ⟨ds, M, fps, rl, _, hl, ok, _⟩ := h; exact ok.elim), fun A outer s H args us vs Q E _ _ _ _ h => (by obtain ⟨ds, M, fps, rl, _, hl, ok, _⟩ := h; exact ok.elim)⟩, m, F.kp, F.binds fun _ _ _ _ _ _ us hl => match us, hl with | [_, _], _ => rfl⟩
  | n + 1 => by
    obtain ⟨f, fd, F, m⟩ := G.f_law_alike
    have ih : Has P w K mg base "_law_alike" n ["_law_found", "_law_due"] (spP 2 (phr_law_alike n)) := hasr_law_alike B G n
    exact ⟨f, fd, fn_pure F sc_law_alike rfl (by decide) fun cdv A outer s H E hr => ⟨w_law_alike n, d_law_alike B hr ih, r_law_alike n⟩, m, F.kp, F.binds fun _ _ _ _ _ _ us hl => match us, hl with | [_, _], _ => rfl⟩
theorem has_law_alike (B : Bi mg) (G : Fs K mg) : Has P w K mg base "_law_alike" 6 ["_law_found", "_law_due"] (spP 2 ph_law_alike) := hasr_law_alike B G 6
theorem has_law_fillers (B : Bi mg) (G : Fs K mg) : Has P w K mg base "_law_fillers" 2 ["_law_h"] (spM 1 sp_law_fillers) := by
  obtain ⟨f, fd, F, m⟩ := G.f_law_fillers
  exact ⟨f, fd, fn_mut F sc_law_fillers rfl (by decide) fun cdv A outer s H E hr => ⟨w_law_fillers, d_law_fillers B hr (has_law_next B G), r_law_fillers⟩, m, F.kp, F.binds fun _ _ _ _ _ _ us hl => match us, hl with | [_], _ => rfl⟩
theorem has_law_rows (B : Bi mg) (G : Fs K mg) : Has P w K mg base "_law_rows" 2 ["_law_h", "_law_begin", "_law_end", "_law_most"] (spM 4 sp_law_rows) := by
  obtain ⟨f, fd, F, m⟩ := G.f_law_rows
  exact ⟨f, fd, fn_mut F sc_law_rows rfl (by decide) fun cdv A outer s H E hr => ⟨w_law_rows, d_law_rows B hr (has_law_next B G), r_law_rows⟩, m, F.kp, F.binds fun _ _ _ _ _ _ us hl => match us, hl with | [_, _, _, _], _ => rfl⟩
theorem has_law_mix (B : Bi mg) (G : Fs K mg) : Has P w K mg base "_law_mix" 1 ["_law_script", "_law_seed"] (spMix K) := by
  obtain ⟨f, fd, F, m⟩ := G.f_law_mix
  exact has_law_mix0 B F m
theorem fn_law (B : Bi mg) (G : Fs K mg) {f : Addr} {fd : FuncData} (F : L2.Fun K "law" "law" s_law f fd) : FnOk P w K mg base (L2.CX P w) 7 f fd ["_law_script"] (spLaw K) :=
  F.okX sc_law (fun vs H Q E h => (by obtain ⟨a, ns, rfl, _⟩ := h; rfl)) (fun cdv A outer s H vs Q E hr h => ⟨_, d_law B hr (has_law_mix B G) (has_law_rows B G) (has_read B G) (has_written B G) (has_law_next B G) (has_law_alike B G), (by
    obtain ⟨a, ns, rfl, hs, q⟩ := h
    exact ⟨_, rfl, a, ns, 43, rfl, by decide, by decide, hs, fun m' p qq g0 g1 hne hq hp => mix_to (n := 10) hq hp hne (r_law p m' ns g0 g1) (fun H' => q H')⟩)⟩)
end
def loose0 : List PySem.Str := ["AirError", "BadRows", "BadText", "MOST_ID", "MOST_LENGTH", "MOST_END", "MOST_ROWS", "CLIP", "LIVE", "is_number", "is_row", "need_rows", "FIGURES", "MOST_FIGURES", "LAST_MOMENT", "written", "number_of", "row_of", "read", "_law_mix", "_law_next", "_law_alike", "_law_fillers", "_law_rows"]
def loose : List PySem.Str := loose0
def e_is_number : He.FnD := ⟨("is_number", none), "is_number", "is_number", defArgs s_is_number, defBody s_is_number, defScope s_is_number⟩
def e_is_row : He.FnD := ⟨("is_row", none), "is_row", "is_row", defArgs s_is_row, defBody s_is_row, defScope s_is_row⟩
def e_need_rows : He.FnD := ⟨("need_rows", none), "need_rows", "need_rows", defArgs s_need_rows, defBody s_need_rows, defScope s_need_rows⟩
def e_written : He.FnD := ⟨("written", none), "written", "written", defArgs s_written, defBody s_written, defScope s_written⟩
def e_number_of : He.FnD := ⟨("number_of", none), "number_of", "number_of", defArgs s_number_of, defBody s_number_of, defScope s_number_of⟩
def e_row_of : He.FnD := ⟨("row_of", none), "row_of", "row_of", defArgs s_row_of, defBody s_row_of, defScope s_row_of⟩
def e_read : He.FnD := ⟨("read", none), "read", "read", defArgs s_read, defBody s_read, defScope s_read⟩
def e_law_mix : He.FnD := ⟨("_law_mix", none), "_law_mix", "_law_mix", defArgs s_law_mix, defBody s_law_mix, defScope s_law_mix⟩
def e_law_next : He.FnD := ⟨("_law_next", none), "_law_next", "_law_next", defArgs s_law_next, defBody s_law_next, defScope s_law_next⟩
def e_law_alike : He.FnD := ⟨("_law_alike", none), "_law_alike", "_law_alike", defArgs s_law_alike, defBody s_law_alike, defScope s_law_alike⟩
def e_law_fillers : He.FnD := ⟨("_law_fillers", none), "_law_fillers", "_law_fillers", defArgs s_law_fillers, defBody s_law_fillers, defScope s_law_fillers⟩
def e_law_rows : He.FnD := ⟨("_law_rows", none), "_law_rows", "_law_rows", defArgs s_law_rows, defBody s_law_rows, defScope s_law_rows⟩
def e_law : He.FnD := ⟨("law", none), "law", "law", defArgs s_law, defBody s_law, defScope s_law⟩
def fns : List He.FnD := [e_is_number, e_is_row, e_need_rows, e_written, e_number_of, e_row_of, e_read, e_law_mix, e_law_next, e_law_alike, e_law_fillers, e_law_rows, e_law]
def fas : List He.Fa := [.glo "is_number", .glo "is_row", .glo "need_rows", .glo "written", .glo "number_of", .glo "row_of", .glo "read", .glo "_law_mix", .glo "_law_next", .glo "_law_alike", .glo "_law_fillers", .glo "_law_rows", .glo "law", .keep "is_number", .keep "is_row", .keep "need_rows", .keep "written", .keep "number_of", .keep "row_of", .keep "read", .keep "_law_mix", .keep "_law_next", .keep "_law_alike", .keep "_law_fillers", .keep "_law_rows", .keep "law", .free "bool", .free "enumerate", .free "int", .free "isinstance", .free "len", .free "list", .free "max", .free "range", .free "set", .free "sorted", .free "str", .free "tuple", .str "CLIP" "clip", .str "FIGURES" "0123456789", .int "LAST_MOMENT" (899), .str "LIVE" "live", .int "MOST_END" (900), .int "MOST_FIGURES" (3), .int "MOST_ID" (99), .int "MOST_LENGTH" (120), .int "MOST_ROWS" (30)]
abbrev R : PySem.W.OpenRow := PySem.W.OpenLaw.row PySem.Challenge.rw_airtime_k13_written_and_read
abbrev hk : PySem.W.Hook := He.hookE 5 fas fns
def ob (s : PySem.W.SharedT) : He.Al := He.obsG 5 fas fns (HandSHeadRun.getT s)
theorem ob_eq (s : PySem.W.SharedT) : ob s = hk.obs s.abs := He.obsG_eq (HandSHeadRun.getT_eq s)
theorem run (w : World) : HandSHeadRun.RunEq R (PySem.W.view R.prog [28]) hk ob 20000 loose w := by
  intro os
  kernel_rfl
section
variable {K : PySem.W.Frag} {h : Heap} {mg : Str → Option Value}
theorem bi_ok (X : K.In h) (G : h.Ns mainGlobals mg) (c : He.SaysE fas fns K) : Bi mg := ⟨He.free_ok X G (c.fact 26 (f := .free "bool") rfl), He.free_ok X G (c.fact 27 (f := .free "enumerate") rfl), He.free_ok X G (c.fact 28 (f := .free "int") rfl), He.free_ok X G (c.fact 29 (f := .free "isinstance") rfl), He.free_ok X G (c.fact 30 (f := .free "len") rfl), He.free_ok X G (c.fact 31 (f := .free "list") rfl), He.free_ok X G (c.fact 32 (f := .free "max") rfl), He.free_ok X G (c.fact 33 (f := .free "range") rfl), He.free_ok X G (c.fact 34 (f := .free "set") rfl), He.free_ok X G (c.fact 35 (f := .free "sorted") rfl), He.free_ok X G (c.fact 36 (f := .free "str") rfl), He.free_ok X G (c.fact 37 (f := .free "tuple") rfl), He.str_ok X G (c.fact 38 (f := .str "CLIP" "clip") rfl), He.str_ok X G (c.fact 39 (f := .str "FIGURES" "0123456789") rfl), He.int_ok X G (c.fact 40 (f := .int "LAST_MOMENT" (899)) rfl), He.str_ok X G (c.fact 41 (f := .str "LIVE" "live") rfl), He.int_ok X G (c.fact 42 (f := .int "MOST_END" (900)) rfl), He.int_ok X G (c.fact 43 (f := .int "MOST_FIGURES" (3)) rfl), He.int_ok X G (c.fact 44 (f := .int "MOST_ID" (99)) rfl), He.int_ok X G (c.fact 45 (f := .int "MOST_LENGTH" (120)) rfl), He.int_ok X G (c.fact 46 (f := .int "MOST_ROWS" (30)) rfl)⟩
theorem fun_ok {x : Str} {st : Stmt} (c : He.SaysE fas fns K) (X : K.In h) (G : h.Ns mainGlobals mg) {i j k : Nat} (hd : fns[i]? = some ⟨(x, none), x, x, defArgs st, defBody st, defScope st⟩) (hg : fas[j]? = some (.glo x)) (hk : fas[k]? = some (.keep x)) :
    ∃ f fd, L2.Fun K x x st f fd ∧ mg x = some (.ref f) := by
  obtain ⟨oc, od, osl, kV, doc, pm, an, cdv, ct, lk, cd⟩ := c.def_ i hd
  exact ⟨_, _, L2.fun_mk lk cd (He.keep_ok (c.fact k hk)), He.glo_ok X G (c.fact j hg)⟩
theorem fs_ok (X : K.In h) (G : h.Ns mainGlobals mg) (c : He.SaysE fas fns K) : Fs K mg := ⟨fun_ok c X G (i := 0) (j := 0) (k := 13) rfl rfl rfl, fun_ok c X G (i := 1) (j := 1) (k := 14) rfl rfl rfl, fun_ok c X G (i := 2) (j := 2) (k := 15) rfl rfl rfl, fun_ok c X G (i := 3) (j := 3) (k := 16) rfl rfl rfl, fun_ok c X G (i := 4) (j := 4) (k := 17) rfl rfl rfl, fun_ok c X G (i := 5) (j := 5) (k := 18) rfl rfl rfl, fun_ok c X G (i := 6) (j := 6) (k := 19) rfl rfl rfl, fun_ok c X G (i := 7) (j := 7) (k := 20) rfl rfl rfl, fun_ok c X G (i := 8) (j := 8) (k := 21) rfl rfl rfl, fun_ok c X G (i := 9) (j := 9) (k := 22) rfl rfl rfl, fun_ok c X G (i := 10) (j := 10) (k := 23) rfl rfl rfl, fun_ok c X G (i := 11) (j := 11) (k := 24) rfl rfl rfl, fun_ok c X G (i := 12) (j := 12) (k := 25) rfl rfl rfl⟩
end
end K13
open PySem PySem.W PySem.Calls PyProof.Rows
theorem PySem.Challenge.cw_airtime_k13_written_and_read_holds : PySem.Challenge.rw_airtime_k13_written_and_read.Holds := by
  w_on; o_law
  refine HandSHeadRun.head_any (r := OpenLaw.row PySem.Challenge.rw_airtime_k13_written_and_read) (q := view (OpenLaw.row PySem.Challenge.rw_airtime_k13_written_and_read).prog [28]) (H := K13.hk) (ob := K13.ob) (M := 20000) (loose := K13.loose) (d := HandSHeadRun.topDef (OpenLaw.row PySem.Challenge.rw_airtime_k13_written_and_read).prog 28) (kwd := []) K13.ob_eq
    (by kernel_rfl) (fun s => by kernel_rfl) K13.run (by kernel_rfl) (by kernel_rfl) (by kernel_rfl) (by rfl) (by first | assumption | decide +kernel) (by decide +kernel) ⟨rfl, rfl, rfl, rfl, rfl, by decide +kernel⟩ ?hw ?hc
  case hw => w_witness2
  case hc =>
    refine L2.walk_ofE (l := PySem.Challenge.rw_airtime_k13_written_and_read) (n := 63) (k := 7) (x := "_law_script") (CX := L2.CX0) rfl (by decide) (by kernel_rfl) ⟨rfl, by decide, by decide⟩ ?F (fun _ _ _ _ z => z)
    intro w mg fa h Y G hmg0
    obtain ⟨K, KX, c⟩ := Y
    have hmg : mg ("law" : PySem.Str) = some (.ref fa) := by
      have e : (HandSHeadRun.topDef (OpenLaw.row PySem.Challenge.rw_airtime_k13_written_and_read).prog 28).name = ("law" : PySem.Str) := by kernel_rfl
      rw [← e]; exact hmg0
    have FS := K13.fs_ok KX G c
    obtain ⟨f, fd, F, m⟩ := FS.f_law
    have e : f = fa := by rw [hmg] at m; cases m; rfl
    subst e
    exact ⟨K, fd, DL.spLaw K, KX, DL.law_binds F fun _ _ _ _ _ _ u => rfl, fun H a ns hl _ hS => ⟨a, ns, rfl, hS, fun _ => rfl⟩, fun base _ _ => DL.law_cx0 (K13.fn_law (K13.bi_ok KX G c) FS F)⟩
