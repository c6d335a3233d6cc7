import PyProof.Rows.All
import Wide.All
import OpenK.AllK
import Wide.FinOn
import HandS.ForMost
import HandS.Exc
import HandS.WordsExc
import HandS.Lambda
import HandS.TupAny
import HandS.Style
import HandS.Wide
import HandS.SortInts
import HandS.SortKw
import HandS.IsInst
import HandS.Deep
import KE.DataMinMax
import KE.SortData
import HandS.SetFor
import HandS.Strs
import HandS.Conv
import KE.DataCmp
import HandS.TryOnly
import HandS.More
import HandS.Zip
import KE.KTupSum
import HandS.Text
import KE.DataFind
import HandS.TupLen
import HandS.ExcIs
import HandS.ExcField
import KE.KNestM
import HandS.HeadHook1
import HandS.EndTab
import KE.KDflt
import HandS.SortOrd
import HandS.SortRule
import HandS.DictComp
import KE.KDictPairs
import KE.KDictCopyH
import HandS.ExcInit
import HandS.ClsMeth
import KE.KExcIs
import KE.KStateDown
import Lean
import HandS.Head0
import HandS.Head1
import HandS.Head2
import HandS.HeadEnd
import PySem.Challenge.RW_airtime_k14_texts_refused
set_option Elab.async false
set_option linter.all false
set_option maxRecDepth 100000
set_option maxHeartbeats 4000000
namespace DL
open PySem L2

inductive D where
  | non | bl (b : Bool) | int (i : Int) | str (s : Str)
  | tup (xs : List D) | lst (xs : List D)
  | dic (ks : List Key) (xs : List D)
  | obj (C dx : Addr) (ns : List Str) (xs : List D)
  | ref (a : Addr)
  | tab (q : Str)
  | fdic (ks : List Key) (xs : List D)
  | xdc (f : Str) (i : Int)

instance : Inhabited D := ⟨.non⟩

mutual
def Rp (H : Hp) : D → V → List Addr → Prop
  | .non, v, fp => v = .non ∧ fp = []
  | .bl b, v, fp => v = .bl b ∧ fp = []
  | .int i, v, fp => v = .int i ∧ fp = []
  | .str s, v, fp => v = .str s ∧ fp = []
  | .ref a, v, fp => v = .ref a ∧ fp = []
  | .xdc f i, v, fp => ∃ p, v = .ref p ∧ H p = some (.xd [(f, .int i)]) ∧ fp = [p]
  | .tab q, v, fp => ∃ p ps cs, v = .ref p ∧ H p = some (.tbl ps) ∧ TriplesOk ps.toList ∧ (∀ (pos : Pos) (cv : Value), codeAmong pos ps.toList = some cv → ∃ c ∈ cs, cv = .ref c) ∧ (∀ c ∈ cs, H c = some (LamX.CodeO c q)) ∧ cs.Nodup ∧ fp = p :: cs
  | .tup ds, v, fp => ∃ p vs, v = .ref p ∧ H p = some (.tup vs) ∧ RpL H ds vs fp
  | .lst ds, v, fp => ∃ p vs f, v = .ref p ∧ H p = some (.lst vs) ∧ RpL H ds vs f ∧ fp = p :: f
  | .dic ks ds, v, fp => ∃ p vs f, v = .ref p ∧ H p = some (.dK (ks.zip vs)) ∧ RpL H ds vs f ∧ ks.length = vs.length ∧ fp = p :: f
  | .fdic ks ds, v, fp => ∃ p vs f o, v = .ref p ∧ H p = some (.frz o (.dK (ks.zip vs))) ∧ RpL H ds vs f ∧ ks.length = vs.length ∧ fp = p :: f
  | .obj C dx ns ds, v, fp => ∃ p vs f, v = .ref p ∧ H p = some (.ins C dx (ns.zip vs)) ∧ RpL H ds vs f ∧ ns.length = vs.length ∧ fp = p :: f
def RpL (H : Hp) : List D → List V → List Addr → Prop
  | [], vs, fp => vs = [] ∧ fp = []
  | d :: ds, vs, fp => ∃ v vr f g, vs = v :: vr ∧ Rp H d v f ∧ RpL H ds vr g ∧ fp = f ++ g
end

def Ex (H H' : Hp) : Prop := ∀ p o, H p = some o → H' p = some o
theorem Ex.refl (H : Hp) : Ex H H := fun _ _ h => h
theorem Ex.trans {H H1 H2 : Hp} (a : Ex H H1) (b : Ex H1 H2) : Ex H H2 := fun x o h => b x o (a x o h)
theorem Ex.new {H : Hp} {p : Addr} {o : HO} (h : H p = none) : Ex H (upd H p o) := fun a u e => by
  rw [upd_ne (ne_of_none e h)]; exact e
theorem Ex.free {H H' : Hp} {p : Addr} (e : Ex H H') (h : H' p = none) : H p = none := by
  cases q : H p with
  | none => rfl
  | some o => rw [e p o q] at h; cases h

structure Kp (H H' : Hp) (fp : List Addr) : Prop where
  tup : ∀ p vs, H p = some (.tup vs) → H' p = some (.tup vs)
  cell : ∀ p ∈ fp, H' p = H p
mutual
theorem Rp.keep {H H' : Hp} (ht : ∀ p vs, H p = some (.tup vs) → H' p = some (.tup vs)) : ∀ (d : D) (v : V) (fp : List Addr), Rp H d v fp → (∀ p ∈ fp, H' p = H p) → Rp H' d v fp
  | .non, _, _, h, _ => h
  | .bl _, _, _, h, _ => h
  | .int _, _, _, h, _ => h
  | .str _, _, _, h, _ => h
  | .ref _, _, _, h, _ => h
  | .xdc f i, v, fp, h, k => by
    obtain ⟨p, e, hp, ef⟩ := h
    subst ef
    exact ⟨p, e, by rw [k p (by simp)]; exact hp, rfl⟩
  | .tab q, v, fp, h, k => by
    obtain ⟨p, ps, cs, e, hp, h1, h2, h3, h4, ef⟩ := h
    subst ef
    exact ⟨p, ps, cs, e, by rw [k p (by simp)]; exact hp, h1, h2, fun c hc => by rw [k c (by simp [hc])]; exact h3 c hc, h4, rfl⟩
  | .tup ds, v, fp, h, k => by
    obtain ⟨p, vs, e, hp, hl⟩ := h
    exact ⟨p, vs, e, ht p vs hp, RpL.keep ht ds vs fp hl k⟩
  | .lst ds, v, fp, h, k => by
    obtain ⟨p, vs, f, e, hp, hl, ef⟩ := h
    subst ef
    exact ⟨p, vs, f, e, by rw [k p (by simp)]; exact hp, RpL.keep ht ds vs f hl (fun q hq => k q (by simp [hq])), rfl⟩
  | .dic ks ds, v, fp, h, k => by
    obtain ⟨p, vs, f, e, hp, hl, en, ef⟩ := h
    subst ef
    exact ⟨p, vs, f, e, by rw [k p (by simp)]; exact hp, RpL.keep ht ds vs f hl (fun q hq => k q (by simp [hq])), en, rfl⟩
  | .fdic ks ds, v, fp, h, k => by
    obtain ⟨p, vs, f, o, e, hp, hl, en, ef⟩ := h
    subst ef
    exact ⟨p, vs, f, o, e, by rw [k p (by simp)]; exact hp, RpL.keep ht ds vs f hl (fun q hq => k q (by simp [hq])), en, rfl⟩
  | .obj C dx ns ds, v, fp, h, k => by
    obtain ⟨p, vs, f, e, hp, hl, en, ef⟩ := h
    subst ef
    exact ⟨p, vs, f, e, by rw [k p (by simp)]; exact hp, RpL.keep ht ds vs f hl (fun q hq => k q (by simp [hq])), en, rfl⟩
theorem RpL.keep {H H' : Hp} (ht : ∀ p vs, H p = some (.tup vs) → H' p = some (.tup vs)) : ∀ (ds : List D) (vs : List V) (fp : List Addr), RpL H ds vs fp → (∀ p ∈ fp, H' p = H p) → RpL H' ds vs fp
  | [], _, _, h, _ => h
  | d :: ds, vs, fp, h, k => by
    obtain ⟨v, vr, f, g, e, h1, h2, ef⟩ := h
    subst ef
    exact ⟨v, vr, f, g, e, Rp.keep ht d v f h1 (fun q hq => k q (by simp [hq])), RpL.keep ht ds vr g h2 (fun q hq => k q (by simp [hq])), rfl⟩
end
mutual
theorem Rp.there {H : Hp} : ∀ (d : D) (v : V) (fp : List Addr), Rp H d v fp → ∀ p ∈ fp, ∃ o, H p = some o ∧ ∀ xs, o ≠ .tup xs
  | .non, _, _, h, p, hp => by rw [h.2] at hp; cases hp
  | .bl _, _, _, h, p, hp => by rw [h.2] at hp; cases hp
  | .int _, _, _, h, p, hp => by rw [h.2] at hp; cases hp
  | .str _, _, _, h, p, hp => by rw [h.2] at hp; cases hp
  | .ref _, _, _, h, p, hp => by rw [h.2] at hp; cases hp
  | .xdc f i, v, fp, h, b, hb => by
    obtain ⟨p, e, hp, ef⟩ := h
    subst ef
    rw [List.mem_singleton.mp hb]
    exact ⟨_, hp, fun xs z => by cases z⟩
  | .tab q, v, fp, h, b, hb => by
    obtain ⟨p, ps, cs, e, hp, h1, h2, h3, h4, ef⟩ := h
    subst ef
    rcases List.mem_cons.mp hb with rfl | hb
    · exact ⟨_, hp, fun xs z => by cases z⟩
    · exact ⟨_, h3 b hb, fun xs z => by unfold LamX.CodeO at z; cases z⟩
  | .tup ds, v, fp, h, q, hq => by
    obtain ⟨p, vs, e, hp, hl⟩ := h
    exact RpL.there ds vs fp hl q hq
  | .lst ds, v, fp, h, q, hq => by
    obtain ⟨p, vs, f, e, hp, hl, ef⟩ := h
    subst ef
    rcases List.mem_cons.mp hq with rfl | hq
    · exact ⟨_, hp, fun xs z => by cases z⟩
    · exact RpL.there ds vs f hl q hq
  | .dic ks ds, v, fp, h, q, hq => by
    obtain ⟨p, vs, f, e, hp, hl, en, ef⟩ := h
    subst ef
    rcases List.mem_cons.mp hq with rfl | hq
    · exact ⟨_, hp, fun xs z => by cases z⟩
    · exact RpL.there ds vs f hl q hq
  | .fdic ks ds, v, fp, h, q, hq => by
    obtain ⟨p, vs, f, o, e, hp, hl, en, ef⟩ := h
    subst ef
    rcases List.mem_cons.mp hq with rfl | hq
    · exact ⟨_, hp, fun xs z => by cases z⟩
    · exact RpL.there ds vs f hl q hq
  | .obj C dx ns ds, v, fp, h, q, hq => by
    obtain ⟨p, vs, f, e, hp, hl, en, ef⟩ := h
    subst ef
    rcases List.mem_cons.mp hq with rfl | hq
    · exact ⟨_, hp, fun xs z => by cases z⟩
    · exact RpL.there ds vs f hl q hq
theorem RpL.there {H : Hp} : ∀ (ds : List D) (vs : List V) (fp : List Addr), RpL H ds vs fp → ∀ p ∈ fp, ∃ o, H p = some o ∧ ∀ xs, o ≠ .tup xs
  | [], _, _, h, p, hp => by rw [h.2] at hp; cases hp
  | d :: ds, vs, fp, h, q, hq => by
    obtain ⟨v, vr, f, g, e, h1, h2, ef⟩ := h
    subst ef
    rcases List.mem_append.mp hq with hq | hq
    · exact Rp.there d v f h1 q hq
    · exact RpL.there ds vr g h2 q hq
end
theorem Rp.ex {H H' : Hp} {d : D} {v : V} {fp : List Addr} (h : Rp H d v fp) (e : Ex H H') : Rp H' d v fp :=
  Rp.keep (fun p vs q => e p _ q) d v fp h fun p hp => by
    obtain ⟨o, ho, _⟩ := Rp.there d v fp h p hp
    rw [ho, e p o ho]
theorem RpL.ex {H H' : Hp} {d : List D} {v : List V} {fp : List Addr} (h : RpL H d v fp) (e : Ex H H') : RpL H' d v fp :=
  RpL.keep (fun p vs q => e p _ q) d v fp h fun p hp => by
    obtain ⟨o, ho, _⟩ := RpL.there d v fp h p hp
    rw [ho, e p o ho]
theorem RpL.length {H : Hp} : ∀ {ds : List D} {vs : List V} {fp : List Addr}, RpL H ds vs fp → ds.length = vs.length
  | [], _, _, h => by rw [h.1]; rfl
  | d :: ds, vs, fp, h => by
    obtain ⟨v, vr, f, g, e, h1, h2, ef⟩ := h
    subst e
    simp [RpL.length h2]
theorem RpL.get {H : Hp} : ∀ {ds : List D} {vs : List V} {fp : List Addr} {i : Nat} {d : D}, RpL H ds vs fp → ds[i]? = some d → ∃ v f, vs[i]? = some v ∧ Rp H d v f ∧ (∀ p ∈ f, p ∈ fp) ∧ (fp.Nodup → f.Nodup)
  | [], _, _, i, d, h, e => by simp at e
  | x :: ds, vs, fp, i, d, h, e => by
    obtain ⟨v, vr, f, g, rfl, h1, h2, rfl⟩ := h
    cases i with
    | zero =>
      simp at e; subst e
      exact ⟨v, f, rfl, h1, fun p hp => by simp [hp], fun n => (List.nodup_append.mp n).1⟩
    | succ i =>
      obtain ⟨w, f', e1, e2, e3, e4⟩ := RpL.get (i := i) (d := d) h2 (by simpa using e)
      exact ⟨w, f', by simpa using e1, e2, fun p hp => by simp [e3 p hp], fun n => e4 (List.nodup_append.mp n).2.1⟩
theorem RpL.append {H : Hp} : ∀ {ds es : List D} {vs ws : List V} {f g : List Addr}, RpL H ds vs f → RpL H es ws g → RpL H (ds ++ es) (vs ++ ws) (f ++ g)
  | [], _, _, _, _, _, h, k => by obtain ⟨rfl, rfl⟩ := h; exact k
  | d :: ds, es, vs, ws, f, g, h, k => by
    obtain ⟨v, vr, f1, f2, rfl, h1, h2, rfl⟩ := h
    exact ⟨v, vr ++ ws, f1, f2 ++ g, rfl, h1, RpL.append h2 k, by simp⟩
theorem RpL.nil {H : Hp} : RpL H [] [] [] := ⟨rfl, rfl⟩
theorem RpL.cons {H : Hp} {d : D} {v : V} {f g : List Addr} {ds : List D} {vs : List V} (h : Rp H d v f) (k : RpL H ds vs g) : RpL H (d :: ds) (v :: vs) (f ++ g) := ⟨v, vs, f, g, rfl, h, k, rfl⟩
theorem RpL.one {H : Hp} {d : D} {v : V} {f : List Addr} (h : Rp H d v f) : RpL H [d] [v] f := ⟨v, [], f, [], rfl, h, RpL.nil, by simp⟩

inductive Cl | any | cln | frs
def Cl.ok : Cl → (Addr → Prop) → Hp → List Addr → Prop
  | .any, _, _, _ => True
  | .cln, F, H, fp => ∀ p ∈ fp, F p ∨ H p = none
  | .frs, _, H, fp => fp.Nodup ∧ ∀ p ∈ fp, H p = none
theorem Cl.nil {c : Cl} {F : Addr → Prop} {H : Hp} : c.ok F H [] := by cases c <;> simp [Cl.ok]
theorem Cl.frs_ {c : Cl} {F : Addr → Prop} {H : Hp} {fp : List Addr} (h : Cl.frs.ok F H fp) : c.ok F H fp := by
  cases c with
  | any => trivial
  | cln => exact fun p hp => .inr (h.2 p hp)
  | frs => exact h
theorem Cl.back {c : Cl} {F : Addr → Prop} {H H1 : Hp} {fp : List Addr} (e : Ex H H1) (h : c.ok F H1 fp) : c.ok F H fp := by
  cases c with
  | any => trivial
  | cln => exact fun p hp => (h p hp).imp id e.free
  | frs => exact ⟨h.1, fun p hp => e.free (h.2 p hp)⟩
theorem Cl.app {c : Cl} {F : Addr → Prop} {H H1 : Hp} {f g : List Addr} (e : Ex H H1) (h : c.ok F H f) (hf : ∀ p ∈ f, ∃ o, H1 p = some o) (k : c.ok F H1 g) : c.ok F H (f ++ g) := by
  cases c with
  | any => trivial
  | cln => exact fun p hp => (List.mem_append.mp hp).elim (h p) fun q => (k p q).imp id e.free
  | frs =>
    refine ⟨List.nodup_append.mpr ⟨h.1, k.1, fun a ha b hb z => ?_⟩, fun p hp => (List.mem_append.mp hp).elim (h.2 p) fun q => e.free (k.2 p q)⟩
    subst z
    obtain ⟨o, ho⟩ := hf a ha
    rw [k.2 a hb] at ho; cases ho
theorem Cl.sub {c : Cl} {F : Addr → Prop} {H : Hp} {f g : List Addr} (h : c.ok F H g) (hs : ∀ p ∈ f, p ∈ g) (hn : g.Nodup → f.Nodup) : c.ok F H f := by
  cases c with
  | any => trivial
  | cln => exact fun p hp => h p (hs p hp)
  | frs => exact ⟨hn h.1, fun p hp => h.2 p (hs p hp)⟩
theorem Cl.cons {c : Cl} {F : Addr → Prop} {H H1 : Hp} {f : List Addr} {p : Addr} (e : Ex H H1) (h : c.ok F H f) (hf : ∀ q ∈ f, ∃ o, H1 q = some o) (hp : H1 p = none) : c.ok F H (p :: f) := by
  cases c with
  | any => trivial
  | cln => exact fun q hq => (List.mem_cons.mp hq).elim (fun z => .inr (z ▸ e.free hp)) (h q)
  | frs =>
    refine ⟨List.nodup_cons.mpr ⟨fun z => ?_, h.1⟩, fun q hq => (List.mem_cons.mp hq).elim (fun z => z ▸ e.free hp) (h.2 q)⟩
    obtain ⟨o, ho⟩ := hf p z
    rw [hp] at ho; cases ho

abbrev Loc := List (Option D)
structure Cell where
  w : Bool
  d : D
abbrev Nm := Addr → Option Cell
structure SRep (F : Addr → Prop) (H : Hp) (σ : St) (δ : Loc) : Prop where
  len : δ.length = σ.length
  fr : ∀ p, F p → ∃ o, H p = some o
  at_ : ∀ (i : Nat) (d : D), δ[i]? = some (some d) → ∃ v fp, σ[i]? = some (some v) ∧ Rp H d v fp ∧ ∀ p ∈ fp, F p
def NRep (N : Nm) (H : Hp) : Prop := ∀ a c, N a = some c → ∃ fp, Rp H c.d (.ref a) fp ∧ a ∈ fp
theorem SRep.ex {F : Addr → Prop} {H H' : Hp} {σ : St} {δ : Loc} (h : SRep F H σ δ) (e : Ex H H') : SRep F H' σ δ :=
  ⟨h.len, fun p hp => let ⟨o, ho⟩ := h.fr p hp; ⟨o, e p o ho⟩, fun i d q => by
    obtain ⟨v, fp, h1, h2, h3⟩ := h.at_ i d q
    exact ⟨v, fp, h1, h2.ex e, h3⟩⟩
theorem NRep.ex {N : Nm} {H H' : Hp} (h : NRep N H) (e : Ex H H') : NRep N H' := fun a c q => by
  obtain ⟨fp, h1, h2⟩ := h a c q
  exact ⟨fp, h1.ex e, h2⟩
structure PV where
  ok : Prop
  val : D
abbrev PF := Loc → Nm → PV
structure TV where
  ok : Prop
  b : Bool
abbrev TF := Loc → Nm → TV
structure AV where
  ok : Prop
  vals : List D
abbrev AF := Loc → Nm → AV

def tP (c : Cl) (f : PF) : TE := fun σ H Q => ∃ δ N F, SRep F H σ δ ∧ NRep N H ∧ (f δ N).ok ∧ ∀ v H' fp, Ex H H' → Rp H' (f δ N).val v fp → c.ok F H fp → Q v H'
def tT (f : TF) : TT := fun σ H Q => ∃ δ N F, SRep F H σ δ ∧ NRep N H ∧ (f δ N).ok ∧ ∀ H', Ex H H' → Q (f δ N).b H'
def tA (c : Cl) (f : AF) : TA := fun σ H Q => ∃ δ N F, SRep F H σ δ ∧ NRep N H ∧ (f δ N).ok ∧ ∀ vs H' fp, Ex H H' → RpL H' (f δ N).vals vs fp → c.ok F H fp → Q vs H'

abbrev DP (X : Cx) (c : Cl) (e : Expr) (f : PF) : Prop := PE X e (tP c f)
abbrev DT (X : Cx) (e : Expr) (f : TF) : Prop := PT X e (tT f)
abbrev DA (X : Cx) (c : Cl) (es : List Expr) (f : AF) : Prop := PA X es (tA c f)

theorem pe_imp {X : Cx} {e : Expr} {t t' : TE} (h : PE X e t) (k : ∀ σ H Q, t' σ H Q → t σ H Q) : PE X e t' := ⟨fun pins s σ H Q I q => h.run pins s σ H Q I (k σ H Q q)⟩
theorem pt_imp {X : Cx} {e : Expr} {t t' : TT} (h : PT X e t) (k : ∀ σ H Q, t' σ H Q → t σ H Q) : PT X e t' := ⟨fun pins s σ H Q I q => h.run pins s σ H Q I (k σ H Q q)⟩
theorem pa_imp {X : Cx} {e : List Expr} {t t' : TA} (h : PA X e t) (k : ∀ σ H Q, t' σ H Q → t σ H Q) : PA X e t' := ⟨fun pos pins s σ H Q I q => h.run pos pins s σ H Q I (k σ H Q q)⟩
theorem ps_imp {X : Cx} {e : Stmt} {t t' : TS} (h : PS X e t) (k : ∀ D σ H, t' D σ H → t D σ H) : PS X e t' := ⟨fun pins s σ H D I q => h.run pins s σ H D I (k D σ H q)⟩
theorem pss_imp {X : Cx} {e : List Stmt} {t t' : TS} (h : PSs X e t) (k : ∀ D σ H, t' D σ H → t D σ H) : PSs X e t' := ⟨fun pins s σ H D I q => h.run pins s σ H D I (k D σ H q)⟩

def IsI : D → Prop | .int _ => True | _ => False
def toI : D → Int | .int i => i | _ => 0
def IsB : D → Prop | .bl _ => True | _ => False
def toB : D → Bool | .bl b => b | _ => false
def IsS : D → Prop | .str _ => True | _ => False
def toS : D → Str | .str b => b | _ => Str.empty
def IsL : D → Prop | .lst _ => True | _ => False
def toL : D → List D | .lst xs => xs | .tup xs => xs | _ => []
def IsU : D → Prop | .tup _ => True | _ => False
def IsQ : D → Prop | .lst _ => True | .tup _ => True | _ => False
theorem IsI.eq {d : D} (h : IsI d) : d = .int (toI d) := by cases d <;> first | rfl | exact h.elim
theorem IsB.eq {d : D} (h : IsB d) : d = .bl (toB d) := by cases d <;> first | rfl | exact h.elim
theorem IsS.eq {d : D} (h : IsS d) : d = .str (toS d) := by cases d <;> first | rfl | exact h.elim
theorem IsL.eq {d : D} (h : IsL d) : d = .lst (toL d) := by cases d <;> first | rfl | exact h.elim
theorem IsU.eq {d : D} (h : IsU d) : d = .tup (toL d) := by cases d <;> first | rfl | exact h.elim
theorem IsQ.eq {d : D} (h : IsQ d) : d = .lst (toL d) ∨ d = .tup (toL d) := by cases d <;> first | exact .inl rfl | exact .inr rfl | exact h.elim
theorem Rp.int_ {H : Hp} {d : D} {v : V} {fp : List Addr} (h : Rp H d v fp) (k : IsI d) : v = .int (toI d) := by
  rw [k.eq] at h; exact h.1
theorem Rp.bl_ {H : Hp} {d : D} {v : V} {fp : List Addr} (h : Rp H d v fp) (k : IsB d) : v = .bl (toB d) := by
  rw [k.eq] at h; exact h.1
theorem Rp.str_ {H : Hp} {d : D} {v : V} {fp : List Addr} (h : Rp H d v fp) (k : IsS d) : v = .str (toS d) := by
  rw [k.eq] at h; exact h.1
theorem Rp.lst_ {H : Hp} {d : D} {v : V} {fp : List Addr} (h : Rp H d v fp) (k : IsL d) : ∃ p vs f, v = .ref p ∧ H p = some (.lst vs) ∧ RpL H (toL d) vs f ∧ fp = p :: f := by
  rw [k.eq] at h; exact h
theorem Rp.tup_ {H : Hp} {d : D} {v : V} {fp : List Addr} (h : Rp H d v fp) (k : IsU d) : ∃ p vs, v = .ref p ∧ H p = some (.tup vs) ∧ RpL H (toL d) vs fp := by
  rw [k.eq] at h; exact h
theorem Rp.seq_ {H : Hp} {d : D} {v : V} {fp : List Addr} (K : PySem.W.Frag) (h : Rp H d v fp) (k : IsQ d) : ∃ p vs f, v = .ref p ∧ (SqL K H p vs ∨ SqT K H p vs) ∧ RpL H (toL d) vs f ∧ (∀ q ∈ f, q ∈ fp) ∧ (fp.Nodup → f.Nodup) := by
  rcases k.eq with e | e
  · rw [e] at h
    obtain ⟨p, vs, f, e1, e2, e3, e4⟩ := h
    exact ⟨p, vs, f, e1, .inl (SqL.of e2), e3, fun q hq => by simp [e4, hq], fun n => by rw [e4] at n; exact (List.nodup_cons.mp n).2⟩
  · rw [e] at h
    obtain ⟨p, vs, e1, e2, e3⟩ := h
    exact ⟨p, vs, fp, e1, .inr (SqT.of e2), e3, fun q hq => hq, id⟩
end DL
set_option maxHeartbeats 4000000
namespace DL
open PySem L2
section
variable {X : Cx} {c c1 c2 c3 : Cl} {pos : Pos}

def lk : Loc → Nat → Option D
  | [], _ => none
  | x :: _, 0 => x
  | _ :: xs, i + 1 => lk xs i
theorem lk_get : ∀ {δ : Loc} {i : Nat} {d : D}, lk δ i = some d → δ[i]? = some (some d)
  | [], _, _, h => by simp [lk] at h
  | x :: _, 0, d, h => by simp [lk] at h; simp [h]
  | _ :: xs, i + 1, d, h => by simp [lk] at h; simpa using lk_get h
def pVar (i : Nat) : PF := fun δ _ => ⟨(lk δ i).isSome = true, (lk δ i).getD .non⟩
def pInt (i : Int) : PF := fun _ _ => ⟨True, .int i⟩
def pBl (i : Bool) : PF := fun _ _ => ⟨True, .bl i⟩
def pStr (i : Str) : PF := fun _ _ => ⟨True, .str i⟩
def pNon : PF := fun _ _ => ⟨True, .non⟩
theorem dp_var (hc : c = .any ∨ c = .cln) (i : Nat) {x : Str} (hN : X.N[i]? = some x := by rfl) (hv : Vis X.env.scope x := by first | exact Or.inl rfl | exact Or.inr (Or.inl rfl) | exact Or.inr (Or.inr rfl)) (hd : (x == ("__debug__" : Str)) = false := by decide)
    (hcd : (x == ("__classdict__" : Str)) = false := by decide) : DP X c (.Name x pos) (pVar i) := by
  refine pe_imp (pe_var hN hv hd hcd) fun σ H Q h => ?_
  obtain ⟨δ, N, F, hs, hn, ok, q⟩ := h
  obtain ⟨d, hd⟩ := Option.isSome_iff_exists.mp ok
  obtain ⟨v, fp, h1, h2, h3⟩ := hs.at_ i d (lk_get hd)
  refine ⟨v, h1, q v H fp (Ex.refl H) (by simp only [pVar, hd]; exact h2) ?_⟩
  rcases hc with rfl | rfl
  · trivial
  · exact fun p hp => .inl (h3 p hp)
theorem dp_vc (i : Nat) {x : Str} (hN : X.N[i]? = some x := by rfl) (hv : Vis X.env.scope x := by first | exact Or.inl rfl | exact Or.inr (Or.inl rfl) | exact Or.inr (Or.inr rfl)) (hd : (x == ("__debug__" : Str)) = false := by decide)
    (hcd : (x == ("__classdict__" : Str)) = false := by decide) : DP X .cln (.Name x pos) (pVar i) := dp_var (.inr rfl) i hN hv hd hcd
theorem dp_va (i : Nat) {x : Str} (hN : X.N[i]? = some x := by rfl) (hv : Vis X.env.scope x := by first | exact Or.inl rfl | exact Or.inr (Or.inl rfl) | exact Or.inr (Or.inr rfl)) (hd : (x == ("__debug__" : Str)) = false := by decide)
    (hcd : (x == ("__classdict__" : Str)) = false := by decide) : DP X .any (.Name x pos) (pVar i) := dp_var (.inl rfl) i hN hv hd hcd
theorem dp_c {e : Expr} {v : V} {d : D} (h : PE X e (tC v)) (hr : ∀ H, Rp H d v []) : DP X c e (fun _ _ => ⟨True, d⟩) := by
  refine pe_imp h fun σ H Q h => ?_
  obtain ⟨δ, N, F, hs, hn, ok, q⟩ := h
  exact q v H [] (Ex.refl H) (hr H) Cl.nil
theorem dp_int {i j} : DP X c (.Constant (.int i) j pos) (pInt i) := dp_c pe_int fun _ => ⟨rfl, rfl⟩
theorem dp_bl {i j} : DP X c (.Constant (.bool i) j pos) (pBl i) := dp_c pe_bl fun _ => ⟨rfl, rfl⟩
theorem dp_str {i j} : DP X c (.Constant (.str i) j pos) (pStr i) := dp_c pe_str fun _ => ⟨rfl, rfl⟩
theorem dp_non {j} : DP X c (.Constant .none j pos) pNon := dp_c pe_non fun _ => ⟨rfl, rfl⟩
theorem dp_gint {x : Str} {i : Int} (hg : Gl X x) (hm : ∃ t, X.mg x = some (.int i t)) (hd : (x == ("__debug__" : Str)) = false := by decide) : DP X c (.Name x pos) (pInt i) := by
  obtain ⟨t, hm⟩ := hm
  exact dp_c (pe_glob (v := .int i) hg hm ⟨t, rfl⟩ hd) fun _ => ⟨rfl, rfl⟩
theorem dp_gstr {x : Str} {i : Str} (hg : Gl X x) (hm : ∃ t, X.mg x = some (.str i t)) (hd : (x == ("__debug__" : Str)) = false := by decide) : DP X c (.Name x pos) (pStr i) := by
  obtain ⟨t, hm⟩ := hm
  exact dp_c (pe_glob (v := .str i) hg hm ⟨t, rfl⟩ hd) fun _ => ⟨rfl, rfl⟩

mutual
def lf : D → Prop
  | .tup ds => lfs ds
  | .lst _ => False
  | .dic _ _ => False
  | .obj _ _ _ _ => False
  | .tab _ => False
  | .xdc _ _ => False
  | .fdic _ _ => False
  | _ => True
def lfs : List D → Prop
  | [] => True
  | d :: ds => lf d ∧ lfs ds
end
theorem lfs_iff : ∀ {ds : List D}, lfs ds ↔ ∀ d ∈ ds, lf d
  | [] => by simp [lfs]
  | d :: ds => by simp [lfs, lfs_iff (ds := ds)]
mutual
theorem Rp.lf {H : Hp} : ∀ (d : D) (v : V) (fp : List Addr), Rp H d v fp → lf d → fp = []
  | .non, _, _, h, _ => h.2
  | .bl _, _, _, h, _ => h.2
  | .int _, _, _, h, _ => h.2
  | .str _, _, _, h, _ => h.2
  | .ref _, _, _, h, _ => h.2
  | .tup ds, v, fp, h, k => by
    obtain ⟨p, vs, e, hp, hl⟩ := h
    exact RpL.lf ds vs fp hl (by simpa [DL.lf] using k)
  | .lst _, _, _, _, k => by simp [DL.lf] at k
  | .dic _ _, _, _, _, k => by simp [DL.lf] at k
  | .obj _ _ _ _, _, _, _, k => by simp [DL.lf] at k
  | .tab _, _, _, _, k => by simp [DL.lf] at k
  | .xdc _ _, _, _, _, k => by simp [DL.lf] at k
  | .fdic _ _, _, _, _, k => by simp [DL.lf] at k
theorem RpL.lf {H : Hp} : ∀ (ds : List D) (vs : List V) (fp : List Addr), RpL H ds vs fp → lfs ds → fp = []
  | [], _, _, h, _ => h.2
  | d :: ds, vs, fp, h, k => by
    obtain ⟨v, vr, f, g, e, h1, h2, ef⟩ := h
    rw [lfs] at k
    rw [ef, Rp.lf d v f h1 k.1, RpL.lf ds vr g h2 k.2]
    rfl
end
def pLf (f : PF) : PF := fun δ N => ⟨(f δ N).ok ∧ lf (f δ N).val, (f δ N).val⟩
theorem dp_lf {e : Expr} {f : PF} (h : DP X c1 e f) : DP X c e (pLf f) := by
  refine pe_imp h fun σ H Q h => ?_
  obtain ⟨δ, N, F, hs, hn, ok, q⟩ := h
  refine ⟨δ, N, F, hs, hn, ok.1, fun v H' fp e r k => ?_⟩
  have z := Rp.lf _ _ _ r ok.2
  subst z
  exact q v H' [] e r Cl.nil

theorem dp_bin {a b : Expr} {op : Operator} {r : R2} {f g : PF} {hf : D → D → PV} (ho : OpR X (binaryOp op) r) (ha : DP X c1 a f) (hb : DP X c2 b g)
    (hr : ∀ (F : Addr → Prop) (H0 H H2 : Hp) (x y : D) (v w : V) (fa fb : List Addr) (Q : VK), Ex H0 H → Ex H H2 → Rp H2 x v fa → Rp H2 y w fb → (∀ p ∈ fa, ∃ o, H p = some o) → c1.ok F H0 fa → c2.ok F H fb → (hf x y).ok →
      (∀ u H' fp, Ex H2 H' → Rp H' (hf x y).val u fp → c.ok F H0 fp → Q u H') → r v w H2 Q) :
    DP X c (.BinOp a op b pos) (fun δ N => ⟨(f δ N).ok ∧ (g δ N).ok ∧ (hf (f δ N).val (g δ N).val).ok, (hf (f δ N).val (g δ N).val).val⟩) := by
  refine pe_imp (pe_op ho ha hb) fun σ H Q h => ?_
  obtain ⟨δ, N, F, hs, hn, ⟨o1, o2, o3⟩, q⟩ := h
  refine ⟨δ, N, F, hs, hn, o1, fun v H1 fa e1 r1 k1 => ?_⟩
  refine ⟨δ, N, F, hs.ex e1, hn.ex e1, o2, fun w H2 fb e2 r2 k2 => ?_⟩
  exact hr F H H1 H2 _ _ v w fa fb Q e1 e2 (r1.ex e2) r2 (fun p hp => let ⟨o, ho, _⟩ := Rp.there _ _ _ r1 p hp; ⟨o, ho⟩) k1 k2 o3 fun u H' fp e3 r3 k3 => q u H' fp ((e1.trans e2).trans e3) r3 k3
def bI (C : Int → Int → Prop) (g : Int → Int → D) : D → D → PV := fun x y => ⟨IsI x ∧ IsI y ∧ C (toI x) (toI y), g (toI x) (toI y)⟩
def p2 (h : D → D → PV) (f g : PF) : PF := fun δ N => ⟨(f δ N).ok ∧ (g δ N).ok ∧ (h (f δ N).val (g δ N).val).ok, (h (f δ N).val (g δ N).val).val⟩
theorem dp_int2 {a b : Expr} {op : Operator} {C : Int → Int → Prop} {gi : Int → Int → Int} {f g : PF} (ho : OpR X (binaryOp op) (rI C fun i j => .int (gi i j))) (ha : DP X c1 a f) (hb : DP X c2 b g) :
    DP X c (.BinOp a op b pos) (p2 (bI C fun i j => .int (gi i j)) f g) :=
  dp_bin (hf := bI C fun i j => .int (gi i j)) ho ha hb fun F H0 H H2 x y v w fa fb Q e0 e1 rx ry _ _ _ ok q => ⟨toI x, toI y, rx.int_ ok.1, ry.int_ ok.2.1, ok.2.2, q _ H2 [] (Ex.refl _) ⟨rfl, rfl⟩ Cl.nil⟩
theorem rI_of {X : Cx} {op : Value → Value → Sem Value} {g : Int → Int → V} (h : OpR X op (rI0 g)) : OpR X op (rI (fun _ _ => True) g) := fun pins s σ H x y v u Q I rx ry q => by
  obtain ⟨i, j, e1, e2, _, q⟩ := q
  exact h pins s σ H x y v u Q I rx ry ⟨i, j, e1, e2, q⟩
theorem dp_addI {a b : Expr} {f g : PF} (ha : DP X c1 a f) (hb : DP X c2 b g) : DP X c (.BinOp a .Add b pos) (p2 (bI (fun _ _ => True) fun i j => .int (i + j)) f g) := dp_int2 (rI_of op_add) ha hb
theorem dp_sub {a b : Expr} {f g : PF} (ha : DP X c1 a f) (hb : DP X c2 b g) : DP X c (.BinOp a .Sub b pos) (p2 (bI (fun _ _ => True) fun i j => .int (i - j)) f g) := dp_int2 (rI_of op_sub) ha hb
theorem dp_mul {a b : Expr} {f g : PF} (ha : DP X c1 a f) (hb : DP X c2 b g) : DP X c (.BinOp a .Mult b pos) (p2 (bI CMul fun i j => .int (i * j)) f g) := dp_int2 op_mul ha hb
theorem dp_mod {a b : Expr} {f g : PF} (ha : DP X c1 a f) (hb : DP X c2 b g) : DP X c (.BinOp a .Mod b pos) (p2 (bI (fun _ j => 0 < j) fun i j => .int (i % j)) f g) := dp_int2 op_mod ha hb
theorem dp_fdiv {a b : Expr} {f g : PF} (ha : DP X c1 a f) (hb : DP X c2 b g) : DP X c (.BinOp a .FloorDiv b pos) (p2 (bI CDivW fun i j => .int (i / j)) f g) := dp_int2 op_fdivW ha hb
theorem dp_pow {a b : Expr} {f g : PF} (ha : DP X c1 a f) (hb : DP X c2 b g) : DP X c (.BinOp a .Pow b pos) (p2 (bI CPow fun i j => .int (i ^ j.toNat)) f g) := dp_int2 op_pow ha hb
theorem dp_neg {a : Expr} {f : PF} (ha : DP X c1 a f) : DP X c (.UnaryOp .USub a pos) (fun δ N => ⟨(f δ N).ok ∧ IsI (f δ N).val, .int (-(toI (f δ N).val))⟩) := by
  refine pe_imp (pe_un un_neg ha) fun σ H Q h => ?_
  obtain ⟨δ, N, F, hs, hn, ok, q⟩ := h
  exact ⟨δ, N, F, hs, hn, ok.1, fun v H' fp e r k => ⟨_, r.int_ ok.2, q _ H' [] e ⟨rfl, rfl⟩ Cl.nil⟩⟩

def CC (c c' : Cl) : Prop := c = c' ∨ c = .any
theorem new_lst {F : Addr → Prop} {H0 H2 : Hp} {ds : List D} {vs : List V} {f : List Addr} {p : Addr} {Q : VK} (e : Ex H0 H2) (r : RpL H2 ds vs f) (k : c.ok F H0 f) (hp : H2 p = none)
    (q : ∀ u H' fp, Ex H2 H' → Rp H' (.lst ds) u fp → c.ok F H0 fp → Q u H') : Q (.ref p) (upd H2 p (.lst vs)) :=
  q _ _ (p :: f) (Ex.new hp) ⟨p, vs, f, rfl, upd_same, r.ex (Ex.new hp), rfl⟩ (Cl.cons e k (fun q' hq => let ⟨o, ho, _⟩ := RpL.there _ _ _ r q' hq; ⟨o, ho⟩) hp)
def SZ : Nat := 16000000
theorem sz {n : Nat} (h : n ≤ SZ) : n ≤ sizeLine := Nat.le_trans h (by decide)
def catL (x y : D) : PV := ⟨IsL x ∧ IsL y ∧ (toL x).length + (toL y).length ≤ SZ, .lst (toL x ++ toL y)⟩
theorem dp_cat {a b : Expr} {f g : PF} (ha : DP X c a f) (hb : DP X c b g) : DP X c (.BinOp a .Add b pos) (p2 catL f g) :=
  dp_bin (hf := catL) op_cat ha hb fun F H0 H H2 x y v w fa fb Q e0 e1 rx ry tha k1 k2 ok q => by
    obtain ⟨p, vs, f1, rfl, hp, rl, rfl⟩ := rx.lst_ ok.1
    obtain ⟨p', vs', f2, rfl, hp', rl', rfl⟩ := ry.lst_ ok.2.1
    refine ⟨p, p', vs, vs', rfl, rfl, hp, hp', sz (by rw [← rl.length, ← rl'.length]; exact ok.2.2), fun l hl => ?_⟩
    have kk : c.ok F H0 (f1 ++ f2) := Cl.app e0 (Cl.sub k1 (fun q hq => by simp [hq]) fun n => (List.nodup_cons.mp n).2) (fun q hq => tha q (by simp [hq])) (Cl.sub k2 (fun q hq => by simp [hq]) fun n => (List.nodup_cons.mp n).2)
    exact new_lst (e0.trans e1) (rl.append rl') kk hl q
def repL (x y : D) : PV := ⟨IsL x ∧ IsI y ∧ lfs (toL x) ∧ -(2 ^ 63) ≤ toI y ∧ toI y < 2 ^ 63 ∧ (toL x).length * (toI y).toNat ≤ SZ, .lst (List.replicate (toI y).toNat (toL x)).flatten⟩
theorem RpL.rep {H : Hp} {ds : List D} {vs : List V} (h : RpL H ds vs []) : ∀ k : Nat, RpL H (List.replicate k ds).flatten (List.replicate k vs).flatten []
  | 0 => RpL.nil
  | k + 1 => by
    rw [List.replicate_succ, List.replicate_succ, List.flatten_cons, List.flatten_cons]
    exact RpL.append h (RpL.rep h k)
theorem dp_rep {a b : Expr} {f g : PF} (ha : DP X c1 a f) (hb : DP X c2 b g) : DP X c (.BinOp a .Mult b pos) (p2 repL f g) :=
  dp_bin (hf := repL) op_rep ha hb fun F H0 H H2 x y v w fa fb Q e0 e1 rx ry tha k1 k2 ok q => by
    obtain ⟨o1, o2, o3, o4, o5, o6⟩ := ok
    obtain ⟨p, vs, f1, rfl, hp, rl, rfl⟩ := rx.lst_ o1
    have z := RpL.lf _ _ _ rl o3
    subst z
    refine ⟨p, toI y, vs, rfl, ry.int_ o2, hp, o4, o5, sz (by rw [← rl.length]; exact o6), fun l hl => ?_⟩
    exact new_lst (e0.trans e1) (rl.rep _) Cl.nil hl q
def pFl (f : PF) : PF := fun δ N => ⟨(f δ N).ok ∧ IsL (f δ N).val ∧ lfs (toL (f δ N).val), (f δ N).val⟩
def catU (x y : D) : PV := ⟨IsU x ∧ IsU y ∧ (toL x).length + (toL y).length ≤ SZ, .tup (toL x ++ toL y)⟩
theorem dp_catU {a b : Expr} {f g : PF} (ha : DP X c a f) (hb : DP X c b g) : DP X c (.BinOp a .Add b pos) (p2 catU f g) :=
  dp_bin (hf := catU) op_catA ha hb fun F H0 H H2 x y v w fa fb Q e0 e1 rx ry tha k1 k2 ok q => by
    obtain ⟨p, vs, rfl, hp, rl⟩ := rx.tup_ ok.1
    obtain ⟨p', vs', rfl, hp', rl'⟩ := ry.tup_ ok.2.1
    have kk : c.ok F H0 (fa ++ fb) := Cl.app e0 k1 tha k2
    refine ⟨p, p', vs, vs', rfl, rfl, SqT.of hp, SqT.of hp', sz (by rw [← rl.length, ← rl'.length]; exact ok.2.2), fun ev => ?_, fun _ ew => ?_, fun _ _ l hl => ?_⟩
    · subst ev
      have z := rl.length
      have z2 : toL x = [] := List.eq_nil_of_length_eq_zero z
      have zz := rl; rw [z2] at zz
      have z3 : fa = [] := zz.2
      subst z3
      refine q _ H2 fb (Ex.refl _) ⟨p', vs', rfl, hp', ?_⟩ (by simpa using kk)
      show RpL H2 (toL x ++ toL y) vs' fb
      rw [z2]; exact rl'
    · subst ew
      have z2 : toL y = [] := List.eq_nil_of_length_eq_zero rl'.length
      have zz := rl'; rw [z2] at zz
      have z3 : fb = [] := zz.2
      subst z3
      refine q _ H2 fa (Ex.refl _) ⟨p, vs, rfl, hp, ?_⟩ (by simpa using kk)
      show RpL H2 (toL x ++ toL y) vs fa
      rw [z2, List.append_nil]; exact rl
    · exact q _ _ (fa ++ fb) (Ex.new hl) ⟨l, _, rfl, upd_same, (rl.append rl').ex (Ex.new hl)⟩ kk
def catS (x y : D) : PV := ⟨IsS x ∧ IsS y ∧ (toS x).length + (toS y).length ≤ SZ, .str (toS x ++ toS y)⟩
theorem dp_catS {a b : Expr} {f g : PF} (ha : DP X c1 a f) (hb : DP X c2 b g) : DP X c (.BinOp a .Add b pos) (p2 catS f g) :=
  dp_bin (hf := catS) op_add_str ha hb fun F H0 H H2 x y v w fa fb Q e0 e1 rx ry tha k1 k2 ok q => ⟨toS x, toS y, rx.str_ ok.1, ry.str_ ok.2.1, sz ok.2.2, q _ H2 [] (Ex.refl _) ⟨rfl, rfl⟩ Cl.nil⟩

theorem dp_cmp {a b : Expr} {op : CmpOp} {r : R2} {f g : PF} {hf : D → D → TV} (ho : OpR X (compareOp op) r) (ha : DP X c1 a f) (hb : DP X c2 b g) (hm : behindInMarks op b = false)
    (hr : ∀ (H2 : Hp) (x y : D) (v w : V) (fa fb : List Addr) (Q : VK), Rp H2 x v fa → Rp H2 y w fb → (hf x y).ok → Q (.bl (hf x y).b) H2 → r v w H2 Q) :
    DP X c (.Compare a [op] [b] pos) (fun δ N => ⟨(f δ N).ok ∧ (g δ N).ok ∧ (hf (f δ N).val (g δ N).val).ok, .bl (hf (f δ N).val (g δ N).val).b⟩) := by
  refine pe_imp (pe_cmpR ho ha hb hm) fun σ H Q h => ?_
  obtain ⟨δ, N, F, hs, hn, ⟨o1, o2, o3⟩, q⟩ := h
  refine ⟨δ, N, F, hs, hn, o1, fun v H1 fa e1 r1 k1 => ?_⟩
  refine ⟨δ, N, F, hs.ex e1, hn.ex e1, o2, fun w H2 fb e2 r2 k2 => ?_⟩
  exact hr H2 _ _ v w fa fb Q (r1.ex e2) r2 o3 (q _ H2 [] (e1.trans e2) ⟨rfl, rfl⟩ Cl.nil)
def pc2 (h : D → D → TV) (f g : PF) : PF := fun δ N => ⟨(f δ N).ok ∧ (g δ N).ok ∧ (h (f δ N).val (g δ N).val).ok, .bl (h (f δ N).val (g δ N).val).b⟩
def cI (g : Int → Int → Bool) : D → D → TV := fun x y => ⟨IsI x ∧ IsI y, g (toI x) (toI y)⟩
theorem dp_cmpI {a b : Expr} {op : CmpOp} {g' : Int → Int → Bool} {f g : PF} (ho : OpR X (compareOp op) (rI0 fun i j => .bl (g' i j))) (ha : DP X c1 a f) (hb : DP X c2 b g) (hm : behindInMarks op b = false) : DP X c (.Compare a [op] [b] pos) (pc2 (cI g') f g) :=
  dp_cmp (hf := cI g') ho ha hb hm fun H2 x y v w fa fb Q rx ry ok q => ⟨_, _, rx.int_ ok.1, ry.int_ ok.2, q⟩
theorem dp_lt {a b : Expr} {f g : PF} (ha : DP X c1 a f) (hb : DP X c2 b g) : DP X c (.Compare a [.Lt] [b] pos) (pc2 (cI fun i j => decide (i < j)) f g) := dp_cmpI op_lt ha hb (nomark _)
theorem dp_le {a b : Expr} {f g : PF} (ha : DP X c1 a f) (hb : DP X c2 b g) : DP X c (.Compare a [.LtE] [b] pos) (pc2 (cI fun i j => decide (i ≤ j)) f g) := dp_cmpI op_le ha hb (nomark _)
theorem dp_gt {a b : Expr} {f g : PF} (ha : DP X c1 a f) (hb : DP X c2 b g) : DP X c (.Compare a [.Gt] [b] pos) (pc2 (cI fun i j => decide (j < i)) f g) := dp_cmpI op_gt ha hb (nomark _)
theorem dp_ge {a b : Expr} {f g : PF} (ha : DP X c1 a f) (hb : DP X c2 b g) : DP X c (.Compare a [.GtE] [b] pos) (pc2 (cI fun i j => decide (j ≤ i)) f g) := dp_cmpI op_ge ha hb (nomark _)
def pChain (p q : Int → Int → Bool) (f g h : PF) : PF := fun δ N => ⟨(f δ N).ok ∧ (g δ N).ok ∧ IsI (f δ N).val ∧ IsI (g δ N).val ∧ (p (toI (f δ N).val) (toI (g δ N).val) = true → (h δ N).ok ∧ IsI (h δ N).val), .bl (p (toI (f δ N).val) (toI (g δ N).val) && q (toI (g δ N).val) (toI (h δ N).val))⟩
theorem dp_chain {a b d : Expr} {op op' : CmpOp} {p p' : Int → Int → Bool} {f g h : PF} (ho : OpR X (compareOp op) (rI0 fun i j => .bl (p i j))) (ho' : OpR X (compareOp op') (rI0 fun i j => .bl (p' i j))) (ha : DP X c1 a f) (hb : DP X c2 b g) (hd : DP X c3 d h)
    (k : PE X (.Compare a [op, op'] [b, d] pos) (tChain (rI0 fun i j => .bl (p i j)) (rI0 fun i j => .bl (p' i j)) (tP c1 f) (tP c2 g) (tP c3 h))) : DP X c (.Compare a [op, op'] [b, d] pos) (pChain p p' f g h) := by
  refine pe_imp k fun σ H Q h' => ?_
  obtain ⟨δ, N, F, hs, hn, ⟨o1, o2, o3, o4, o5⟩, q⟩ := h'
  refine ⟨δ, N, F, hs, hn, o1, fun v H1 fa e1 r1 k1 => ?_⟩
  refine ⟨δ, N, F, hs.ex e1, hn.ex e1, o2, fun w H2 fb e2 r2 k2 => ?_⟩
  refine ⟨_, _, (r1.ex e2).int_ o3, r2.int_ o4, _, rfl, ?_⟩
  have q' := q
  simp only [pChain] at q'
  cases ep : p (toI (f δ N).val) (toI (g δ N).val) with
  | true =>
    rw [ep] at q'
    refine (if_pos rfl).mpr ?_
    exact ⟨δ, N, F, (hs.ex e1).ex e2, (hn.ex e1).ex e2, (o5 ep).1, fun u H3 fc e3 r3 k3 => ⟨_, _, (r2.ex e3).int_ o4, r3.int_ (o5 ep).2, by
      have := q' (.bl (p' (toI (g δ N).val) (toI (h δ N).val))) H3 [] ((e1.trans e2).trans e3) ⟨by simp, rfl⟩ Cl.nil
      exact this⟩⟩
  | false =>
    rw [ep] at q'
    refine (if_neg Bool.false_ne_true).mpr ?_
    exact q' (.bl false) H2 [] (e1.trans e2) ⟨by simp, rfl⟩ Cl.nil
end
end DL
set_option maxHeartbeats 4000000
namespace DL
open PySem L2

mutual
def toPy : D → PyData
  | .non => .none
  | .bl b => .bool b
  | .int i => .int i
  | .str s => .str s
  | .tup ds => .tuple (toPys ds)
  | .lst ds => .list (toPys ds)
  | _ => .none
def toPys : List D → List PyData
  | [] => []
  | d :: ds => toPy d :: toPys ds
end
theorem toPys_map : ∀ ds : List D, toPys ds = ds.map toPy
  | [] => rfl
  | d :: ds => by rw [toPys, toPys_map ds]; rfl
def okD : Nat → D → Prop
  | _, .non => True
  | _, .bl _ => True
  | _, .int _ => True
  | _, .str s => PyData.strOk s = true
  | n + 1, .tup ds => ∀ d ∈ ds, okD n d
  | n + 1, .lst ds => ∀ d ∈ ds, okD n d
  | _, _ => False
mutual
theorem Rp.dp {K : PySem.W.Frag} {H : Hp} : ∀ (n : Nat) (d : D) (v : V) (fp : List Addr), Rp H d v fp → okD n d → Dp K H v (toPy d)
  | _, .non, _, _, h, _ => by rw [h.1]; exact .non
  | _, .bl b, _, _, h, _ => by rw [h.1]; exact .bl b
  | _, .int i, _, _, h, _ => by rw [h.1]; exact .int i
  | _, .str s, _, _, h, _ => by rw [h.1]; exact .str s
  | 0, .tup ds, _, _, _, k => by simp [okD] at k
  | 0, .lst ds, _, _, _, k => by simp [okD] at k
  | n + 1, .tup ds, v, fp, h, k => by
    obtain ⟨p, vs, rfl, hp, hl⟩ := h
    exact .tup (SqT.of hp) (RpL.dp n ds vs fp hl (by simpa [okD] using k))
  | n + 1, .lst ds, v, fp, h, k => by
    obtain ⟨p, vs, f, rfl, hp, hl, rfl⟩ := h
    exact .lst (SqL.of hp) (RpL.dp n ds vs f hl (by simpa [okD] using k))
  | n, .dic _ _, _, _, _, k => by cases n <;> simp [okD] at k
  | n, .obj _ _ _ _, _, _, _, k => by cases n <;> simp [okD] at k
  | n, .ref _, _, _, _, k => by cases n <;> simp [okD] at k
  | n, .tab _, _, _, _, k => by cases n <;> simp [okD] at k
  | n, .xdc _ _, _, _, _, k => by cases n <;> simp [okD] at k
  | n, .fdic _ _, _, _, _, k => by cases n <;> simp [okD] at k
theorem RpL.dp {K : PySem.W.Frag} {H : Hp} : ∀ (n : Nat) (ds : List D) (vs : List V) (fp : List Addr), RpL H ds vs fp → (∀ d ∈ ds, okD n d) → DpAll K H vs (toPys ds)
  | _, [], _, _, h, _ => by rw [h.1]; exact .nil
  | n, d :: ds, vs, fp, h, k => by
    obtain ⟨v, vr, f, g, rfl, h1, h2, rfl⟩ := h
    exact .cons (Rp.dp n d v f h1 (k d (by simp))) (RpL.dp n ds vr g h2 fun e he => k e (by simp [he]))
end
mutual
theorem okD.lay : ∀ (n : Nat) (d : D), okD n d → (toPy d).canLay0 = true ∧ (toPy d).depth ≤ n
  | _, .non, _ => by simp [toPy, PyData.canLay0, PyData.depth]
  | _, .bl b, _ => by simp [toPy, PyData.canLay0, PyData.depth]
  | _, .int i, _ => by simp [toPy, PyData.canLay0, PyData.depth]
  | n, .str s, h => by
    have h : PyData.strOk s = true := by cases n <;> simpa [okD] using h
    simp [toPy, PyData.canLay0, PyData.depth, h]
  | 0, .tup ds, k => by simp [okD] at k
  | 0, .lst ds, k => by simp [okD] at k
  | n + 1, .tup ds, k => by
    obtain ⟨a, b⟩ := okD.lays n ds (by simpa [okD] using k)
    simp only [toPy, PyData.canLay0, PyData.depth]
    exact ⟨a, by omega⟩
  | n + 1, .lst ds, k => by
    obtain ⟨a, b⟩ := okD.lays n ds (by simpa [okD] using k)
    simp only [toPy, PyData.canLay0, PyData.depth]
    exact ⟨a, by omega⟩
  | n, .dic _ _, k => by cases n <;> simp [okD] at k
  | n, .obj _ _ _ _, k => by cases n <;> simp [okD] at k
  | n, .ref _, k => by cases n <;> simp [okD] at k
  | n, .tab _, k => by cases n <;> simp [okD] at k
  | n, .xdc _ _, k => by cases n <;> simp [okD] at k
  | n, .fdic _ _, k => by cases n <;> simp [okD] at k
theorem okD.lays : ∀ (n : Nat) (ds : List D), (∀ d ∈ ds, okD n d) → PyData.canLayAll0 (toPys ds) = true ∧ PyData.depthAll (toPys ds) ≤ n
  | _, [], _ => by simp [toPys, PyData.canLayAll0, PyData.depthAll]
  | n, d :: ds, k => by
    obtain ⟨a, b⟩ := okD.lay n d (k d (by simp))
    obtain ⟨a', b'⟩ := okD.lays n ds fun e he => k e (by simp [he])
    simp only [toPys, PyData.canLayAll0, PyData.depthAll, a, a', Bool.and_self]
    exact ⟨trivial, by omega⟩
end
theorem okD.shaped {n : Nat} {d : D} (h : okD n d) (hn : n ≤ 64) : SeqAt.shaped (toPy d) = true := by
  obtain ⟨a, b⟩ := okD.lay n d h
  simp only [SeqAt.shaped, a, Bool.true_and, decide_eq_true_eq]
  omega
def eqD (x y : D) : Bool := PyData.eqv (toPy x) (toPy y)
def eqDs (xs ys : List D) : Bool := PyData.eqvAll (toPys xs) (toPys ys)
theorem eqD_int (i j : Int) : eqD (.int i) (.int j) = decide (i = j) := by simp [eqD, toPy, PyData.eqv]; rfl
theorem eqD_bl (i j : Bool) : eqD (.bl i) (.bl j) = decide (i = j) := by simp [eqD, toPy, PyData.eqv]; rfl
theorem eqD_str (i j : Str) : eqD (.str i) (.str j) = decide (i = j) := by simp [eqD, toPy, PyData.eqv]; rfl
theorem eqD_non : eqD .non .non = true := by simp [eqD, toPy, PyData.eqv]
theorem eqD_lst (xs ys : List D) : eqD (.lst xs) (.lst ys) = eqDs xs ys := by simp [eqD, eqDs, toPy, PyData.eqv]
theorem eqD_tup (xs ys : List D) : eqD (.tup xs) (.tup ys) = eqDs xs ys := by simp [eqD, eqDs, toPy, PyData.eqv]
theorem eqDs_nil : eqDs [] [] = true := by simp [eqDs, toPys, PyData.eqvAll]
theorem eqDs_cons (x y : D) (xs ys : List D) : eqDs (x :: xs) (y :: ys) = (eqD x y && eqDs xs ys) := by simp [eqDs, eqD, toPys, PyData.eqvAll]
theorem eqDs_nc (y : D) (ys : List D) : eqDs [] (y :: ys) = false := by simp [eqDs, toPys, PyData.eqvAll]
theorem eqDs_cn (y : D) (ys : List D) : eqDs (y :: ys) [] = false := by simp [eqDs, toPys, PyData.eqvAll]
theorem eqD_non_int (i : Int) : eqD .non (.int i) = false := by simp [eqD, toPy, PyData.eqv]
theorem eqD_int_non (i : Int) : eqD (.int i) .non = false := by simp [eqD, toPy, PyData.eqv]
theorem eqD_str_int (s : Str) (i : Int) : eqD (.str s) (.int i) = false := by simp [eqD, toPy, PyData.eqv]
theorem eqD_int_str (s : Str) (i : Int) : eqD (.int i) (.str s) = false := by simp [eqD, toPy, PyData.eqv]
theorem eqD_int_tup (s : List D) (i : Int) : eqD (.int i) (.tup s) = false := by simp [eqD, toPy, PyData.eqv]
theorem eqD_tup_int (s : List D) (i : Int) : eqD (.tup s) (.int i) = false := by simp [eqD, toPy, PyData.eqv]
theorem eqD_str_non (s : Str) : eqD (.str s) .non = false := by simp [eqD, toPy, PyData.eqv]
theorem eqD_str_tup (s : Str) (t : List D) : eqD (.str s) (.tup t) = false := by simp [eqD, toPy, PyData.eqv]
theorem eqD_str_lst (s : Str) (t : List D) : eqD (.str s) (.lst t) = false := by simp [eqD, toPy, PyData.eqv]
theorem eqD_lst_str (s : Str) (t : List D) : eqD (.lst t) (.str s) = false := by simp [eqD, toPy, PyData.eqv]
theorem eqD_non_lst (t : List D) : eqD .non (.lst t) = false := by simp [eqD, toPy, PyData.eqv]
theorem eqDs_map {α : Type} [DecidableEq α] {f : α → D} (h : ∀ a b, eqD (f a) (f b) = decide (a = b)) : ∀ xs ys : List α, eqDs (xs.map f) (ys.map f) = decide (xs = ys)
  | [], [] => by simp [eqDs_nil]
  | [], y :: ys => by simp [eqDs_nc]
  | x :: xs, [] => by simp [eqDs_cn]
  | x :: xs, y :: ys => by
    rw [List.map_cons, List.map_cons, eqDs_cons, h, eqDs_map h xs ys]
    by_cases e : x = y <;> by_cases e2 : xs = ys <;> simp [e, e2]

def flat : D → Bool
  | .non | .bl _ | .int _ | .str _ => true
  | _ => false
def fv : D → V
  | .non => .non
  | .bl b => .bl b
  | .int i => .int i
  | .str s => .str s
  | _ => .non
theorem Rp.flat_ {H : Hp} {d : D} {v : V} {fp : List Addr} (h : Rp H d v fp) (k : flat d = true) : v = fv d ∧ fp = [] := by
  cases d <;> first | exact h | (simp [flat] at k)
theorem RpL.flat_ {H : Hp} : ∀ {ds : List D} {vs : List V} {fp : List Addr}, RpL H ds vs fp → (∀ d ∈ ds, flat d = true) → vs = ds.map fv ∧ fp = []
  | [], _, _, h, _ => h
  | d :: ds, vs, fp, h, k => by
    obtain ⟨v, vr, f, g, rfl, h1, h2, rfl⟩ := h
    obtain ⟨e1, e2⟩ := h1.flat_ (k d (by simp))
    obtain ⟨e3, e4⟩ := RpL.flat_ h2 fun e he => k e (by simp [he])
    subst e1 e2 e3 e4
    exact ⟨rfl, rfl⟩
theorem flatV_fv {d : D} (h : flat d = true) : flatV (fv d) = true := by
  cases d <;> first | rfl | (simp [flat] at h)
theorem eqV_fv {x y : D} (hx : flat x = true) (hy : flat y = true) : eqV (fv x) (fv y) = eqD x y := by
  cases x <;> cases y <;> first
    | (simp [flat] at hx; done)
    | (simp [flat] at hy; done)
    | (simp [fv, eqV, eqD, toPy, PyData.eqv]; done)
    | (simp [fv, eqV, eqD, toPy, PyData.eqv]; rfl)
def inB (x : D) (xs : List D) : Bool := xs.any fun y => eqD y x
theorem inV_fv {x : D} (hx : flat x = true) : ∀ {xs : List D}, (∀ d ∈ xs, flat d = true) → inV (fv x) (xs.map fv) = inB x xs
  | [], _ => rfl
  | y :: ys, k => by
    have ih := inV_fv hx (xs := ys) fun e he => k e (by simp [he])
    unfold inV inB at ih ⊢
    rw [List.map_cons, List.any_cons, List.any_cons, ih, eqV_fv (k y (by simp)) hx]
theorem all_flatV {ds : List D} (h : ∀ d ∈ ds, flat d = true) : (ds.map fv).all flatV = true := by
  rw [List.all_eq_true]
  intro v hv
  obtain ⟨d, hd, rfl⟩ := List.mem_map.mp hv
  exact flatV_fv (h d hd)
theorem inB_int {i : Int} : ∀ {xs : List Int}, inB (.int i) (xs.map D.int) = decide (i ∈ xs)
  | [] => rfl
  | y :: ys => by
    have ih := inB_int (i := i) (xs := ys)
    unfold inB at ih ⊢
    rw [List.map_cons, List.any_cons, ih, eqD_int]
    by_cases e : y = i
    · simp [e]
    · have e' : i ≠ y := fun z => e z.symm
      simp [e, e']

section
variable {X : Cx} {c c1 c2 c3 : Cl} {pos : Pos}
def eqT (n : Nat) : D → D → TV := fun x y => ⟨okD n x ∧ okD n y, eqD x y⟩
def neT (n : Nat) : D → D → TV := fun x y => ⟨okD n x ∧ okD n y, !eqD x y⟩
theorem dp_eq {a b : Expr} {f g : PF} (hu : X.A.units + 64 < cLine) (ha : DP X c1 a f) (hb : DP X c2 b g) : DP X c (.Compare a [.Eq] [b] pos) (pc2 (eqT 8) f g) :=
  dp_cmp (hf := eqT 8) (op_eqD hu) ha hb (nomark _) fun H2 x y v w fa fb Q rx ry ok q => ⟨toPy x, toPy y, Rp.dp 8 _ _ _ rx ok.1, Rp.dp 8 _ _ _ ry ok.2, ok.1.shaped (by decide), ok.2.shaped (by decide), q⟩
theorem dp_ne {a b : Expr} {f g : PF} (hu : X.A.units + 64 < cLine) (ha : DP X c1 a f) (hb : DP X c2 b g) : DP X c (.Compare a [.NotEq] [b] pos) (pc2 (neT 8) f g) :=
  dp_cmp (hf := neT 8) (op_neD hu) ha hb (nomark _) fun H2 x y v w fa fb Q rx ry ok q => ⟨toPy x, toPy y, Rp.dp 8 _ _ _ rx ok.1, Rp.dp 8 _ _ _ ry ok.2, ok.1.shaped (by decide), ok.2.shaped (by decide), q⟩
def inT (neg : Bool) : D → D → TV := fun x y => ⟨flat x = true ∧ IsQ y ∧ ∀ d ∈ toL y, flat d = true, if neg then !inB x (toL y) else inB x (toL y)⟩
theorem in_rd {neg : Bool} {H2 : Hp} {x y : D} {v w : V} {fa fb : List Addr} {Q : VK} (K : PySem.W.Frag) (rx : Rp H2 x v fa) (ry : Rp H2 y w fb) (ok : (inT neg x y).ok) (q : Q (.bl (inT neg x y).b) H2) : rIn K neg v w H2 Q := by
  obtain ⟨p, vs, f, rfl, hp, rl, _⟩ := ry.seq_ K ok.2.1
  obtain ⟨rfl, _⟩ := rx.flat_ ok.1
  obtain ⟨rfl, _⟩ := rl.flat_ ok.2.2
  refine ⟨p, _, rfl, hp, flatV_fv ok.1, all_flatV ok.2.2, ?_⟩
  rw [inV_fv ok.1 ok.2.2]
  exact q
theorem dp_in {a b : Expr} {f g : PF} (ha : DP X c1 a f) (hb : DP X c2 b g) (hm : behindInMarks .In b = false := by rfl) : DP X c (.Compare a [.In] [b] pos) (pc2 (inT false) f g) :=
  dp_cmp (hf := inT false) op_in_seq ha hb hm fun H2 x y v w fa fb Q rx ry ok q => in_rd X.K rx ry ok q
theorem dp_notIn {a b : Expr} {f g : PF} (ha : DP X c1 a f) (hb : DP X c2 b g) (hm : behindInMarks .NotIn b = false := by rfl) : DP X c (.Compare a [.NotIn] [b] pos) (pc2 (inT true) f g) :=
  dp_cmp (hf := inT true) op_notIn_seq ha hb hm fun H2 x y v w fa fb Q rx ry ok q => in_rd X.K rx ry ok q
def isN : D → Bool | .non => true | _ => false
theorem Rp.isN {H : Hp} {d : D} {v : V} {fp : List Addr} (h : Rp H d v fp) : decide (v = .non) = DL.isN d := by
  cases d with
  | non => rw [h.1]; rfl
  | bl b => rw [h.1]; rfl
  | int b => rw [h.1]; rfl
  | str b => rw [h.1]; rfl
  | ref b => rw [h.1]; rfl
  | tup b => obtain ⟨p, vs, rfl, _⟩ := h; rfl
  | lst b => obtain ⟨p, vs, f, rfl, _⟩ := h; rfl
  | dic _ b => obtain ⟨p, vs, f, rfl, _⟩ := h; rfl
  | obj _ _ _ b => obtain ⟨p, vs, f, rfl, _⟩ := h; rfl
  | tab _ => obtain ⟨p, ps, cs, rfl, _⟩ := h; rfl
  | xdc _ _ => obtain ⟨p, rfl, _⟩ := h; rfl
  | fdic _ _ => obtain ⟨p, ps, cs, o, rfl, _⟩ := h; rfl
def pIsN (f : PF) : PF := fun δ N => ⟨(f δ N).ok, .bl (isN (f δ N).val)⟩
def pNotN (f : PF) : PF := fun δ N => ⟨(f δ N).ok, .bl (!isN (f δ N).val)⟩
theorem dp_isN {a : Expr} {f : PF} {k p2} (ha : DP X c1 a f) : DP X c (.Compare a [.Is] [.Constant .none k p2] pos) (pIsN f) := by
  refine pe_imp (pe_cmpR op_isN ha pe_non (nomark _)) fun σ H Q h => ?_
  obtain ⟨δ, N, F, hs, hn, ok, q⟩ := h
  exact ⟨δ, N, F, hs, hn, ok, fun v H' fp e r k => ⟨rfl, by rw [r.isN]; exact q _ H' [] e ⟨rfl, rfl⟩ Cl.nil⟩⟩
theorem dp_notN {a : Expr} {f : PF} {k p2} (ha : DP X c1 a f) : DP X c (.Compare a [.IsNot] [.Constant .none k p2] pos) (pNotN f) := by
  refine pe_imp (pe_cmpR op_notN ha pe_non (nomark _)) fun σ H Q h => ?_
  obtain ⟨δ, N, F, hs, hn, ok, q⟩ := h
  exact ⟨δ, N, F, hs, hn, ok, fun v H' fp e r k => ⟨rfl, by rw [r.isN]; exact q _ H' [] e ⟨rfl, rfl⟩ Cl.nil⟩⟩

def tOf (f : PF) : TF := fun δ N => ⟨(f δ N).ok ∧ IsB (f δ N).val, toB (f δ N).val⟩
theorem dt_val {e : Expr} {f : PF} (h : DP X c e f) (he : ∀ whole, isTrue e X.env whole = (do let v ← whole; standAt e.pos; holding [v] (truthy v)) := by intro _; rfl) : DT X e (tOf f) := by
  refine pt_imp (pt_val h he) fun σ H Q h => ?_
  obtain ⟨δ, N, F, hs, hn, ok, q⟩ := h
  exact ⟨δ, N, F, hs, hn, ok.1, fun v H' fp e r k => ⟨_, r.bl_ ok.2, q H' e⟩⟩
theorem dt_cmp {a b : Expr} {op : CmpOp} {r : R2} {f g : PF} {hf : D → D → TV} (ho : OpR X (compareOp op) r) (ha : DP X c1 a f) (hb : DP X c2 b g) (hm : behindInMarks op b = false)
    (hr : ∀ (H2 : Hp) (x y : D) (v w : V) (fa fb : List Addr) (Q : VK), Rp H2 x v fa → Rp H2 y w fb → (hf x y).ok → Q (.bl (hf x y).b) H2 → r v w H2 Q) :
    DT X (.Compare a [op] [b] pos) (fun δ N => ⟨(f δ N).ok ∧ (g δ N).ok ∧ (hf (f δ N).val (g δ N).val).ok, (hf (f δ N).val (g δ N).val).b⟩) := by
  refine pt_imp (pt_cmpR ho ha hb hm) fun σ H Q h => ?_
  obtain ⟨δ, N, F, hs, hn, ⟨o1, o2, o3⟩, q⟩ := h
  refine ⟨δ, N, F, hs, hn, o1, fun v H1 fa e1 r1 k1 => ?_⟩
  refine ⟨δ, N, F, hs.ex e1, hn.ex e1, o2, fun w H2 fb e2 r2 k2 => ?_⟩
  exact hr H2 _ _ v w fa fb _ (r1.ex e2) r2 o3 ⟨_, rfl, q H2 (e1.trans e2)⟩
def tc2 (h : D → D → TV) (f g : PF) : TF := fun δ N => ⟨(f δ N).ok ∧ (g δ N).ok ∧ (h (f δ N).val (g δ N).val).ok, (h (f δ N).val (g δ N).val).b⟩
theorem dt_cmpI {a b : Expr} {op : CmpOp} {g' : Int → Int → Bool} {f g : PF} (ho : OpR X (compareOp op) (rI0 fun i j => .bl (g' i j))) (ha : DP X c1 a f) (hb : DP X c2 b g) (hm : behindInMarks op b = false) : DT X (.Compare a [op] [b] pos) (tc2 (cI g') f g) :=
  dt_cmp (hf := cI g') ho ha hb hm fun H2 x y v w fa fb Q rx ry ok q => ⟨_, _, rx.int_ ok.1, ry.int_ ok.2, q⟩
theorem dt_lt {a b : Expr} {f g : PF} (ha : DP X c1 a f) (hb : DP X c2 b g) : DT X (.Compare a [.Lt] [b] pos) (tc2 (cI fun i j => decide (i < j)) f g) := dt_cmpI op_lt ha hb (nomark _)
theorem dt_le {a b : Expr} {f g : PF} (ha : DP X c1 a f) (hb : DP X c2 b g) : DT X (.Compare a [.LtE] [b] pos) (tc2 (cI fun i j => decide (i ≤ j)) f g) := dt_cmpI op_le ha hb (nomark _)
theorem dt_gt {a b : Expr} {f g : PF} (ha : DP X c1 a f) (hb : DP X c2 b g) : DT X (.Compare a [.Gt] [b] pos) (tc2 (cI fun i j => decide (j < i)) f g) := dt_cmpI op_gt ha hb (nomark _)
theorem dt_ge {a b : Expr} {f g : PF} (ha : DP X c1 a f) (hb : DP X c2 b g) : DT X (.Compare a [.GtE] [b] pos) (tc2 (cI fun i j => decide (j ≤ i)) f g) := dt_cmpI op_ge ha hb (nomark _)
theorem dt_eq {a b : Expr} {f g : PF} (hu : X.A.units + 64 < cLine) (ha : DP X c1 a f) (hb : DP X c2 b g) : DT X (.Compare a [.Eq] [b] pos) (tc2 (eqT 8) f g) :=
  dt_cmp (hf := eqT 8) (op_eqD hu) ha hb (nomark _) fun H2 x y v w fa fb Q rx ry ok q => ⟨toPy x, toPy y, Rp.dp 8 _ _ _ rx ok.1, Rp.dp 8 _ _ _ ry ok.2, ok.1.shaped (by decide), ok.2.shaped (by decide), q⟩
theorem dt_ne {a b : Expr} {f g : PF} (hu : X.A.units + 64 < cLine) (ha : DP X c1 a f) (hb : DP X c2 b g) : DT X (.Compare a [.NotEq] [b] pos) (tc2 (neT 8) f g) :=
  dt_cmp (hf := neT 8) (op_neD hu) ha hb (nomark _) fun H2 x y v w fa fb Q rx ry ok q => ⟨toPy x, toPy y, Rp.dp 8 _ _ _ rx ok.1, Rp.dp 8 _ _ _ ry ok.2, ok.1.shaped (by decide), ok.2.shaped (by decide), q⟩
theorem dt_in {a b : Expr} {f g : PF} (ha : DP X c1 a f) (hb : DP X c2 b g) (hm : behindInMarks .In b = false := by rfl) : DT X (.Compare a [.In] [b] pos) (tc2 (inT false) f g) :=
  dt_cmp (hf := inT false) op_in_seq ha hb hm fun H2 x y v w fa fb Q rx ry ok q => in_rd X.K rx ry ok q
theorem dt_notIn {a b : Expr} {f g : PF} (ha : DP X c1 a f) (hb : DP X c2 b g) (hm : behindInMarks .NotIn b = false := by rfl) : DT X (.Compare a [.NotIn] [b] pos) (tc2 (inT true) f g) :=
  dt_cmp (hf := inT true) op_notIn_seq ha hb hm fun H2 x y v w fa fb Q rx ry ok q => in_rd X.K rx ry ok q
theorem dt_isN {a : Expr} {f : PF} {k p2} (ha : DP X c1 a f) : DT X (.Compare a [.Is] [.Constant .none k p2] pos) (fun δ N => ⟨(f δ N).ok, isN (f δ N).val⟩) := by
  refine pt_imp (pt_cmpR op_isN ha pe_non (nomark _)) fun σ H Q h => ?_
  obtain ⟨δ, N, F, hs, hn, ok, q⟩ := h
  exact ⟨δ, N, F, hs, hn, ok, fun v H' fp e r k => ⟨rfl, _, rfl, by rw [r.isN]; exact q H' e⟩⟩
theorem dt_notN {a : Expr} {f : PF} {k p2} (ha : DP X c1 a f) : DT X (.Compare a [.IsNot] [.Constant .none k p2] pos) (fun δ N => ⟨(f δ N).ok, !isN (f δ N).val⟩) := by
  refine pt_imp (pt_cmpR op_notN ha pe_non (nomark _)) fun σ H Q h => ?_
  obtain ⟨δ, N, F, hs, hn, ok, q⟩ := h
  exact ⟨δ, N, F, hs, hn, ok, fun v H' fp e r k => ⟨rfl, _, rfl, by rw [r.isN]; exact q H' e⟩⟩
def tChn (p q : Int → Int → Bool) (f g h : PF) : TF := fun δ N => ⟨(f δ N).ok ∧ (g δ N).ok ∧ IsI (f δ N).val ∧ IsI (g δ N).val ∧ (p (toI (f δ N).val) (toI (g δ N).val) = true → (h δ N).ok ∧ IsI (h δ N).val), p (toI (f δ N).val) (toI (g δ N).val) && q (toI (g δ N).val) (toI (h δ N).val)⟩
theorem dt_chain {a b d : Expr} {op op' : CmpOp} {p p' : Int → Int → Bool} {f g h : PF} (ho : OpR X (compareOp op) (rI0 fun i j => .bl (p i j))) (ho' : OpR X (compareOp op') (rI0 fun i j => .bl (p' i j))) (ha : DP X c1 a f) (hb : DP X c2 b g) (hd : DP X c3 d h)
    (hm : lastMarks [op, op'] [b, d] = false := by with_unfolding_all rfl) : DT X (.Compare a [op, op'] [b, d] pos) (tChn p p' f g h) := by
  refine pt_imp (pt_chain ho ho' ha hb hd hm) fun σ H Q h' => ?_
  obtain ⟨δ, N, F, hs, hn, ⟨o1, o2, o3, o4, o5⟩, q⟩ := h'
  refine ⟨δ, N, F, hs, hn, o1, fun v H1 fa e1 r1 k1 => ?_⟩
  refine ⟨δ, N, F, hs.ex e1, hn.ex e1, o2, fun w H2 fb e2 r2 k2 => ?_⟩
  refine ⟨_, _, (r1.ex e2).int_ o3, r2.int_ o4, _, rfl, ?_⟩
  simp only [tChn] at q
  cases ep : p (toI (f δ N).val) (toI (g δ N).val) with
  | true =>
    rw [ep] at q
    refine (if_pos rfl).mpr ?_
    exact ⟨δ, N, F, (hs.ex e1).ex e2, (hn.ex e1).ex e2, (o5 ep).1, fun u H3 fc e3 r3 k3 => ⟨_, _, (r2.ex e3).int_ o4, r3.int_ (o5 ep).2, _, rfl, by simpa using q H3 ((e1.trans e2).trans e3)⟩⟩
  | false =>
    rw [ep] at q
    refine (if_neg Bool.false_ne_true).mpr ?_
    exact ⟨false, rfl, by simpa using q H2 (e1.trans e2)⟩
def tNot1 (f : TF) : TF := fun δ N => ⟨(f δ N).ok, !(f δ N).b⟩
theorem dt_not {a : Expr} {f : TF} (h : DT X a f) : DT X (.UnaryOp .Not a pos) (tNot1 f) := by
  refine pt_imp (pt_not h) fun σ H Q h => ?_
  obtain ⟨δ, N, F, hs, hn, ok, q⟩ := h
  exact ⟨δ, N, F, hs, hn, ok, q⟩
def tAnd2 (f g : TF) : TF := fun δ N => ⟨(f δ N).ok ∧ ((f δ N).b = true → (g δ N).ok), (f δ N).b && (g δ N).b⟩
def tOr2 (f g : TF) : TF := fun δ N => ⟨(f δ N).ok ∧ ((f δ N).b = false → (g δ N).ok), (f δ N).b || (g δ N).b⟩
abbrev DW (X : Cx) (e : Expr) (f : TF) : Prop := PW X e (tT f)
theorem dw_and1 {a : Expr} {f : TF} (h : DT X a f) : DW X (.BoolOp .And [a] pos) f := pw_and1 h
theorem dw_or1 {a : Expr} {f : TF} (h : DT X a f) : DW X (.BoolOp .Or [a] pos) f := pw_or1 h
theorem pw_imp {X : Cx} {e : Expr} {t t' : TT} (h : PW X e t) (k : ∀ σ H Q, t' σ H Q → t σ H Q) : PW X e t' := ⟨fun wh pins s σ H Q I q => h.run wh pins s σ H Q I (k σ H Q q)⟩
theorem dw_and {a b : Expr} {rest : List Expr} {f g : TF} (ha : DT X a f) (hb : DW X (.BoolOp .And (b :: rest) pos) g) : DW X (.BoolOp .And (a :: b :: rest) pos) (tAnd2 f g) := by
  refine pw_imp (pw_and ha hb) fun σ H Q h => ?_
  obtain ⟨δ, N, F, hs, hn, ok, q⟩ := h
  refine ⟨δ, N, F, hs, hn, ok.1, fun H1 e1 => ?_⟩
  simp only [tAnd2] at q
  cases eb : (f δ N).b with
  | true =>
    rw [eb] at q
    refine (if_pos rfl).mpr ?_
    exact ⟨δ, N, F, hs.ex e1, hn.ex e1, ok.2 eb, fun H2 e2 => by simpa using q H2 (e1.trans e2)⟩
  | false =>
    rw [eb] at q
    refine (if_neg Bool.false_ne_true).mpr ?_
    simpa using q H1 e1
theorem dw_or {a b : Expr} {rest : List Expr} {f g : TF} (ha : DT X a f) (hb : DW X (.BoolOp .Or (b :: rest) pos) g) : DW X (.BoolOp .Or (a :: b :: rest) pos) (tOr2 f g) := by
  refine pw_imp (pw_or ha hb) fun σ H Q h => ?_
  obtain ⟨δ, N, F, hs, hn, ok, q⟩ := h
  refine ⟨δ, N, F, hs, hn, ok.1, fun H1 e1 => ?_⟩
  simp only [tOr2] at q
  cases eb : (f δ N).b with
  | false =>
    rw [eb] at q
    refine (if_neg Bool.false_ne_true).mpr ?_
    exact ⟨δ, N, F, hs.ex e1, hn.ex e1, ok.2 eb, fun H2 e2 => by simpa using q H2 (e1.trans e2)⟩
  | true =>
    rw [eb] at q
    refine (if_pos rfl).mpr ?_
    simpa using q H1 e1
theorem DW.dt {e : Expr} {f : TF} (h : DW X e f) : DT X e f := h.pt
def pAnd (f g : PF) : PF := fun δ N => ⟨(f δ N).ok ∧ IsB (f δ N).val ∧ (toB (f δ N).val = true → (g δ N).ok ∧ IsB (g δ N).val), .bl (toB (f δ N).val && toB (g δ N).val)⟩
def pOr (f g : PF) : PF := fun δ N => ⟨(f δ N).ok ∧ IsB (f δ N).val ∧ (toB (f δ N).val = false → (g δ N).ok ∧ IsB (g δ N).val), .bl (toB (f δ N).val || toB (g δ N).val)⟩
theorem dp_one {op : BoolOp} {a : Expr} {f : PF} (h : DP X c a f) : DP X c (.BoolOp op [a] pos) f := pe_one h
theorem dp_and {a b : Expr} {rest : List Expr} {f g : PF} (ha : DP X c1 a f) (hb : DP X c2 (.BoolOp .And (b :: rest) pos) g) : DP X c (.BoolOp .And (a :: b :: rest) pos) (pAnd f g) := by
  refine pe_imp (pe_and ha hb) fun σ H Q h => ?_
  obtain ⟨δ, N, F, hs, hn, ⟨o1, o2, o3⟩, q⟩ := h
  refine ⟨δ, N, F, hs, hn, o1, fun v H1 fp e1 r1 k1 => ⟨_, r1.bl_ o2, ?_⟩⟩
  simp only [pAnd] at q
  cases eb : toB (f δ N).val with
  | true =>
    rw [eb] at q
    refine (if_pos rfl).mpr ?_
    refine ⟨δ, N, F, hs.ex e1, hn.ex e1, (o3 eb).1, fun w H2 fp2 e2 r2 k2 => ?_⟩
    have z := r2.bl_ (o3 eb).2
    subst z
    exact q _ H2 [] (e1.trans e2) ⟨by simp, rfl⟩ Cl.nil
  | false =>
    rw [eb] at q
    refine (if_neg Bool.false_ne_true).mpr ?_
    exact q _ H1 [] e1 ⟨by simp, rfl⟩ Cl.nil
theorem dp_or {a b : Expr} {rest : List Expr} {f g : PF} (ha : DP X c1 a f) (hb : DP X c2 (.BoolOp .Or (b :: rest) pos) g) : DP X c (.BoolOp .Or (a :: b :: rest) pos) (pOr f g) := by
  refine pe_imp (pe_or ha hb) fun σ H Q h => ?_
  obtain ⟨δ, N, F, hs, hn, ⟨o1, o2, o3⟩, q⟩ := h
  refine ⟨δ, N, F, hs, hn, o1, fun v H1 fp e1 r1 k1 => ⟨_, r1.bl_ o2, ?_⟩⟩
  simp only [pOr] at q
  cases eb : toB (f δ N).val with
  | false =>
    rw [eb] at q
    refine (if_neg Bool.false_ne_true).mpr ?_
    refine ⟨δ, N, F, hs.ex e1, hn.ex e1, (o3 eb).1, fun w H2 fp2 e2 r2 k2 => ?_⟩
    have z := r2.bl_ (o3 eb).2
    subst z
    exact q _ H2 [] (e1.trans e2) ⟨by simp, rfl⟩ Cl.nil
  | true =>
    rw [eb] at q
    refine (if_pos rfl).mpr ?_
    exact q _ H1 [] e1 ⟨by simp, rfl⟩ Cl.nil
def pNot (f : PF) : PF := fun δ N => ⟨(f δ N).ok ∧ IsB (f δ N).val, .bl (!toB (f δ N).val)⟩
theorem dp_not {a : Expr} {f : PF} (h : DP X c1 a f) : DP X c (.UnaryOp .Not a pos) (pNot f) := by
  refine pe_imp (pe_not h) fun σ H Q h => ?_
  obtain ⟨δ, N, F, hs, hn, ok, q⟩ := h
  exact ⟨δ, N, F, hs, hn, ok.1, fun v H' fp e r k => ⟨_, r.bl_ ok.2, q _ H' [] e ⟨rfl, rfl⟩ Cl.nil⟩⟩
def pIf (t : TF) (f g : PF) : PF := fun δ N => ⟨(t δ N).ok ∧ if (t δ N).b = true then (f δ N).ok else (g δ N).ok, if (t δ N).b = true then (f δ N).val else (g δ N).val⟩
theorem dp_if {e a b : Expr} {t : TF} {f g : PF} (ht : DT X e t) (ha : DP X c a f) (hb : DP X c b g) : DP X c (.IfExp e a b pos) (pIf t f g) := by
  refine pe_imp (pe_ifExp ht ha hb) fun σ H Q h => ?_
  obtain ⟨δ, N, F, hs, hn, ok, q⟩ := h
  refine ⟨δ, N, F, hs, hn, ok.1, fun H1 e1 => ?_⟩
  have o2 := ok.2
  simp only [pIf] at q
  cases eb : (t δ N).b with
  | true =>
    rw [eb] at q o2
    refine (if_pos rfl).mpr ?_
    exact ⟨δ, N, F, hs.ex e1, hn.ex e1, by simpa using o2, fun v H2 fp e2 r k => q v H2 fp (e1.trans e2) (by simpa using r) (Cl.back e1 k)⟩
  | false =>
    rw [eb] at q o2
    refine (if_neg Bool.false_ne_true).mpr ?_
    exact ⟨δ, N, F, hs.ex e1, hn.ex e1, by simpa using o2, fun v H2 fp e2 r k => q v H2 fp (e1.trans e2) (by simpa using r) (Cl.back e1 k)⟩

def ixQ (x y : D) : PV := ⟨IsQ x ∧ IsI y ∧ (atI (toL x) (toI y)).isSome = true, (atI (toL x) (toI y)).getD .non⟩
theorem RpL.at {H : Hp} {ds : List D} {vs : List V} {fp : List Addr} {i : Int} {d : D} (h : RpL H ds vs fp) (e : atI ds i = some d) : ∃ v f, atI vs i = some v ∧ Rp H d v f ∧ (∀ p ∈ f, p ∈ fp) ∧ (fp.Nodup → f.Nodup) := by
  unfold atI at e ⊢
  rw [← h.length]
  cases ej : ixN ds.length i with
  | none => rw [ej] at e; cases e
  | some j =>
    rw [ej] at e
    obtain ⟨v, f, h1, h2, h3, h4⟩ := h.get (show ds[j]? = some d from e)
    exact ⟨v, f, h1, h2, h3, h4⟩
theorem dp_ix {a b : Expr} {f g : PF} (ha : DP X c a f) (hb : DP X c1 b g) (hs : PlainIx b := by exact fun _ _ => rfl) : DP X c (.Subscript a b pos) (p2 ixQ f g) := by
  refine pe_imp (pe_ix (ix_list.or ix_tup) ha hb hs) fun σ H Q h => ?_
  obtain ⟨δ, N, F, hS, hn, ⟨o1, o2, o3, o4, o5⟩, q⟩ := h
  refine ⟨δ, N, F, hS, hn, o1, fun v H1 fa e1 r1 k1 => ?_⟩
  refine ⟨δ, N, F, hS.ex e1, hn.ex e1, o2, fun w H2 fb e2 r2 k2 => ?_⟩
  obtain ⟨d, ed⟩ := Option.isSome_iff_exists.mp o5
  have q' : ∀ u H' fp, Ex H H' → Rp H' d u fp → c.ok F H fp → Q u H' := fun u H' fp e r k => q u H' fp e (by simp only [p2, ixQ, ed]; exact r) k
  have hw := r2.int_ o4
  subst hw
  have r1 := r1.ex e2
  rcases o3.eq with e | e
  · rw [e] at r1
    obtain ⟨p, vs, f, rfl, hp, rl, rfl⟩ := r1
    obtain ⟨u, fu, h1, h2, h3, h4⟩ := rl.at ed
    exact .inl ⟨p, vs, _, u, rfl, rfl, SqL.of hp, h1, q' u H2 fu (e1.trans e2) h2 (Cl.sub k1 (fun z hz => by simp [h3 z hz]) fun n => h4 (List.nodup_cons.mp n).2)⟩
  · rw [e] at r1
    obtain ⟨p, vs, rfl, hp, rl⟩ := r1
    obtain ⟨u, fu, h1, h2, h3, h4⟩ := rl.at ed
    exact .inr ⟨p, vs, _, u, rfl, rfl, SqT.of hp, h1, q' u H2 fu (e1.trans e2) h2 (Cl.sub k1 (fun z hz => h3 z hz) h4)⟩
theorem atI_map {α β : Type} (f : α → β) (xs : List α) (i : Int) : atI (xs.map f) i = (atI xs i).map f := by
  unfold atI
  rw [List.length_map]
  cases ixN xs.length i with
  | none => rfl
  | some j => simp

abbrev SF := Loc → Nm → Prop × Option Int
def tO (f : SF) : TO := fun σ H Q => ∃ δ N F, SRep F H σ δ ∧ NRep N H ∧ (f δ N).1 ∧ ∀ H', Ex H H' → Q (f δ N).2 H'
theorem po_imp {e : Option Expr} {t t' : TO} (h : PO X e t) (k : ∀ σ H Q, t' σ H Q → t σ H Q) : PO X e t' := ⟨fun pins s σ H Q I q => h.run pins s σ H Q I (k σ H Q q)⟩
theorem do_none : PO X none (tO fun _ _ => (True, none)) := by
  refine po_imp po_none fun σ H Q h => ?_
  obtain ⟨δ, N, F, hs, hn, ok, q⟩ := h
  exact q H (Ex.refl H)
theorem do_some {e : Expr} {f : PF} (h : DP X c e f) : PO X (some e) (tO fun δ N => ((f δ N).ok ∧ IsI (f δ N).val, some (toI (f δ N).val))) := by
  refine po_imp (po_some h) fun σ H Q h => ?_
  obtain ⟨δ, N, F, hs, hn, ok, q⟩ := h
  exact ⟨δ, N, F, hs, hn, ok.1, fun v H' fp e r k => ⟨_, r.int_ ok.2, q H' e⟩⟩
def cutD (xs : List D) (lo hi : Option Int) : List D := (xs.drop (HT.sIx xs.length 0 lo)).take (HT.sIx xs.length xs.length hi - HT.sIx xs.length 0 lo)
theorem RpL.drop {H : Hp} : ∀ (n : Nat) {ds : List D} {vs : List V} {fp : List Addr}, RpL H ds vs fp → ∃ f, RpL H (ds.drop n) (vs.drop n) f ∧ (∀ p ∈ f, p ∈ fp) ∧ (fp.Nodup → f.Nodup)
  | 0, _, _, fp, h => ⟨fp, h, fun _ q => q, id⟩
  | _ + 1, [], _, _, h => by obtain ⟨rfl, rfl⟩ := h; exact ⟨[], RpL.nil, fun _ q => q, id⟩
  | n + 1, d :: ds, vs, fp, h => by
    obtain ⟨v, vr, f, g, rfl, h1, h2, rfl⟩ := h
    obtain ⟨f', a, b, c⟩ := RpL.drop n h2
    exact ⟨f', a, fun p hp => by simp [b p hp], fun k => c (List.nodup_append.mp k).2.1⟩
theorem RpL.take {H : Hp} : ∀ (n : Nat) {ds : List D} {vs : List V} {fp : List Addr}, RpL H ds vs fp → ∃ f, RpL H (ds.take n) (vs.take n) f ∧ (∀ p ∈ f, p ∈ fp) ∧ (fp.Nodup → f.Nodup)
  | 0, _, _, fp, h => ⟨[], RpL.nil, fun _ q => by simp at q, fun _ => List.nodup_nil⟩
  | _ + 1, [], _, _, h => by obtain ⟨rfl, rfl⟩ := h; exact ⟨[], RpL.nil, fun _ q => q, id⟩
  | n + 1, d :: ds, vs, fp, h => by
    obtain ⟨v, vr, f, g, rfl, h1, h2, rfl⟩ := h
    obtain ⟨f', a, b, c⟩ := RpL.take n h2
    refine ⟨f ++ f', RpL.cons h1 a, fun p hp => ?_, fun k => ?_⟩
    · rcases List.mem_append.mp hp with q | q
      · simp [q]
      · simp [b p q]
    · obtain ⟨k1, k2, k3⟩ := List.nodup_append.mp k
      exact List.nodup_append.mpr ⟨k1, c k2, fun x hx y hy => k3 x hx y (b y hy)⟩
theorem RpL.cut {H : Hp} {ds : List D} {vs : List V} {fp : List Addr} (h : RpL H ds vs fp) (lo hi : Option Int) : ∃ f, RpL H (cutD ds lo hi) (cutV vs lo hi) f ∧ (∀ p ∈ f, p ∈ fp) ∧ (fp.Nodup → f.Nodup) := by
  unfold cutD cutV
  rw [← h.length]
  obtain ⟨f, a, b, c⟩ := h.drop (HT.sIx ds.length 0 lo)
  obtain ⟨f', a', b', c'⟩ := a.take (HT.sIx ds.length ds.length hi - HT.sIx ds.length 0 lo)
  exact ⟨f', a', fun p hp => b p (b' p hp), fun k => c' (c k)⟩
def pSl (f : PF) (lo hi : SF) : PF := fun δ N => ⟨(f δ N).ok ∧ (lo δ N).1 ∧ (hi δ N).1 ∧ IsL (f δ N).val, .lst (cutD (toL (f δ N).val) (lo δ N).2 (hi δ N).2)⟩
def pSlF (f : PF) (lo hi : SF) : PF := fun δ N => ⟨(f δ N).ok ∧ (lo δ N).1 ∧ (hi δ N).1 ∧ IsL (f δ N).val ∧ lfs (cutD (toL (f δ N).val) (lo δ N).2 (hi δ N).2), .lst (cutD (toL (f δ N).val) (lo δ N).2 (hi δ N).2)⟩
def pSlU (f : PF) (lo hi : SF) : PF := fun δ N => ⟨(f δ N).ok ∧ (lo δ N).1 ∧ (hi δ N).1 ∧ IsU (f δ N).val, .tup (cutD (toL (f δ N).val) (lo δ N).2 (hi δ N).2)⟩
theorem dp_sl {a : Expr} {l h : Option Expr} {f : PF} {lo hi : SF} {p2} (ha : DP X c a f) (hl : PO X l (tO lo)) (hh : PO X h (tO hi)) : DP X c (.Subscript a (.Slice l h none p2) pos) (pSl f lo hi) := by
  refine pe_imp (pe_slice sl_list ha hl hh) fun σ H Q h => ?_
  obtain ⟨δ, N, F, hs, hn, ⟨o1, o2, o3, o4⟩, q⟩ := h
  refine ⟨δ, N, F, hs, hn, o1, fun v H1 fa e1 r1 k1 => ⟨δ, N, F, hs.ex e1, hn.ex e1, o2, fun H2 e2 => ⟨δ, N, F, (hs.ex e1).ex e2, (hn.ex e1).ex e2, o3, fun H3 e3 => ?_⟩⟩⟩
  obtain ⟨p, vs, f', rfl, hp, rl, rfl⟩ := ((r1.ex e2).ex e3).lst_ o4
  refine ⟨p, vs, rfl, SqL.of hp, fun l hl => ?_⟩
  obtain ⟨f2, r2, b2, n2⟩ := rl.cut (lo δ N).2 (hi δ N).2
  exact new_lst ((e1.trans e2).trans e3) r2 (Cl.sub k1 (fun z hz => by simp [b2 z hz]) fun n => n2 (List.nodup_cons.mp n).2) hl fun u H' fp e r k => q u H' fp (((e1.trans e2).trans e3).trans e) r k
theorem dp_slF {a : Expr} {l h : Option Expr} {f : PF} {lo hi : SF} {p2} (ha : DP X c1 a f) (hl : PO X l (tO lo)) (hh : PO X h (tO hi)) : DP X c (.Subscript a (.Slice l h none p2) pos) (pSlF f lo hi) := by
  refine pe_imp (pe_slice sl_list ha hl hh) fun σ H Q h => ?_
  obtain ⟨δ, N, F, hs, hn, ⟨o1, o2, o3, o4, o5⟩, q⟩ := h
  refine ⟨δ, N, F, hs, hn, o1, fun v H1 fa e1 r1 k1 => ⟨δ, N, F, hs.ex e1, hn.ex e1, o2, fun H2 e2 => ⟨δ, N, F, (hs.ex e1).ex e2, (hn.ex e1).ex e2, o3, fun H3 e3 => ?_⟩⟩⟩
  obtain ⟨p, vs, f', rfl, hp, rl, rfl⟩ := ((r1.ex e2).ex e3).lst_ o4
  refine ⟨p, vs, rfl, SqL.of hp, fun l hl => ?_⟩
  obtain ⟨f2, r2, b2, n2⟩ := rl.cut (lo δ N).2 (hi δ N).2
  have z := RpL.lf _ _ _ r2 o5
  subst z
  exact new_lst (c := c) (F := F) ((e1.trans e2).trans e3) r2 Cl.nil hl fun u H' fp e r k => q u H' fp (((e1.trans e2).trans e3).trans e) r k
theorem cutV_whole {xs : List V} {lo hi : Option Int} (h : HT.sIx xs.length 0 lo = 0 ∧ HT.sIx xs.length xs.length hi = xs.length) : cutV xs lo hi = xs := by
  unfold cutV; rw [h.1, h.2]; simp
theorem dp_slU {a : Expr} {l h : Option Expr} {f : PF} {lo hi : SF} {p2} (ha : DP X c a f) (hl : PO X l (tO lo)) (hh : PO X h (tO hi)) : DP X c (.Subscript a (.Slice l h none p2) pos) (pSlU f lo hi) := by
  refine pe_imp (pe_slice sl_tupA ha hl hh) fun σ H Q h => ?_
  obtain ⟨δ, N, F, hs, hn, ⟨o1, o2, o3, o4⟩, q⟩ := h
  refine ⟨δ, N, F, hs, hn, o1, fun v H1 fa e1 r1 k1 => ⟨δ, N, F, hs.ex e1, hn.ex e1, o2, fun H2 e2 => ⟨δ, N, F, (hs.ex e1).ex e2, (hn.ex e1).ex e2, o3, fun H3 e3 => ?_⟩⟩⟩
  obtain ⟨p, vs, rfl, hp, rl⟩ := ((r1.ex e2).ex e3).tup_ o4
  obtain ⟨f2, r2, b2, n2⟩ := rl.cut (lo δ N).2 (hi δ N).2
  have k2 := Cl.sub k1 b2 n2
  refine ⟨p, vs, rfl, SqT.of hp, fun hw => ?_, fun _ l hl => ?_⟩
  · rw [cutV_whole hw] at r2
    exact q _ H3 f2 ((e1.trans e2).trans e3) ⟨p, vs, rfl, hp, r2⟩ k2
  · exact q _ _ f2 (((e1.trans e2).trans e3).trans (Ex.new hl)) ⟨l, _, rfl, upd_same, r2.ex (Ex.new hl)⟩ k2
theorem RpL.rev {H : Hp} : ∀ {ds : List D} {vs : List V} {fp : List Addr}, RpL H ds vs fp → ∃ f, RpL H ds.reverse vs.reverse f ∧ (∀ p ∈ f, p ∈ fp) ∧ (fp.Nodup → f.Nodup)
  | [], _, _, h => by obtain ⟨rfl, rfl⟩ := h; exact ⟨[], RpL.nil, fun _ q => q, id⟩
  | d :: ds, vs, fp, h => by
    obtain ⟨v, vr, f, g, rfl, h1, h2, rfl⟩ := h
    obtain ⟨f', a, b, c⟩ := RpL.rev h2
    refine ⟨f' ++ f, by rw [List.reverse_cons, List.reverse_cons]; exact RpL.append a (RpL.one h1), fun p hp => ?_, fun k => ?_⟩
    · rcases List.mem_append.mp hp with q | q
      · simp [b p q]
      · simp [q]
    · obtain ⟨k1, k2, k3⟩ := List.nodup_append.mp k
      exact List.nodup_append.mpr ⟨c k2, k1, fun x hx y hy z => k3 y hy x (b x hx) z.symm⟩
def pRev (f : PF) : PF := fun δ N => ⟨(f δ N).ok ∧ IsL (f δ N).val, .lst (toL (f δ N).val).reverse⟩
theorem dp_rev {a : Expr} {f : PF} {k p1 p2 p3} (ha : DP X c a f) : DP X c (.Subscript a (.Slice none none (some (.UnaryOp .USub (.Constant (.int 1) k p1) p2)) p3) pos) (pRev f) := by
  refine pe_imp (pe_revL ha) fun σ H Q h => ?_
  obtain ⟨δ, N, F, hs, hn, ok, q⟩ := h
  refine ⟨δ, N, F, hs, hn, ok.1, fun v H1 fa e1 r1 k1 => ?_⟩
  obtain ⟨p, vs, f', rfl, hp, rl, rfl⟩ := r1.lst_ ok.2
  obtain ⟨f2, r2, b2, n2⟩ := rl.rev
  exact ⟨p, vs, rfl, SqL.of hp, fun l hl => new_lst e1 r2 (Cl.sub k1 (fun z hz => by simp [b2 z hz]) fun n => n2 (List.nodup_cons.mp n).2) hl fun u H' fp e r k => q u H' fp (e1.trans e) r k⟩

def aNil : AF := fun _ _ => ⟨True, []⟩
def aCons (f : PF) (g : AF) : AF := fun δ N => ⟨(f δ N).ok ∧ (g δ N).ok, (f δ N).val :: (g δ N).vals⟩
theorem da_nil : DA X c [] aNil := by
  refine pa_imp pa_nil fun σ H Q h => ?_
  obtain ⟨δ, N, F, hs, hn, ok, q⟩ := h
  exact q [] H [] (Ex.refl H) RpL.nil Cl.nil
theorem da_cons {e : Expr} {es : List Expr} {f : PF} {g : AF} (h : DP X c e f) (k : DA X c es g) (hs : starEach (e :: es) X.env = (false, eval e X.env) :: starEach es X.env := by rfl) : DA X c (e :: es) (aCons f g) := by
  refine pa_imp (pa_cons h k hs) fun σ H Q h => ?_
  obtain ⟨δ, N, F, hS, hn, ok, q⟩ := h
  refine ⟨δ, N, F, hS, hn, ok.1, fun v H1 fa e1 r1 k1 => ⟨δ, N, F, hS.ex e1, hn.ex e1, ok.2, fun vs H2 fb e2 r2 k2 => ?_⟩⟩
  exact q _ H2 (fa ++ fb) (e1.trans e2) (RpL.cons (r1.ex e2) r2) (Cl.app e1 k1 (fun p hp => let ⟨o, ho, _⟩ := Rp.there _ _ _ r1 p hp; ⟨o, ho⟩) k2)
def pLst (g : AF) : PF := fun δ N => ⟨(g δ N).ok ∧ (g δ N).vals.length ≤ SZ, .lst (g δ N).vals⟩
def pTup (g : AF) : PF := fun δ N => ⟨(g δ N).ok ∧ (g δ N).vals.length ≤ SZ, .tup (g δ N).vals⟩
theorem dp_lst {es : List Expr} {g : AF} (h : DA X c es g) : DP X c (.List es pos) (pLst g) := by
  refine pe_imp (pe_lst h) fun σ H Q h => ?_
  obtain ⟨δ, N, F, hS, hn, ok, q⟩ := h
  refine ⟨δ, N, F, hS, hn, ok.1, fun vs H1 fa e1 r1 k1 => ⟨sz (by rw [← r1.length]; exact ok.2), fun p hp => ?_⟩⟩
  exact new_lst e1 r1 k1 hp fun u H' fp e r k => q u H' fp (e1.trans e) r k
theorem dp_tup {es : List Expr} {g : AF} {x1} (h : DA X c es g) : DP X c (.Tuple es x1 pos) (pTup g) := by
  refine pe_imp (pe_tup h) fun σ H Q h => ?_
  obtain ⟨δ, N, F, hS, hn, ok, q⟩ := h
  refine ⟨δ, N, F, hS, hn, ok.1, fun vs H1 fa e1 r1 k1 => ⟨sz (by rw [← r1.length]; exact ok.2), fun p hp => ?_⟩⟩
  exact q _ _ fa (e1.trans (Ex.new hp)) ⟨p, vs, rfl, upd_same, r1.ex (Ex.new hp)⟩ k1
end
end DL
set_option maxHeartbeats 4000000
namespace DL
open PySem L2

theorem RpL.ints_ {H : Hp} : ∀ {ds : List D} {vs : List V} {fp : List Addr}, RpL H ds vs fp → (∀ d ∈ ds, IsI d) → vs = (ds.map toI).map V.int ∧ fp = []
  | [], _, _, h, _ => h
  | d :: ds, vs, fp, h, k => by
    obtain ⟨v, vr, f, g, rfl, h1, h2, rfl⟩ := h
    have hd := k d (by simp)
    have e1 := h1.int_ hd
    rw [hd.eq] at h1
    obtain ⟨e3, e4⟩ := RpL.ints_ h2 fun e he => k e (by simp [he])
    subst e1 e3
    exact ⟨rfl, by rw [h1.2, e4]; rfl⟩
theorem RpL.of_ints {H : Hp} : ∀ (ns : List Int), RpL H (ns.map D.int) (ns.map V.int) []
  | [] => RpL.nil
  | n :: ns => ⟨_, _, [], [], rfl, ⟨rfl, rfl⟩, RpL.of_ints ns, rfl⟩
def insI (x : Int) : List Int → List Int
  | [] => [x]
  | y :: ys => if x ≤ y then x :: y :: ys else y :: insI x ys
def sortI : List Int → List Int
  | [] => []
  | x :: xs => insI x (sortI xs)
theorem insI_perm (x : Int) : ∀ ys, (insI x ys).Perm (x :: ys)
  | [] => List.Perm.refl _
  | y :: ys => by
    unfold insI
    split
    · exact List.Perm.refl _
    · exact ((insI_perm x ys).cons y).trans (List.Perm.swap x y ys)
theorem sortI_perm : ∀ xs, (sortI xs).Perm xs
  | [] => List.Perm.refl _
  | x :: xs => (insI_perm x _).trans ((sortI_perm xs).cons x)
theorem insI_mem {x z : Int} {ys : List Int} : z ∈ insI x ys ↔ z = x ∨ z ∈ ys := by
  rw [(insI_perm x ys).mem_iff]; simp
theorem insI_sorted (x : Int) : ∀ ys, ys.Pairwise (· ≤ ·) → (insI x ys).Pairwise (· ≤ ·)
  | [], _ => by simp [insI]
  | y :: ys, h => by
    obtain ⟨h1, h2⟩ := List.pairwise_cons.mp h
    unfold insI
    split
    · rename_i hx
      refine List.pairwise_cons.mpr ⟨fun z hz => ?_, h⟩
      rcases List.mem_cons.mp hz with rfl | hz
      · exact hx
      · exact Int.le_trans hx (h1 z hz)
    · rename_i hx
      refine List.pairwise_cons.mpr ⟨fun z hz => ?_, insI_sorted x ys h2⟩
      rcases insI_mem.mp hz with rfl | hz
      · omega
      · exact h1 z hz
theorem sortI_sorted : ∀ xs, (sortI xs).Pairwise (· ≤ ·)
  | [] => List.Pairwise.nil
  | x :: xs => insI_sorted x _ (sortI_sorted xs)
theorem sorted_uniq : ∀ {xs ys : List Int}, xs.Perm ys → xs.Pairwise (· ≤ ·) → ys.Pairwise (· ≤ ·) → xs = ys
  | [], ys, p, _, _ => by rw [List.nil_perm] at p; exact p.symm
  | x :: xs, [], p, _, _ => by have := p.length_eq; simp at this
  | x :: xs, y :: ys, p, h, k => by
    obtain ⟨h1, h2⟩ := List.pairwise_cons.mp h
    obtain ⟨k1, k2⟩ := List.pairwise_cons.mp k
    have e : x = y := by
      have a : x ∈ y :: ys := p.mem_iff.mp (by simp)
      have b : y ∈ x :: xs := p.mem_iff.mpr (by simp)
      rcases List.mem_cons.mp a with e | a
      · exact e
      · rcases List.mem_cons.mp b with e | b
        · exact e.symm
        · have := k1 x a; have := h1 y b; omega
    subst e
    rw [sorted_uniq (List.Perm.cons_inv p) h2 k2]
theorem sortI_of {xs ys : List Int} (p : ys.Perm xs) (h : ys.Pairwise (· ≤ ·)) : ys = sortI xs := sorted_uniq (p.trans (sortI_perm xs).symm) h (sortI_sorted xs)
theorem sortI_id {xs : List Int} (h : xs.Pairwise (· ≤ ·)) : sortI xs = xs := (sortI_of (List.Perm.refl xs) h).symm
def minI : List Int → Int
  | [] => 0
  | [x] => x
  | x :: xs => min x (minI xs)
def maxI : List Int → Int
  | [] => 0
  | [x] => x
  | x :: xs => max x (maxI xs)
theorem minI_spec : ∀ {xs : List Int}, xs ≠ [] → minI xs ∈ xs ∧ ∀ y ∈ xs, minI xs ≤ y
  | [x], _ => by simp [minI]
  | x :: z :: xs, _ => by
    obtain ⟨a, b⟩ := minI_spec (xs := z :: xs) (by simp)
    have e : minI (x :: z :: xs) = min x (minI (z :: xs)) := rfl
    rw [e]
    refine ⟨?_, fun y hy => ?_⟩
    · by_cases q : x ≤ minI (z :: xs)
      · rw [Int.min_eq_left q]; simp
      · rw [Int.min_eq_right (by omega)]; exact List.mem_cons_of_mem _ a
    · rcases List.mem_cons.mp hy with rfl | hy
      · omega
      · have := b y hy; omega
theorem maxI_spec : ∀ {xs : List Int}, xs ≠ [] → maxI xs ∈ xs ∧ ∀ y ∈ xs, y ≤ maxI xs
  | [x], _ => by simp [maxI]
  | x :: z :: xs, _ => by
    obtain ⟨a, b⟩ := maxI_spec (xs := z :: xs) (by simp)
    have e : maxI (x :: z :: xs) = max x (maxI (z :: xs)) := rfl
    rw [e]
    refine ⟨?_, fun y hy => ?_⟩
    · by_cases q : maxI (z :: xs) ≤ x
      · rw [Int.max_eq_left q]; simp
      · rw [Int.max_eq_right (by omega)]; exact List.mem_cons_of_mem _ a
    · rcases List.mem_cons.mp hy with rfl | hy
      · omega
      · have := b y hy; omega
theorem minI_of {xs : List Int} {m : Int} (h : m ∈ xs) (k : ∀ y ∈ xs, m ≤ y) : m = minI xs := by
  have ne : xs ≠ [] := fun e => by rw [e] at h; cases h
  obtain ⟨a, b⟩ := minI_spec ne
  have := b m h; have := k _ a; omega
theorem maxI_of {xs : List Int} {m : Int} (h : m ∈ xs) (k : ∀ y ∈ xs, y ≤ m) : m = maxI xs := by
  have ne : xs ≠ [] := fun e => by rw [e] at h; cases h
  obtain ⟨a, b⟩ := maxI_spec ne
  have := b m h; have := k _ a; omega

section
variable {X : Cx} {c c1 c2 c3 : Cl} {pos p : Pos} {x : Str}
def p1 (h : D → PV) (f : PF) : PF := fun δ N => ⟨(f δ N).ok ∧ (h (f δ N).val).ok, (h (f δ N).val).val⟩
theorem cb1 {a : Expr} {f : PF} {hf : D → PV} {r : List V → Hp → VK → Prop} {e : Expr} (k : ∀ {t : TA}, PA X [a] t → PE X e (tCB r t)) (ha : DP X c1 a f)
    (hr : ∀ (F : Addr → Prop) (H H1 : Hp) (d : D) (v : V) (fp : List Addr) (Q : VK), Ex H H1 → Rp H1 d v fp → c1.ok F H fp → (hf d).ok → (∀ u H' fp, Ex H1 H' → Rp H' (hf d).val u fp → c.ok F H fp → Q u H') → r [v] H1 Q)
    (hs : starEach [a] X.env = (false, eval a X.env) :: starEach [] X.env := by rfl) : DP X c e (p1 hf f) := by
  refine pe_imp (k (pa_cons ha pa_nil hs)) fun σ H Q h => ?_
  obtain ⟨δ, N, F, hS, hn, ok, q⟩ := h
  exact ⟨δ, N, F, hS, hn, ok.1, fun v H1 fp e1 r1 k1 => hr F H H1 _ v fp Q e1 r1 k1 ok.2 fun u H' fp' e r k => q u H' fp' (e1.trans e) r k⟩
def lenD (d : D) : PV := match d with
  | .lst xs => ⟨True, .int xs.length⟩
  | .tup xs => ⟨True, .int xs.length⟩
  | .str s => ⟨s.length ≤ SZ, .int s.length⟩
  | _ => ⟨False, .non⟩
theorem dp_len {a : Expr} {f : PF} (hg : Gl X "len") (hm : X.mg "len" = none) (ha : DP X c1 a f) (hs : starEach [a] X.env = (false, eval a X.env) :: starEach [] X.env := by rfl) : DP X c (.Call (.Name "len" p) [a] [] pos) (p1 lenD f) :=
  cb1 (hf := lenD) (fun h => pe_callB call_len hg hm boot_len h (he := hs) (hpl := by rfl)) ha (fun F H H1 d v fp Q e1 r k ok q => by
    cases d <;> first | (exact ok.elim) | skip
    · rename_i s
      obtain ⟨rfl, rfl⟩ := r
      exact ⟨_, s.length, rfl, ⟨sz ok, rfl⟩, q _ H1 [] (Ex.refl _) ⟨rfl, rfl⟩ Cl.nil⟩
    · obtain ⟨p, vs, rfl, hp, rl⟩ := r
      refine ⟨_, vs.length, rfl, .inr ⟨vs, SqT.of hp, rfl⟩, ?_⟩
      rw [← rl.length]
      exact q _ H1 [] (Ex.refl _) ⟨rfl, rfl⟩ Cl.nil
    · obtain ⟨p, vs, f, rfl, hp, rl, rfl⟩ := r
      refine ⟨_, vs.length, rfl, .inl ⟨vs, SqL.of hp, rfl⟩, ?_⟩
      rw [← rl.length]
      exact q _ H1 [] (Ex.refl _) ⟨rfl, rfl⟩ Cl.nil) hs
def Ints (d : D) : Prop := IsL d ∧ ∀ x ∈ toL d, IsI x
def toIs (d : D) : List Int := (toL d).map toI
theorem Rp.ints {H : Hp} {d : D} {v : V} {fp : List Addr} (h : Rp H d v fp) (k : Ints d) : ∃ p, v = .ref p ∧ H p = some (.lst ((toIs d).map V.int)) := by
  obtain ⟨p, vs, f, rfl, hp, rl, rfl⟩ := h.lst_ k.1
  obtain ⟨rfl, _⟩ := rl.ints_ k.2
  exact ⟨p, rfl, hp⟩
def sumD (d : D) : PV := ⟨Ints d, .int (toIs d).sum⟩
theorem dp_sum {a : Expr} {f : PF} (hc : X.calm = true) (hg : Gl X "sum") (hm : X.mg "sum" = none) (ha : DP X c1 a f) (hs : starEach [a] X.env = (false, eval a X.env) :: starEach [] X.env := by rfl) : DP X c (.Call (.Name "sum" p) [a] [] pos) (p1 sumD f) :=
  cb1 (hf := sumD) (fun h => pe_callB (cr_sum hc) hg hm (by decide +kernel) h (he := hs) (hpl := by rfl)) ha (fun F H H1 d v fp Q e1 r k ok q => by
    obtain ⟨p, rfl, hp⟩ := r.ints ok
    exact ⟨p, _, rfl, SqL.of hp, q _ H1 [] (Ex.refl _) ⟨rfl, rfl⟩ Cl.nil⟩) hs
def minD (d : D) : PV := ⟨Ints d ∧ toIs d ≠ [], .int (minI (toIs d))⟩
def maxD (d : D) : PV := ⟨Ints d ∧ toIs d ≠ [], .int (maxI (toIs d))⟩
theorem dp_min {a : Expr} {f : PF} (hc : X.calm = true) (hg : Gl X "min") (hm : X.mg "min" = none) (ha : DP X c1 a f) (hs : starEach [a] X.env = (false, eval a X.env) :: starEach [] X.env := by rfl) : DP X c (.Call (.Name "min" p) [a] [] pos) (p1 minD f) :=
  cb1 (hf := minD) (fun h => pe_callB (cr_min hc) hg hm (by decide +kernel) h (he := hs) (hpl := by rfl)) ha (fun F H H1 d v fp Q e1 r k ok q => by
    obtain ⟨p, rfl, hp⟩ := r.ints ok.1
    exact ⟨p, _, rfl, SqL.of hp, List.length_pos_iff.mpr ok.2, fun m h1 h2 => by rw [minI_of h1 h2]; exact q _ H1 [] (Ex.refl _) ⟨rfl, rfl⟩ Cl.nil⟩) hs
theorem dp_max {a : Expr} {f : PF} (hc : X.calm = true) (hg : Gl X "max") (hm : X.mg "max" = none) (ha : DP X c1 a f) (hs : starEach [a] X.env = (false, eval a X.env) :: starEach [] X.env := by rfl) : DP X c (.Call (.Name "max" p) [a] [] pos) (p1 maxD f) :=
  cb1 (hf := maxD) (fun h => pe_callB (cr_max hc) hg hm (by decide +kernel) h (he := hs) (hpl := by rfl)) ha (fun F H H1 d v fp Q e1 r k ok q => by
    obtain ⟨p, rfl, hp⟩ := r.ints ok.1
    exact ⟨p, _, rfl, SqL.of hp, List.length_pos_iff.mpr ok.2, fun m h1 h2 => by rw [maxI_of h1 h2]; exact q _ H1 [] (Ex.refl _) ⟨rfl, rfl⟩ Cl.nil⟩) hs
def sortD (d : D) : PV := ⟨Ints d, .lst ((sortI (toIs d)).map D.int)⟩
theorem dp_sorted {a : Expr} {f : PF} (hg : Gl X "sorted") (hm : X.mg "sorted" = none) (ha : DP X c1 a f) (hs : starEach [a] X.env = (false, eval a X.env) :: starEach [] X.env := by rfl) : DP X c (.Call (.Name "sorted" p) [a] [] pos) (p1 sortD f) :=
  cb1 (hf := sortD) (fun h => pe_callB cr_sortedI hg hm (by decide +kernel) h (he := hs) (hpl := by rfl)) ha (fun F H H1 d v fp Q e1 r k ok q => by
    obtain ⟨p, rfl, hp⟩ := r.ints ok
    exact ⟨p, _, rfl, SqL.of hp, fun ns' l h1 h2 hl => by
      rw [sortI_of h1 h2]
      exact new_lst (c := c) (F := F) e1 (RpL.of_ints _) Cl.nil hl q⟩) hs
def sortRD (d : D) : PV := ⟨Ints d, .lst ((sortI (toIs d)).reverse.map D.int)⟩
theorem dp_sortedR {a : Expr} {f : PF} {j p3 kp} (hg : Gl X "sorted") (hm : X.mg "sorted" = none) (ha : DP X c1 a f) (hs : starEach [a] X.env = (false, eval a X.env) :: starEach [] X.env := by rfl)
    (hb : backTo pos (starEach [a] X.env) = (false, eval a X.env) :: backTo pos (starEach [] X.env) := by rfl) (hpl : (backTo pos (starEach [a] X.env)).any (·.1) = false := by rfl) : DP X c (.Call (.Name "sorted" p) [a] [⟨some "reverse", .Constant (.bool true) j p3, kp⟩] pos) (p1 sortRD f) := by
  refine pe_imp (pe_callBK (ks := [Str.ofString "reverse"]) (cr_sortedRev (b := true)) hg hm (by decide +kernel) (pa_cons ha pa_nil hs) (pk_cons pe_bl pk_nil) (he := hb) (hpl := hpl)) fun σ H Q h => ?_
  obtain ⟨δ, N, F, hS, hn, ok, q⟩ := h
  refine ⟨δ, N, F, hS, hn, ok.1, fun v H1 fp e1 r1 k1 => ?_⟩
  obtain ⟨p, rfl, hp⟩ := r1.ints ok.2
  refine ⟨p, _, rfl, rfl, SqL.of hp, fun ns' l h1 h2 hl => ?_⟩
  have e : ns' = (sortI (toIs (f δ N).val)).reverse := by
    have h3 : ns'.Pairwise (· ≥ ·) := h2
    have := sortI_of (xs := toIs (f δ N).val) (ys := ns'.reverse) ((List.reverse_perm ns').trans h1) (List.pairwise_reverse.mpr h3)
    rw [← this, List.reverse_reverse]
  subst e
  exact new_lst (c := c) (F := F) e1 (RpL.of_ints _) Cl.nil hl fun u H' fp e r k => q u H' fp (e1.trans e) r k
def lstD (d : D) : PV := ⟨IsQ d ∧ (toL d).length ≤ SZ, .lst (toL d)⟩
def lstDF (d : D) : PV := ⟨IsQ d ∧ (toL d).length ≤ SZ ∧ lfs (toL d), .lst (toL d)⟩
theorem dp_list {a : Expr} {f : PF} (hg : Gl X "list") (hm : X.mg "list" = none) (ha : DP X c a f) (hs : starEach [a] X.env = (false, eval a X.env) :: starEach [] X.env := by rfl) : DP X c (.Call (.Name "list" p) [a] [] pos) (p1 lstD f) :=
  cb1 (hf := lstD) (fun h => pe_callTy call_list_of hg hm (by decide +kernel) h (he := hs) (hpl := by rfl)) ha (fun F H H1 d v fp Q e1 r k ok q => by
    obtain ⟨p, vs, f, rfl, hp, rl, hs, hn⟩ := r.seq_ X.K ok.1
    exact ⟨p, vs, rfl, hp, fun l hl => new_lst e1 rl (Cl.sub k hs hn) hl q⟩) hs
theorem dp_listF {a : Expr} {f : PF} (hg : Gl X "list") (hm : X.mg "list" = none) (ha : DP X c1 a f) (hs : starEach [a] X.env = (false, eval a X.env) :: starEach [] X.env := by rfl) : DP X c (.Call (.Name "list" p) [a] [] pos) (p1 lstDF f) :=
  cb1 (hf := lstDF) (fun h => pe_callTy call_list_of hg hm (by decide +kernel) h (he := hs) (hpl := by rfl)) ha (fun F H H1 d v fp Q e1 r k ok q => by
    obtain ⟨p, vs, f, rfl, hp, rl, hs, hn⟩ := r.seq_ X.K ok.1
    have z := RpL.lf _ _ _ rl ok.2.2
    subst z
    exact ⟨p, vs, rfl, hp, fun l hl => new_lst (c := c) (F := F) e1 rl Cl.nil hl q⟩) hs
def tupD (d : D) : PV := ⟨IsL d, .tup (toL d)⟩
theorem dp_tuple {a : Expr} {f : PF} (hg : Gl X "tuple") (hm : X.mg "tuple" = none) (ha : DP X c a f) (hs : starEach [a] X.env = (false, eval a X.env) :: starEach [] X.env := by rfl) : DP X c (.Call (.Name "tuple" p) [a] [] pos) (p1 tupD f) :=
  cb1 (hf := tupD) (fun h => pe_callTy call_tuple_of hg hm (by decide +kernel) h (he := hs) (hpl := by rfl)) ha (fun F H H1 d v fp Q e1 r k ok q => by
    obtain ⟨p, vs, f, rfl, hp, rl, rfl⟩ := r.lst_ ok
    exact ⟨p, vs, rfl, .inl ⟨SqL.of hp, fun l hl => q _ _ f (Ex.new hl) ⟨l, vs, rfl, upd_same, rl.ex (Ex.new hl)⟩ (Cl.sub k (fun z hz => by simp [hz]) fun n => (List.nodup_cons.mp n).2)⟩⟩) hs
def intD (d : D) : PV := match d with
  | .int i => ⟨True, .int i⟩
  | .bl b => ⟨True, .int (if b then 1 else 0)⟩
  | _ => ⟨False, .non⟩
theorem dp_int1 {a : Expr} {f : PF} (hg : Gl X "int") (hm : X.mg "int" = none) (ha : DP X c1 a f) (hs : starEach [a] X.env = (false, eval a X.env) :: starEach [] X.env := by rfl) : DP X c (.Call (.Name "int" p) [a] [] pos) (p1 intD f) :=
  cb1 (hf := intD) (fun h => pe_callTy call_int1 hg hm (by decide +kernel) h (he := hs) (hpl := by rfl)) ha (fun F H H1 d v fp Q e1 r k ok q => by
    cases d <;> first | (exact ok.elim) | skip
    · obtain ⟨rfl, rfl⟩ := r
      exact .inr ⟨_, rfl, q _ H1 [] (Ex.refl _) ⟨rfl, rfl⟩ Cl.nil⟩
    · obtain ⟨rfl, rfl⟩ := r
      exact .inl ⟨_, rfl, q _ H1 [] (Ex.refl _) ⟨rfl, rfl⟩ Cl.nil⟩) hs
theorem dp_max2 {a b : Expr} {f g : PF} (hc : X.calm = true) (hg : Gl X "max") (hm : X.mg "max" = none) (ha : DP X c1 a f) (hb : DP X c2 b g) (hs : starEach [a, b] X.env = (false, eval a X.env) :: starEach [b] X.env := by rfl) (hs2 : starEach [b] X.env = (false, eval b X.env) :: starEach [] X.env := by rfl)
    (hpl : (backTo pos (starEach [b] X.env)).any (·.1) = false := by rfl) :
    DP X c (.Call (.Name "max" p) [a, b] [] pos) (p2 (bI (fun _ _ => True) fun i j => .int (max i j)) f g) := by
  refine pe_imp (pe_callB (call_max2 hc) hg hm (by decide +kernel) (pa_cons ha (pa_cons hb pa_nil hs2) hs) (he := hs) (hpl := hpl)) fun σ H Q h => ?_
  obtain ⟨δ, N, F, hS, hn, ⟨o1, o2, o3, o4, _⟩, q⟩ := h
  refine ⟨δ, N, F, hS, hn, o1, fun v H1 fa e1 r1 k1 => ⟨δ, N, F, hS.ex e1, hn.ex e1, o2, fun w H2 fb e2 r2 k2 => ?_⟩⟩
  have e := r1.int_ o3; have e' := r2.int_ o4
  subst e e'
  refine ⟨_, _, rfl, ?_⟩
  have z : (if toI (g δ N).val > toI (f δ N).val then toI (g δ N).val else toI (f δ N).val) = max (toI (f δ N).val) (toI (g δ N).val) := by split <;> omega
  rw [z]
  exact q _ H2 [] (e1.trans e2) ⟨rfl, rfl⟩ Cl.nil
theorem dp_min2 {a b : Expr} {f g : PF} (hc : X.calm = true) (hg : Gl X "min") (hm : X.mg "min" = none) (ha : DP X c1 a f) (hb : DP X c2 b g) (hs : starEach [a, b] X.env = (false, eval a X.env) :: starEach [b] X.env := by rfl) (hs2 : starEach [b] X.env = (false, eval b X.env) :: starEach [] X.env := by rfl)
    (hpl : (backTo pos (starEach [b] X.env)).any (·.1) = false := by rfl) :
    DP X c (.Call (.Name "min" p) [a, b] [] pos) (p2 (bI (fun _ _ => True) fun i j => .int (min i j)) f g) := by
  refine pe_imp (pe_callB (call_min2 hc) hg hm (by decide +kernel) (pa_cons ha (pa_cons hb pa_nil hs2) hs) (he := hs) (hpl := hpl)) fun σ H Q h => ?_
  obtain ⟨δ, N, F, hS, hn, ⟨o1, o2, o3, o4, _⟩, q⟩ := h
  refine ⟨δ, N, F, hS, hn, o1, fun v H1 fa e1 r1 k1 => ⟨δ, N, F, hS.ex e1, hn.ex e1, o2, fun w H2 fb e2 r2 k2 => ?_⟩⟩
  have e := r1.int_ o3; have e' := r2.int_ o4
  subst e e'
  refine ⟨_, _, rfl, ?_⟩
  have z : (if toI (g δ N).val < toI (f δ N).val then toI (g δ N).val else toI (f δ N).val) = min (toI (f δ N).val) (toI (g δ N).val) := by split <;> omega
  rw [z]
  exact q _ H2 [] (e1.trans e2) ⟨rfl, rfl⟩ Cl.nil

def tyN : D → String
  | .non => "NoneType" | .bl _ => "bool" | .int _ => "int" | .str _ => "str" | .tup _ => "tuple" | .lst _ => "list" | .dic _ _ => "dict" | _ => ""
def isiB (T : String) (d : D) : Bool := tyN d == T || (T == "int" && tyN d == "bool")
def Ty (d : D) : Prop := match d with | .obj _ _ _ _ => False | .ref _ => False | .tab _ => False | .fdic _ _ => False | .xdc _ _ => False | _ => True
theorem Rp.ty {H : Hp} {d : D} {v : V} {fp : List Addr} {K : PySem.W.Frag} (h : Rp H d v fp) (k : Ty d) : TyX K H v (.type (tyN d)) := by
  cases d <;> first
    | (exact k.elim)
    | skip
  · rw [h.1]; exact .base .non
  · rw [h.1]; exact .base (.bl _)
  · rw [h.1]; exact .base (.int _)
  · rw [h.1]; exact .base (.str _)
  · obtain ⟨p, vs, rfl, hp, _⟩ := h; exact .base (.tup hp)
  · obtain ⟨p, vs, f, rfl, hp, _⟩ := h; exact .base (.lst hp)
  · obtain ⟨p, vs, f, rfl, hp, _⟩ := h; exact .base (.dK hp)
def KitOk (T : String) : Prop := ∀ t, t = "NoneType" ∨ t = "bool" ∨ t = "int" ∨ t = "str" ∨ t = "tuple" ∨ t = "list" ∨ t = "dict" → kitB t T = some (t == T || (T == "int" && t == "bool"))
theorem kit_int : KitOk "int" := by intro t h; rcases h with rfl | rfl | rfl | rfl | rfl | rfl | rfl <;> decide +kernel
theorem kit_bool : KitOk "bool" := by intro t h; rcases h with rfl | rfl | rfl | rfl | rfl | rfl | rfl <;> decide +kernel
theorem kit_str : KitOk "str" := by intro t h; rcases h with rfl | rfl | rfl | rfl | rfl | rfl | rfl <;> decide +kernel
theorem kit_tuple : KitOk "tuple" := by intro t h; rcases h with rfl | rfl | rfl | rfl | rfl | rfl | rfl <;> decide +kernel
theorem kit_list : KitOk "list" := by intro t h; rcases h with rfl | rfl | rfl | rfl | rfl | rfl | rfl <;> decide +kernel
theorem Ty.kit {d : D} {T : String} (h : Ty d) (k : KitOk T) : kitB (tyN d) T = some (isiB T d) := by
  refine k (tyN d) ?_
  cases d <;> first | exact h.elim | simp [tyN]
def pIsi (T : String) (f : PF) : PF := fun δ N => ⟨(f δ N).ok ∧ Ty (f δ N).val, .bl (isiB T (f δ N).val)⟩
theorem dp_isi {a : Expr} {f : PF} {T : String} {xT : Str} {pT} (kt : KitOk T) (hg : Gl X "isinstance") (hm : X.mg "isinstance" = none) (hgT : Gl X xT) (hmT : X.mg xT = none) (hbT : bootBuiltins xT = some (.type T)) (ha : DP X c1 a f)
    (hs : starEach [a, .Name xT pT] X.env = (false, eval a X.env) :: starEach [.Name xT pT] X.env := by rfl) (hs2 : starEach [.Name xT pT] X.env = (false, eval (.Name xT pT) X.env) :: starEach [] X.env := by rfl)
    (hpl : (backTo pos (starEach [.Name xT pT] X.env)).any (·.1) = false := by rfl) (hn : xT ≠ "__name__" := by decide) (hd : (xT == ("__debug__" : Str)) = false := by decide) :
    DP X c (.Call (.Name "isinstance" p) [a, .Name xT pT] [] pos) (pIsi T f) := by
  refine pe_imp (pe_callB call_isi hg hm (by decide +kernel) (pa_cons ha (pa_cons (pe_bltn (v := .ty T) hgT hmT hbT rfl hn hd) pa_nil hs2) hs) (he := hs) (hpl := hpl)) fun σ H Q h => ?_
  obtain ⟨δ, N, F, hS, hn, ok, q⟩ := h
  refine ⟨δ, N, F, hS, hn, ok.1, fun v H1 fa e1 r1 k1 => ?_⟩
  exact ⟨v, .ty T, .type (tyN (f δ N).val), .type T, _, rfl, .ty T, r1.ty ok.2, kit_ty (ok.2.kit kt), q _ H1 [] e1 ⟨rfl, rfl⟩ Cl.nil⟩
end
end DL
set_option maxHeartbeats 4000000
namespace DL
open PySem L2

def Walk (J : It) (S : Hp → Prop) (items : List D) (fp : List Addr) : Prop := ∀ (i : Nat) (H : Hp), S H →
  (∀ d, items[i]? = some d → J.go i H ∧ ∀ x H', J.yld i H x H' → Ex H H' ∧ ∃ f, Rp H' d x f ∧ ∀ p ∈ f, p ∈ fp) ∧ (items.length ≤ i → J.stop i H)
def tI (c : Cl) (f : AF) : TI := fun σ H R => ∃ δ N F, SRep F H σ δ ∧ NRep N H ∧ (f δ N).ok ∧ ∀ J H' fp, Ex H H' → (∀ p ∈ fp, ∃ o, H' p = some o ∧ ∀ xs, o ≠ .tup xs) → c.ok F H fp → Walk J (fun H2 => Kp H' H2 fp) (f δ N).vals fp → R J H'
abbrev DI (X : Cx) (c : Cl) (tg iter : Expr) (f : AF) : Prop := PI X tg iter (tI c f)
theorem pi_imp {X : Cx} {tg e : Expr} {t t' : TI} (h : PI X tg e t) (k : ∀ σ H Q, t' σ H Q → t σ H Q) : PI X tg e t' := ⟨fun pins s σ H Q I q => h.run pins s σ H Q I (k σ H Q q)⟩
theorem Kp.ex {H H' : Hp} {fp : List Addr} (e : Ex H H') (h : ∀ p ∈ fp, ∃ o, H p = some o) : Kp H H' fp := ⟨fun p vs q => e p _ q, fun p hp => by
  obtain ⟨o, ho⟩ := h p hp
  rw [ho, e p o ho]⟩
theorem Rp.kp {H H' : Hp} {d : D} {v : V} {fp fq : List Addr} (h : Rp H d v fp) (k : Kp H H' fq) (hs : ∀ p ∈ fp, p ∈ fq) : Rp H' d v fp := Rp.keep k.tup d v fp h fun p hp => k.cell p (hs p hp)
theorem RpL.kp {H H' : Hp} {d : List D} {v : List V} {fp fq : List Addr} (h : RpL H d v fp) (k : Kp H H' fq) (hs : ∀ p ∈ fp, p ∈ fq) : RpL H' d v fp := RpL.keep k.tup d v fp h fun p hp => k.cell p (hs p hp)
section
variable {X : Cx} {c c1 c2 c3 : Cl} {pos p : Pos} {tg : Expr}
def iL (f : PF) : AF := fun δ N => ⟨(f δ N).ok ∧ IsL (f δ N).val, toL (f δ N).val⟩
def iU (f : PF) : AF := fun δ N => ⟨(f δ N).ok ∧ IsU (f δ N).val, toL (f δ N).val⟩
theorem get_none {ds : List D} {vs : List V} {H : Hp} {fp : List Addr} (h : RpL H ds vs fp) {i : Nat} (e : ds.length ≤ i) : vs.length ≤ i := by rw [← h.length]; exact e
theorem di_list {e : Expr} {f : PF} (h : DP X c e f) : DI X c tg e (iL f) := by
  refine pi_imp (pi_list h) fun σ H R h => ?_
  obtain ⟨δ, N, F, hs, hn, ok, q⟩ := h
  refine ⟨δ, N, F, hs, hn, ok.1, fun v H1 fp e1 r1 k1 => ?_⟩
  have tr := Rp.there _ _ _ r1
  obtain ⟨p, vs, f', rfl, hp, rl, rfl⟩ := r1.lst_ ok.2
  refine ⟨p, rfl, ⟨vs, SqL.of hp⟩, q _ H1 (p :: f') e1 tr k1 fun i H2 kp => ⟨fun d hd => ?_, fun hl => ?_⟩⟩
  · have rl2 := rl.kp kp fun z hz => by simp [hz]
    have hp2 : H2 p = some (.lst vs) := by rw [kp.cell p (by simp)]; exact hp
    obtain ⟨u, fu, h1, h2, h3, h4⟩ := rl2.get hd
    refine ⟨⟨vs, u, SqL.of hp2, h1⟩, fun x H' y => ?_⟩
    obtain ⟨e', y⟩ := y
    subst e'
    have := y vs (SqL.of hp2)
    rw [h1] at this; cases this
    exact ⟨Ex.refl _, fu, h2, fun z hz => by simp [h3 z hz]⟩
  · have hp2 : H2 p = some (.lst vs) := by rw [kp.cell p (by simp)]; exact hp
    exact ⟨vs, SqL.of hp2, get_none rl hl⟩
theorem di_tup {e : Expr} {f : PF} (h : DP X c e f) : DI X c tg e (iU f) := by
  refine pi_imp (pi_tup h) fun σ H R h => ?_
  obtain ⟨δ, N, F, hs, hn, ok, q⟩ := h
  refine ⟨δ, N, F, hs, hn, ok.1, fun v H1 fp e1 r1 k1 => ?_⟩
  have tr := Rp.there _ _ _ r1
  obtain ⟨p, vs, rfl, hp, rl⟩ := r1.tup_ ok.2
  refine ⟨p, rfl, ⟨vs, SqT.of hp⟩, q _ H1 fp e1 tr k1 fun i H2 kp => ⟨fun d hd => ?_, fun hl => ?_⟩⟩
  · have rl2 := rl.kp kp fun z hz => hz
    have hp2 : H2 p = some (.tup vs) := kp.tup _ _ hp
    obtain ⟨u, fu, h1, h2, h3, h4⟩ := rl2.get hd
    refine ⟨⟨vs, u, SqT.of hp2, h1⟩, fun x H' y => ?_⟩
    obtain ⟨e', y⟩ := y
    subst e'
    have := y vs (SqT.of hp2)
    rw [h1] at this; cases this
    exact ⟨Ex.refl _, fu, h2, h3⟩
  · exact ⟨vs, SqT.of (kp.tup _ _ hp), get_none rl hl⟩
def rng (lo : Int) : Nat → List Int
  | 0 => []
  | n + 1 => lo :: rng (lo + 1) n
theorem rng_length (lo : Int) : ∀ n, (rng lo n).length = n
  | 0 => rfl
  | n + 1 => by rw [rng, List.length_cons, rng_length]
theorem rng_get : ∀ (lo : Int) (n i : Nat), i < n → (rng lo n)[i]? = some (lo + i)
  | lo, n + 1, 0, _ => by simp [rng]
  | lo, n + 1, i + 1, h => by
    rw [rng, List.getElem?_cons_succ, rng_get (lo + 1) n i (by omega)]
    congr 1; omega
theorem walk_rng {S : Hp → Prop} {lo : Int} {n : Nat} : Walk (Itr lo n) S ((rng lo n).map D.int) [] := fun i H _ => by
  refine ⟨fun d hd => ?_, fun hl => ?_⟩
  · have hi : i < n := by
      have := (List.getElem?_eq_some_iff.mp hd).1
      simpa [rng_length] using this
    rw [List.getElem?_map, rng_get lo n i hi] at hd
    cases hd
    refine ⟨hi, fun x H' y => ?_⟩
    obtain ⟨e1, e2⟩ := y
    subst e1 e2
    exact ⟨Ex.refl _, [], ⟨rfl, rfl⟩, fun z hz => hz⟩
  · have : n ≤ i := by simpa [rng_length] using hl
    exact this
def iR1 (f : PF) : AF := fun δ N => ⟨(f δ N).ok ∧ IsI (f δ N).val ∧ -(2 ^ 62) ≤ toI (f δ N).val ∧ toI (f δ N).val < 2 ^ 62, (rng 0 (toI (f δ N).val).toNat).map D.int⟩
def iR2 (f g : PF) : AF := fun δ N => ⟨(f δ N).ok ∧ (g δ N).ok ∧ IsI (f δ N).val ∧ IsI (g δ N).val ∧ (-(2 ^ 62) ≤ toI (f δ N).val ∧ toI (f δ N).val < 2 ^ 62 ∧ -(2 ^ 62) ≤ toI (g δ N).val ∧ toI (g δ N).val < 2 ^ 62), (rng (toI (f δ N).val) (toI (g δ N).val - toI (f δ N).val).toNat).map D.int⟩
theorem di_range1 {a : Expr} {f : PF} (hg : Gl X "range") (hm : X.mg "range" = none) (ha : DP X c1 a f) (hs : starEach [a] X.env = (false, eval a X.env) :: starEach [] X.env := by rfl) (hs' : starEach [a] X.env = [(false, eval a X.env)] := by rfl) : DI X c tg (.Call (.Name "range" p) [a] [] pos) (iR1 f) := by
  refine pi_imp (pi_range1 hg hm (pa_cons ha pa_nil hs) hs') fun σ H R h => ?_
  obtain ⟨δ, N, F, hS, hn, ⟨o1, o2, o3, o4⟩, q⟩ := h
  refine ⟨δ, N, F, hS, hn, o1, fun v H1 fp e1 r1 k1 => ⟨_, by rw [r1.int_ o2], o3, o4, ?_⟩⟩
  exact q _ H1 [] e1 (fun _ z => by cases z) Cl.nil walk_rng
theorem di_range2 {a b : Expr} {f g : PF} (hg : Gl X "range") (hm : X.mg "range" = none) (ha : DP X c1 a f) (hb : DP X c2 b g) (hs : starEach [a, b] X.env = (false, eval a X.env) :: starEach [b] X.env := by rfl) (hs2 : starEach [b] X.env = (false, eval b X.env) :: starEach [] X.env := by rfl)
    (h1 : starEach [a, b] X.env = [(false, eval a X.env), (false, eval b X.env)] := by rfl) (h2 : starEach [b] X.env = [(false, eval b X.env)] := by rfl) : DI X c tg (.Call (.Name "range" p) [a, b] [] pos) (iR2 f g) := by
  refine pi_imp (pi_range2 hg hm (pa_cons ha (pa_cons hb pa_nil hs2) hs) h1 h2) fun σ H R h => ?_
  obtain ⟨δ, N, F, hS, hn, ⟨o1, o2, o3, o4, o5⟩, q⟩ := h
  refine ⟨δ, N, F, hS, hn, o1, fun v H1 fp e1 r1 k1 => ⟨δ, N, F, hS.ex e1, hn.ex e1, o2, fun w H2 fp2 e2 r2 k2 => ⟨_, _, by rw [r1.int_ o3, r2.int_ o4], o5, ?_⟩⟩⟩
  exact q _ H2 [] (e1.trans e2) (fun _ z => by cases z) Cl.nil walk_rng

structure GV where
  ok : Prop
  loc : Loc
abbrev GF := D → Loc → GV
def tG (sl : List Nat) (G : GF) : TG := fun v σ H Q => ∃ δ F d fp, SRep F H σ δ ∧ Rp H d v fp ∧ (∀ p ∈ fp, F p) ∧ (G d δ).ok ∧ ∀ σ', SRep F H σ' (G d δ).loc → σ'.length = σ.length → (∀ i, i ∉ sl → σ'[i]? = σ[i]?) → Q σ' H
abbrev DG (X : Cx) (tg : Expr) (sl : List Nat) (G : GF) : Prop := PG X tg (tG sl G)
theorem pg_imp {X : Cx} {tg : Expr} {t t' : TG} (h : PG X tg t) (k : ∀ v σ H Q, t' v σ H Q → t v σ H Q) : PG X tg t' := ⟨fun pins s σ H v u Q I r q => h.run pins s σ H v u Q I r (k v σ H Q q)⟩
def gN (i : Nat) : GF := fun d δ => ⟨i < δ.length, δ.set i (some d)⟩
theorem SRep.set {F : Addr → Prop} {H : Hp} {σ : St} {δ : Loc} {i : Nat} {d : D} {v : V} {fp : List Addr} (h : SRep F H σ δ) (r : Rp H d v fp) (hf : ∀ p ∈ fp, F p) : SRep F H (σ.set i (some v)) (δ.set i (some d)) :=
  ⟨by simp [h.len], h.fr, fun j e q => by
    by_cases hj : i = j
    · subst hj
      have hi : i < δ.length := by
        have := (List.getElem?_eq_some_iff.mp q).1
        simpa using this
      rw [List.getElem?_set_self hi] at q
      cases q
      exact ⟨v, fp, by rw [List.getElem?_set_self (by rw [← h.len]; exact hi)], r, hf⟩
    · rw [List.getElem?_set_ne hj] at q
      obtain ⟨u, f, h1, h2, h3⟩ := h.at_ j e q
      exact ⟨u, f, by rw [List.getElem?_set_ne hj]; exact h1, h2, h3⟩⟩
theorem dg_name {i : Nat} {x : Str} (hN : X.N.Nodup) (hi : X.N[i]? = some x) (hx : L2.Loc X.env.scope x) (hf : X.fn x = true ∨ X.env.scope.names.lookup x = some .local := by first | exact .inl rfl | exact .inr rfl | assumption) : DG X (.Name x pos) [i] (gN i) := by
  refine pg_imp (pg_name hN hi hx hf) fun v σ H Q h => ?_
  obtain ⟨δ, F, d, fp, hs, r, hF, ok, q⟩ := h
  exact q _ (hs.set r hF) (by simp) fun j hj => by rw [List.getElem?_set_ne (fun z => hj (by simp [z]))]
end
end DL
set_option maxHeartbeats 4000000
namespace DL
open PySem L2
section
variable {X : Cx} {c c1 c2 c3 : Cl} {pos p : Pos} {tg : Expr}
abbrev GFs := List D → Loc → GV
def tGs (sl : List Nat) (G : GFs) : TGs := fun vs σ H Q => ∃ δ F ds fp, SRep F H σ δ ∧ RpL H ds vs fp ∧ (∀ p ∈ fp, F p) ∧ (G ds δ).ok ∧ ∀ σ', SRep F H σ' (G ds δ).loc → σ'.length = σ.length → (∀ i, i ∉ sl → σ'[i]? = σ[i]?) → Q σ' H
abbrev DGs (X : Cx) (tgs : List Expr) (sl : List Nat) (G : GFs) : Prop := PGs X tgs (tGs sl G)
theorem pgs_imp {X : Cx} {tg : List Expr} {t t' : TGs} (h : PGs X tg t) (k : ∀ v σ H Q, t' v σ H Q → t v σ H Q) : PGs X tg t' := ⟨fun pins s σ H v u Q I r q => h.run pins s σ H v u Q I r (k v σ H Q q)⟩
def gNl : GFs := fun ds δ => ⟨ds = [], δ⟩
def gC (G : GF) (Gs : GFs) : GFs := fun ds δ => match ds with
  | [] => ⟨False, δ⟩
  | d :: dr => ⟨(G d δ).ok ∧ (Gs dr (G d δ).loc).ok, (Gs dr (G d δ).loc).loc⟩
theorem dgs_nil : DGs X [] [] gNl := by
  refine pgs_imp pgs_nil fun vs σ H Q h => ?_
  obtain ⟨δ, F, ds, fp, hs, r, hF, ok, q⟩ := h
  have ok : ds = [] := ok
  subst ok
  exact ⟨r.1, q σ hs rfl fun _ _ => rfl⟩
theorem dgs_cons {e : Expr} {es : List Expr} {sl sl' : List Nat} {G : GF} {Gs : GFs} (h : DG X e sl G) (k : DGs X es sl' Gs) (hs : (assignEach (e :: es) X.env).map (·.2) = assign e X.env :: (assignEach es X.env).map (·.2) := by rfl) : DGs X (e :: es) (sl ++ sl') (gC G Gs) := by
  refine pgs_imp (pgs_cons h k hs) fun vs σ H Q h => ?_
  obtain ⟨δ, F, ds, fp, hs, r, hF, ok, q⟩ := h
  cases ds with
  | nil => exact ok.elim
  | cons d dr =>
    obtain ⟨v, vr, f, g, rfl, h1, h2, rfl⟩ := r
    refine ⟨v, vr, rfl, δ, F, d, f, hs, h1, fun p hp => hF p (by simp [hp]), ok.1, fun σ' hs' hl ks => ?_⟩
    refine ⟨_, F, dr, g, hs', h2, fun p hp => hF p (by simp [hp]), ok.2, fun σ2 hs2 hl2 ks2 => q σ2 hs2 (hl2.trans hl) fun i hi => ?_⟩
    rw [ks2 i fun z => hi (by simp [z]), ks i fun z => hi (by simp [z])]
def gT (n : Nat) (Gs : GFs) : GF := fun d δ => ⟨IsU d ∧ (toL d).length = n ∧ (Gs (toL d) δ).ok, (Gs (toL d) δ).loc⟩
theorem dg_tup {es : List Expr} {k : Nat} {sl : List Nat} {Gs : GFs} {n : Nat} (hc : X.calm = true) (h : DGs X es sl Gs) (hn : (assignEach es X.env).length = n := by rfl) (hst : (assignEach es X.env).findIdx? (·.1) = none := by rfl) :
    DG X (.Tuple es k pos) sl (gT n Gs) := by
  refine pg_imp (pg_tup hc h hn hst) fun v σ H Q h => ?_
  obtain ⟨δ, F, d, fp, hs, r, hF, ok, q⟩ := h
  obtain ⟨p, vs, rfl, hp, rl⟩ := r.tup_ ok.1
  exact ⟨p, vs, rfl, SqT.of hp, by rw [← rl.length]; exact ok.2.1, δ, F, _, fp, hs, rl, hF, ok.2.2, q⟩

def wipeD (δ : Loc) : List Nat → Loc
  | [] => δ
  | v :: vs => (wipeD δ vs).set v none
theorem wipeD_length (δ : Loc) : ∀ vs, (wipeD δ vs).length = δ.length
  | [] => rfl
  | v :: vs => by unfold wipeD; rw [List.length_set, wipeD_length δ vs]
theorem wipeD_out {δ : Loc} {i : Nat} {d : D} : ∀ {vs : List Nat}, (wipeD δ vs)[i]? = some (some d) → δ[i]? = some (some d) ∧ i ∉ vs
  | [], h => ⟨h, by simp⟩
  | v :: vs, h => by
    unfold wipeD at h
    by_cases hi : v = i
    · subst hi
      by_cases hv : v < (wipeD δ vs).length
      · rw [List.getElem?_set_self hv] at h; cases h
      · rw [List.getElem?_eq_none (by simpa using hv)] at h; cases h
    · rw [List.getElem?_set_ne hi] at h
      obtain ⟨h1, h2⟩ := wipeD_out h
      exact ⟨h1, by simp only [List.mem_cons, not_or]; exact ⟨fun e => hi e.symm, h2⟩⟩
theorem SRep.wipe {F : Addr → Prop} {H : Hp} {σ : St} {δ : Loc} (h : SRep F H σ δ) (vs : List Nat) : SRep F H (L2.wipe σ vs) (wipeD δ vs) :=
  ⟨by rw [wipeD_length, wipe_length]; exact h.len, h.fr, fun i d q => by
    obtain ⟨q1, q2⟩ := wipeD_out q
    obtain ⟨v, fp, h1, h2, h3⟩ := h.at_ i d q1
    exact ⟨v, fp, by rw [wipe_out q2]; exact h1, h2, h3⟩⟩
theorem wipe_get (σ : St) (i : Nat) : ∀ vs : List Nat, (wipe σ vs)[i]? = if i ∈ vs then (if i < σ.length then some none else none) else σ[i]?
  | [] => by simp [wipe]
  | v :: vs => by
    unfold wipe
    by_cases hi : v = i
    · subst hi
      by_cases hv : v < σ.length
      · rw [List.getElem?_set_self (by rw [wipe_length]; exact hv)]; simp [hv]
      · rw [List.getElem?_eq_none (by rw [List.length_set, wipe_length]; omega)]; simp [hv]
    · rw [List.getElem?_set_ne hi, wipe_get σ i vs]
      have hne : i ≠ v := fun z => hi z.symm
      by_cases hm : i ∈ vs
      · rw [if_pos hm, if_pos (List.mem_cons_of_mem _ hm)]
      · rw [if_neg hm, if_neg (by simp [hne, hm])]
theorem wipe_eq {σ σ' : St} {sl vs : List Nat} (hl : σ'.length = σ.length) (h : ∀ i, i ∉ sl → σ'[i]? = σ[i]?) (hs : ∀ i ∈ sl, i ∈ vs) : wipe σ' vs = wipe σ vs := by
  apply List.ext_getElem?
  intro i
  rw [wipe_get, wipe_get, hl]
  by_cases hi : i ∈ vs
  · rw [if_pos hi, if_pos hi]
  · rw [if_neg hi, if_neg hi, h i fun z => hi (hs i z)]
theorem wipe_wipe (σ : St) (vs : List Nat) : wipe (wipe σ vs) vs = wipe σ vs := by
  apply List.ext_getElem?
  intro i
  rw [wipe_get, wipe_get, wipe_length]
  by_cases hi : i ∈ vs
  · rw [if_pos hi, if_pos hi]
  · rw [if_neg hi, if_neg hi]

def lcRes (G : GF) (ft : TF) (fe : PF) (δ0 : Loc) (N : Nm) (items : List D) : List D := (items.filter fun d => (ft (G d δ0).loc N).b).map fun d => (fe (G d δ0).loc N).val
def pLc (fi : AF) (G : GF) (ft : TF) (fe : PF) (vs : List Nat) : PF := fun δ N =>
  ⟨(fi δ N).ok ∧ (fi δ N).vals.length ≤ SZ ∧ ∀ d ∈ (fi δ N).vals, (G d (wipeD δ vs)).ok ∧ (ft (G d (wipeD δ vs)).loc N).ok ∧ ((ft (G d (wipeD δ vs)).loc N).b = true → (fe (G d (wipeD δ vs)).loc N).ok), .lst (lcRes G ft fe (wipeD δ vs) N (fi δ N).vals)⟩
def pLcF (fi : AF) (G : GF) (ft : TF) (fe : PF) (vs : List Nat) : PF := fun δ N =>
  ⟨(pLc fi G ft fe vs δ N).ok ∧ lfs (lcRes G ft fe (wipeD δ vs) N (fi δ N).vals), .lst (lcRes G ft fe (wipeD δ vs) N (fi δ N).vals)⟩
theorem lcRes_nil {G : GF} {ft : TF} {fe : PF} {δ0 : Loc} {N : Nm} : lcRes G ft fe δ0 N [] = [] := rfl
theorem lcRes_snoc {G : GF} {ft : TF} {fe : PF} {δ0 : Loc} {N : Nm} {xs : List D} {d : D} : lcRes G ft fe δ0 N (xs ++ [d]) = lcRes G ft fe δ0 N xs ++ (if (ft (G d δ0).loc N).b = true then [(fe (G d δ0).loc N).val] else []) := by
  unfold lcRes
  rw [List.filter_append, List.map_append]
  congr 1
  cases e : (ft (G d δ0).loc N).b <;> simp [e]
theorem lcRes_length {G : GF} {ft : TF} {fe : PF} {δ0 : Loc} {N : Nm} {xs : List D} : (lcRes G ft fe δ0 N xs).length ≤ xs.length := by
  unfold lcRes; rw [List.length_map]; exact List.length_filter_le _ _
theorem take_snoc {α : Type} {xs : List α} {i : Nat} {d : α} (h : xs[i]? = some d) : xs.take (i + 1) = xs.take i ++ [d] := by
  obtain ⟨hi, e⟩ := List.getElem?_eq_some_iff.mp h
  rw [List.take_succ, h]; rfl
theorem lc_rd {vs0 : List Nat} {cs ce : Cl} {fi : AF} {sl : List Nat} {G : GF} {ft : TF} {fe : PF} (hsl : ∀ i ∈ sl, i ∈ vs0) (hce : ce = .cln ∨ ce = .frs) (σ : St) (H : Hp) (Q : VK)
    (h : ∃ δ N F, SRep F H σ δ ∧ NRep N H ∧ (pLc fi G ft fe vs0 δ N).ok ∧
      ∀ D H1 H2 vs fp fs, Ex H H1 → Ex H1 H2 → H1 D = none → H2 D = some (.lst vs) → RpL H2 (lcRes G ft fe (wipeD δ vs0) N (fi δ N).vals) vs fp → D ∉ fp → cs.ok F H fs → (ce = .frs → fp.Nodup ∧ ∀ p ∈ fp, H p = none) → (∀ p ∈ fp, F p ∨ p ∈ fs ∨ H p = none) → Q (.ref D) H2) :
    tLc (tI cs fi) (tG sl G) (tT ft) (tP ce fe) vs0 σ H Q := by
  obtain ⟨δ, N, F, hS, hn, ⟨o1, o2, o3⟩, q⟩ := h
  refine ⟨δ, N, F, hS, hn, o1, fun J H1 fs e1 tr k1 wk => ?_⟩
  intro D hD
  -- what is known of a turn
  generalize hit : (fi δ N).vals = items at *
  generalize hδ0 : wipeD δ vs0 = δ0 at *
  have F'ex : ∀ p, (F p ∨ p ∈ fs) → ∃ o, H1 p = some o := fun p hp => hp.elim (fun z => let ⟨o, ho⟩ := hS.fr p z; ⟨o, e1 p o ho⟩) fun z => let ⟨o, ho, _⟩ := tr p z; ⟨o, ho⟩
  refine ⟨fun i m H3 => m = items.length - i ∧ i ≤ items.length ∧ ∃ vs fp, H3 D = some (.lst vs) ∧ Ex H1 H3 ∧ RpL H3 (lcRes G ft fe δ0 N (items.take i)) vs fp ∧ D ∉ fp ∧ (ce = .frs → fp.Nodup ∧ ∀ p ∈ fp, H p = none) ∧ (∀ p ∈ fp, F p ∨ p ∈ fs ∨ H p = none),
    ⟨items.length, by simp, Nat.zero_le _, [], [], upd_same, Ex.new hD, RpL.nil, by simp, fun _ => ⟨List.nodup_nil, by simp⟩, by simp⟩, ?_⟩
  rintro i m H3 ⟨rfl, hi', vs, fp, hD3, e3, rl, nD, kf, kc⟩
  have kp3 : Kp H1 H3 fs := Kp.ex e3 fun p hp => let ⟨o, ho, _⟩ := tr p hp; ⟨o, ho⟩
  obtain ⟨wgo, wstop⟩ := wk i H3 kp3
  by_cases hlt : i < items.length
  · obtain ⟨d, hd⟩ : ∃ d, items[i]? = some d := ⟨items[i], by simp [hlt]⟩
    obtain ⟨go, yl⟩ := wgo d hd
    have dm : d ∈ items := List.mem_of_getElem? hd
    obtain ⟨og, ot, oe⟩ := o3 d dm
    refine .inr ⟨go, fun H' => ∃ vs fp, H' D = some (.lst vs) ∧ Ex H1 H' ∧ RpL H' (lcRes G ft fe δ0 N (items.take (i + 1))) vs fp ∧ D ∉ fp ∧ (ce = .frs → fp.Nodup ∧ ∀ p ∈ fp, H p = none) ∧ (∀ p ∈ fp, F p ∨ p ∈ fs ∨ H p = none),
      fun H' hh => ⟨items.length - (i + 1), by omega, rfl, hlt, hh⟩, fun x H' y => ?_⟩
    obtain ⟨e4, f, rx, fsub⟩ := yl x H' y
    have S0 : SRep (fun p => F p ∨ p ∈ fs) H' (wipe σ vs0) δ0 := by
      rw [← hδ0]
      exact ((SRep.mk hS.len (fun p hp => let ⟨o, ho⟩ := F'ex p hp; ⟨o, e4 p o (e3 p o ho)⟩) (fun i d q => let ⟨v, fp, h1, h2, h3⟩ := hS.at_ i d q; ⟨v, fp, h1, h2.ex ((e1.trans e3).trans e4), fun p hp => .inl (h3 p hp)⟩)).wipe _)
    refine ⟨δ0, _, d, f, S0, rx, fun p hp => .inr (fsub p hp), og, fun σ2 S2 hl2 ks => ⟨?_, ?_⟩⟩
    · rw [wipe_eq hl2 ks hsl, wipe_wipe]
    refine ⟨_, N, _, S2, ((hn.ex e1).ex e3).ex e4, ot, fun H5 e5 => ?_⟩
    have hD5 : H5 D = some (.lst vs) := e5 D _ (e4 D _ hD3)
    have E5 : Ex H1 H5 := (e3.trans e4).trans e5
    cases eb : (ft (G d δ0).loc N).b with
    | false =>
      refine (if_neg Bool.false_ne_true).mpr ⟨vs, fp, hD5, E5, ?_, nD, kf, kc⟩
      rw [take_snoc hd, lcRes_snoc, eb, if_neg Bool.false_ne_true, List.append_nil]
      exact (rl.ex e4).ex e5
    | true =>
      refine (if_pos rfl).mpr ?_
      refine ⟨_, N, _, S2.ex e5, (((hn.ex e1).ex e3).ex e4).ex e5, oe eb, fun y H6 fy e6 ry ky => ?_⟩
      have hD6 : H6 D = some (.lst vs) := e6 D _ hD5
      have rl6 := ((rl.ex e4).ex e5).ex e6
      have hlen : vs.length ≤ i := by
        rw [← rl.length]
        exact Nat.le_trans lcRes_length (by rw [List.length_take]; exact Nat.min_le_left _ _)
      refine ⟨vs, hD6, Nat.lt_of_lt_of_le (Nat.lt_of_le_of_lt hlen hlt) (sz o2), vs ++ [y], fp ++ fy, upd_same, fun p o hp => ?_, ?_, ?_, ?_, ?_⟩
      · have pD : p ≠ D := fun z => by rw [z, hD] at hp; cases hp
        rw [upd_ne pD]; exact (E5.trans e6) p o hp
      · have nDy : D ∉ fy := fun z => by
          rcases hce with rfl | rfl
          · rcases ky D z with (a | a) | a
            · obtain ⟨o, ho⟩ := F'ex D (.inl a); rw [hD] at ho; cases ho
            · obtain ⟨o, ho⟩ := F'ex D (.inr a); rw [hD] at ho; cases ho
            · rw [hD5] at a; cases a
          · have := ky.2 D z
            rw [hD5] at this; cases this
        rw [take_snoc hd, lcRes_snoc, eb, if_pos rfl]
        exact RpL.append (RpL.keep (fun p vs' q => by rw [upd_ne (fun z => by rw [z, hD6] at q; cases q)]; exact q) _ _ _ rl6 fun p hp => upd_ne fun z => nD (z ▸ hp))
          (RpL.one (Rp.keep (fun p vs' q => by rw [upd_ne (fun z => by rw [z, hD6] at q; cases q)]; exact q) _ _ _ ry fun p hp => upd_ne fun z => nDy (z ▸ hp)))
      · intro z
        rcases List.mem_append.mp z with z | z
        · exact nD z
        · rcases hce with rfl | rfl
          · rcases ky D z with (a | a) | a
            · obtain ⟨o, ho⟩ := F'ex D (.inl a); rw [hD] at ho; cases ho
            · obtain ⟨o, ho⟩ := F'ex D (.inr a); rw [hD] at ho; cases ho
            · rw [hD5] at a; cases a
          · have := ky.2 D z
            rw [hD5] at this; cases this
      · intro ef
        subst ef
        obtain ⟨k1, k2⟩ := kf rfl
        refine ⟨List.nodup_append.mpr ⟨k1, ky.1, fun a ha b hb z => ?_⟩, fun p hp => ?_⟩
        · subst z
          obtain ⟨o, ho, _⟩ := RpL.there _ _ _ ((rl.ex e4).ex e5) a ha
          rw [ky.2 a hb] at ho; cases ho
        · rcases List.mem_append.mp hp with hp | hp
          · exact k2 p hp
          · exact e1.free (E5.free (ky.2 p hp))
      · intro p hp
        rcases List.mem_append.mp hp with hp | hp
        · exact kc p hp
        · rcases hce with rfl | rfl
          · rcases ky p hp with (a | a) | a
            · exact .inl a
            · exact .inr (.inl a)
            · exact .inr (.inr (e1.free (E5.free a)))
          · exact .inr (.inr (e1.free (E5.free (ky.2 p hp))))
  · have ei : i = items.length := by omega
    subst ei
    rw [List.take_length] at rl
    exact .inl ⟨wstop (Nat.le_refl _), q D H1 H3 vs fp fs e1 e3 hD hD3 rl nD k1 kf kc⟩
section
variable {vs0 : List Nat} {cs ce : Cl} {fi : AF} {sl : List Nat} {G : GF} {ft : TF} {fe : PF}
theorem lcN_rd (hsl : ∀ i ∈ sl, i ∈ vs0) (σ : St) (H : Hp) (Q : VK) (h : tP c (pLc fi G ft fe vs0) σ H Q) : tLc (tI cs fi) (tG sl G) (tT ft) (tP .frs fe) vs0 σ H Q := by
  obtain ⟨δ, N, F, hS, hn, ok, q⟩ := h
  refine lc_rd hsl (.inr rfl) σ H Q ⟨δ, N, F, hS, hn, ok, fun D H1 H2 vs fp fs e1 e2 hD hD2 rl nD k kf kc => ?_⟩
  refine q _ H2 (D :: fp) (e1.trans e2) ⟨D, vs, fp, rfl, hD2, rl, rfl⟩ (Cl.frs_ ⟨List.nodup_cons.mpr ⟨nD, (kf rfl).1⟩, fun p hp => ?_⟩)
  rcases List.mem_cons.mp hp with rfl | hp
  · exact e1.free hD
  · exact (kf rfl).2 p hp
theorem lcC_rd (hcs : cs ≠ .any) (hsl : ∀ i ∈ sl, i ∈ vs0) (σ : St) (H : Hp) (Q : VK) (h : tP .cln (pLc fi G ft fe vs0) σ H Q) : tLc (tI cs fi) (tG sl G) (tT ft) (tP .cln fe) vs0 σ H Q := by
  obtain ⟨δ, N, F, hS, hn, ok, q⟩ := h
  refine lc_rd hsl (.inl rfl) σ H Q ⟨δ, N, F, hS, hn, ok, fun D H1 H2 vs fp fs e1 e2 hD hD2 rl nD k kf kc => ?_⟩
  refine q _ H2 (D :: fp) (e1.trans e2) ⟨D, vs, fp, rfl, hD2, rl, rfl⟩ fun p hp => ?_
  rcases List.mem_cons.mp hp with rfl | hp
  · exact .inr (e1.free hD)
  · rcases kc p hp with z | z | z
    · exact .inl z
    · cases cs with
      | any => exact absurd rfl hcs
      | cln => exact k p z
      | frs => exact .inr (k.2 p z)
    · exact .inr z
theorem lcA_rd (hsl : ∀ i ∈ sl, i ∈ vs0) (σ : St) (H : Hp) (Q : VK) (h : tP .any (pLc fi G ft fe vs0) σ H Q) : tLc (tI cs fi) (tG sl G) (tT ft) (tP .cln fe) vs0 σ H Q := by
  obtain ⟨δ, N, F, hS, hn, ok, q⟩ := h
  exact lc_rd hsl (.inl rfl) σ H Q ⟨δ, N, F, hS, hn, ok, fun D H1 H2 vs fp fs e1 e2 hD hD2 rl nD k kf kc =>
    q _ H2 (D :: fp) (e1.trans e2) ⟨D, vs, fp, rfl, hD2, rl, rfl⟩ trivial⟩
theorem lcF_rd (hsl : ∀ i ∈ sl, i ∈ vs0) (σ : St) (H : Hp) (Q : VK) (h : tP c (pLcF fi G ft fe vs0) σ H Q) : tLc (tI cs fi) (tG sl G) (tT ft) (tP .cln fe) vs0 σ H Q := by
  obtain ⟨δ, N, F, hS, hn, ok, q⟩ := h
  refine lc_rd hsl (.inl rfl) σ H Q ⟨δ, N, F, hS, hn, ok.1, fun D H1 H2 vs fp fs e1 e2 hD hD2 rl nD k kf kc => ?_⟩
  have z := RpL.lf _ _ _ rl ok.2
  subst z
  exact q _ H2 [D] (e1.trans e2) ⟨D, vs, [], rfl, hD2, rl, rfl⟩ (Cl.frs_ ⟨by simp, fun p hp => by
    rcases List.mem_singleton.mp hp with rfl
    exact e1.free hD⟩)
variable {iter elt : Expr} {ifs : List Expr} {scope : Scope} {own : List (Str × Nat)}
theorem dp_lc (hc : X.calm = true) (hN : X.N.Nodup) (hi : DI X cs tg iter fi) (ok : BlkOk X.N X.env.scope scope own) (hsl : ∀ i ∈ sl, i ∈ own.map (·.2))
    (hg : ∀ (s : Shared) (H : Hp) (C : Addr) (cl : List (Str × Addr)) (fp : List Addr), DG (X.blk s H scope (compEnvC scope cl C X.env) fp) tg sl G)
    (ht : ∀ (s : Shared) (H : Hp) (C : Addr) (cl : List (Str × Addr)) (fp : List Addr), PTs (X.blk s H scope (compEnvC scope cl C X.env) fp) ifs (tT ft))
    (he : ∀ (s : Shared) (H : Hp) (C : Addr) (cl : List (Str × Addr)) (fp : List Addr), DP (X.blk s H scope (compEnvC scope cl C X.env) fp) .frs elt fe) (hs : ∀ x, foldedSetIterable iter X.env x = pure x := by intro _; rfl) :
    DP X c (.ListComp elt [⟨tg, iter, ifs, 0⟩] scope pos) (pLc fi G ft fe (own.map (·.2))) := pe_imp (pe_lc hc hN hi ok hg ht he hs) (lcN_rd hsl)
theorem dp_lcC (hcs : cs ≠ .any) (hc : X.calm = true) (hN : X.N.Nodup) (hi : DI X cs tg iter fi) (ok : BlkOk X.N X.env.scope scope own) (hsl : ∀ i ∈ sl, i ∈ own.map (·.2))
    (hg : ∀ (s : Shared) (H : Hp) (C : Addr) (cl : List (Str × Addr)) (fp : List Addr), DG (X.blk s H scope (compEnvC scope cl C X.env) fp) tg sl G)
    (ht : ∀ (s : Shared) (H : Hp) (C : Addr) (cl : List (Str × Addr)) (fp : List Addr), PTs (X.blk s H scope (compEnvC scope cl C X.env) fp) ifs (tT ft))
    (he : ∀ (s : Shared) (H : Hp) (C : Addr) (cl : List (Str × Addr)) (fp : List Addr), DP (X.blk s H scope (compEnvC scope cl C X.env) fp) .cln elt fe) (hs : ∀ x, foldedSetIterable iter X.env x = pure x := by intro _; rfl) :
    DP X .cln (.ListComp elt [⟨tg, iter, ifs, 0⟩] scope pos) (pLc fi G ft fe (own.map (·.2))) := pe_imp (pe_lc hc hN hi ok hg ht he hs) (lcC_rd hcs hsl)
theorem dp_lcA (hc : X.calm = true) (hN : X.N.Nodup) (hi : DI X cs tg iter fi) (ok : BlkOk X.N X.env.scope scope own) (hsl : ∀ i ∈ sl, i ∈ own.map (·.2))
    (hg : ∀ (s : Shared) (H : Hp) (C : Addr) (cl : List (Str × Addr)) (fp : List Addr), DG (X.blk s H scope (compEnvC scope cl C X.env) fp) tg sl G)
    (ht : ∀ (s : Shared) (H : Hp) (C : Addr) (cl : List (Str × Addr)) (fp : List Addr), PTs (X.blk s H scope (compEnvC scope cl C X.env) fp) ifs (tT ft))
    (he : ∀ (s : Shared) (H : Hp) (C : Addr) (cl : List (Str × Addr)) (fp : List Addr), DP (X.blk s H scope (compEnvC scope cl C X.env) fp) .cln elt fe) (hs : ∀ x, foldedSetIterable iter X.env x = pure x := by intro _; rfl) :
    DP X .any (.ListComp elt [⟨tg, iter, ifs, 0⟩] scope pos) (pLc fi G ft fe (own.map (·.2))) := pe_imp (pe_lc hc hN hi ok hg ht he hs) (lcA_rd hsl)
theorem dp_lcF (hc : X.calm = true) (hN : X.N.Nodup) (hi : DI X cs tg iter fi) (ok : BlkOk X.N X.env.scope scope own) (hsl : ∀ i ∈ sl, i ∈ own.map (·.2))
    (hg : ∀ (s : Shared) (H : Hp) (C : Addr) (cl : List (Str × Addr)) (fp : List Addr), DG (X.blk s H scope (compEnvC scope cl C X.env) fp) tg sl G)
    (ht : ∀ (s : Shared) (H : Hp) (C : Addr) (cl : List (Str × Addr)) (fp : List Addr), PTs (X.blk s H scope (compEnvC scope cl C X.env) fp) ifs (tT ft))
    (he : ∀ (s : Shared) (H : Hp) (C : Addr) (cl : List (Str × Addr)) (fp : List Addr), DP (X.blk s H scope (compEnvC scope cl C X.env) fp) .cln elt fe) (hs : ∀ x, foldedSetIterable iter X.env x = pure x := by intro _; rfl) :
    DP X c (.ListComp elt [⟨tg, iter, ifs, 0⟩] scope pos) (pLcF fi G ft fe (own.map (·.2))) := pe_imp (pe_lc hc hN hi ok hg ht he hs) (lcF_rd hsl)
end
def tYesF : TF := fun _ _ => ⟨True, true⟩
theorem dts_nil : PTs X [] (tT tYesF) := ⟨fun pins s σ H Q I h => by
  obtain ⟨δ, N, F, hs, hn, ok, q⟩ := h
  exact pts_nil.run pins s σ H Q I (q H (Ex.refl H))⟩
theorem dts_one {e : Expr} {f : TF} (h : DT X e f) : PTs X [e] (tT f) := pts_one h
end
end DL
set_option maxHeartbeats 4000000
namespace DL
open PySem L2

def spP (n : Nat) (φ : List D → Nm → PV) : Sp := fun vs H Q _ => ∃ ds N fps, RpL H ds vs fps ∧ NRep N H ∧ ds.length = n ∧ (φ ds N).ok ∧ ∀ v H' fp, Ex H H' → Rp H' (φ ds N).val v fp → Cl.frs.ok (fun _ => False) H fp → Q v H'
structure Has (P : Program) (w : World) (K : PySem.W.Frag) (mg : Str → Option Value) (base : Heap) (x : Str) (k : Nat) (ps : List Str) (sp : Sp) : Prop where
  ex : ∃ f fd, FnOk P w K mg base (L2.CX P w) k f fd ps sp ∧ mg x = some (.ref f) ∧ PySem.W.keepIn K (.ref f) = true ∧ Binds K fd ps []
abbrev HasX (X : Cx) (x : Str) (k : Nat) (ps : List Str) (sp : Sp) : Prop := Has X.prog X.w X.K X.mg X.base x k ps sp
theorem Cl.frs_any {F F' : Addr → Prop} {H : Hp} {fp : List Addr} (h : Cl.frs.ok F H fp) : Cl.frs.ok F' H fp := h
section
variable {X : Cx} {c c1 c2 c3 : Cl} {pos p : Pos} {x : Str} {k n : Nat} {ps : List Str} {φ : List D → Nm → PV}
def pCall (n : Nat) (φ : List D → Nm → PV) (f : AF) : PF := fun δ N => ⟨(f δ N).ok ∧ (f δ N).vals.length = n ∧ (φ (f δ N).vals N).ok, (φ (f δ N).vals N).val⟩
theorem dp_call {e : Expr} {es : List Expr} {f : AF} (h : HasX X x k ps (spP n φ)) (hr : Room k X.A) (hg : Gl X x) (ha : DA X .any (e :: es) f) (hdb : (x == ("__debug__" : Str)) = false := by decide)
    (he : starEach (e :: es) X.env = (false, eval e X.env) :: starEach es X.env := by rfl) (hpl : (backTo pos (starEach es X.env)).any (·.1) = false := by rfl) : DP X c (.Call (.Name x p) (e :: es) [] pos) (pCall n φ f) := by
  obtain ⟨f', fd, F, hm, hk, hb⟩ := h.ex
  refine pe_imp (pe_call F hr hg hm hk hb .nil (passL) ha hdb he hpl) fun σ H Q h => ?_
  obtain ⟨δ, N, F, hs, hn, ⟨o1, o2, o3⟩, q⟩ := h
  refine ⟨δ, N, F, hs, hn, o1, fun vs H1 fp e1 r1 k1 => ?_⟩
  show spP n φ (vs ++ []) H1 Q E0
  rw [List.append_nil]
  exact ⟨_, N, fp, r1, hn.ex e1, o2, o3, fun v H' fq e2 r2 k2 => q v H' fq (e1.trans e2) r2 (Cl.frs_ ⟨k2.1, fun p hp => e1.free (k2.2 p hp)⟩)⟩
def drf (N : Nm) : D → D
  | .ref a => match N a with
    | some c => c.d
    | none => .ref a
  | d => d
def pDr (f : PF) : PF := fun δ N => ⟨(f δ N).ok, drf N (f δ N).val⟩
theorem dp_dr {e : Expr} {f : PF} (h : DP X c e f) : DP X .any e (pDr f) := by
  refine pe_imp h fun σ H Q h => ?_
  obtain ⟨δ, N, F, hs, hn, ok, q⟩ := h
  refine ⟨δ, N, F, hs, hn, ok, fun v H' fp e r k => ?_⟩
  cases hv : (f δ N).val with
  | ref a =>
    cases hN : N a with
    | none => exact q v H' fp e (by simp only [pDr, hv, drf, hN]; rw [hv] at r; exact r) trivial
    | some c =>
      obtain ⟨fq, hq, _⟩ := hn.ex e a c hN
      rw [hv] at r
      have ev : v = .ref a := r.1
      subst ev
      exact q _ H' fq e (by simp only [pDr, hv, drf, hN]; exact hq) trivial
  | _ => exact q v H' fp e (by simp only [pDr, hv, drf]; rw [hv] at r; exact r) trivial
end

structure Wf (N : Nm) (F P : Addr → Prop) (H : Hp) (fpm : Addr → List Addr) : Prop where
  cell : ∀ a c, N a = some c → Rp H c.d (.ref a) (fpm a) ∧ a ∈ fpm a
  own : ∀ a c, N a = some c → c.w = true → (fpm a).Nodup ∧ ∀ p ∈ fpm a, P p
  sep : ∀ a b c e, a ≠ b → N a = some c → c.w = true → N b = some e → ∀ p ∈ fpm a, p ∉ fpm b
  fr : ∀ p, F p → ¬ P p ∧ ∃ o, H p = some o
  pr : ∀ p, P p → ∃ o, H p = some o ∧ ∀ xs, o ≠ .tup xs
structure Tr (F P : Addr → Prop) (H : Hp) (F' P' : Addr → Prop) (H' : Hp) : Prop where
  fr : ∀ p, F p → F' p
  st : ∀ p o, H p = some o → ¬ P p → H' p = some o
  th : ∀ p o, H p = some o → ∃ o', H' p = some o'
  pw : ∀ p, P' p → P p ∨ H p = none
  fw : ∀ p, F' p → F p ∨ P p ∨ H p = none
theorem Tr.refl {F P : Addr → Prop} {H : Hp} : Tr F P H F P H := ⟨fun _ h => h, fun _ _ h _ => h, fun _ o h => ⟨o, h⟩, fun _ h => .inl h, fun _ h => .inl h⟩
theorem Tr.trans {F P F1 P1 F2 P2 : Addr → Prop} {H H1 H2 : Hp} (a : Tr F P H F1 P1 H1) (b : Tr F1 P1 H1 F2 P2 H2) : Tr F P H F2 P2 H2 := by
  have back : ∀ p, H1 p = none → H p = none := fun p h => by
    cases q : H p with
    | none => rfl
    | some o => obtain ⟨o', h'⟩ := a.th p o q; rw [h] at h'; cases h'
  refine ⟨fun p h => b.fr p (a.fr p h), fun p o h n => b.st p o (a.st p o h n) fun z => ?_, fun p o h => let ⟨o', h'⟩ := a.th p o h; b.th p o' h', fun p h => ?_, fun p h => ?_⟩
  · rcases a.pw p z with z | z
    · exact n z
    · rw [h] at z; cases z
  · rcases b.pw p h with z | z
    · exact a.pw p z
    · exact .inr (back p z)
  · rcases b.fw p h with z | z | z
    · exact a.fw p z
    · exact .inr (a.pw p z)
    · exact .inr (.inr (back p z))
structure Ok (δ : Loc) (N : Nm) (F P : Addr → Prop) (σ : St) (H : Hp) : Prop where
  wf : ∃ fpm, Wf N F P H fpm
  sr : SRep F H σ δ
theorem Ok.nr {δ : Loc} {N : Nm} {F P : Addr → Prop} {σ : St} {H : Hp} (o : Ok δ N F P σ H) : NRep N H := fun a c h => by
  obtain ⟨fpm, w⟩ := o.wf
  exact ⟨_, w.cell a c h⟩
theorem Ok.fr {δ : Loc} {N : Nm} {F P : Addr → Prop} {σ : St} {H : Hp} (o : Ok δ N F P σ H) : ∀ p, F p → ¬ P p ∧ ∃ o, H p = some o := let ⟨_, w⟩ := o.wf; w.fr
theorem Ok.pr {δ : Loc} {N : Nm} {F P : Addr → Prop} {σ : St} {H : Hp} (o : Ok δ N F P σ H) : ∀ p, P p → ∃ o, H p = some o ∧ ∀ xs, o ≠ .tup xs := let ⟨_, w⟩ := o.wf; w.pr
theorem Ok.keep {δ : Loc} {N : Nm} {F P F' P' : Addr → Prop} {σ : St} {H H' : Hp} (o : Ok δ N F P σ H) (t : Tr F P H F' P' H') {d : D} {v : V} {fp : List Addr} (r : Rp H d v fp) (h : ∀ p ∈ fp, F p) : Rp H' d v fp :=
  Rp.keep (fun p vs q => t.st p _ q fun z => by obtain ⟨ob, h1, h2⟩ := o.pr p z; rw [q] at h1; cases h1; exact h2 _ rfl) d v fp r fun p hp => by
    obtain ⟨n, ob, ho⟩ := o.fr p (h p hp)
    rw [ho, t.st p ob ho n]
theorem Ok.keepL {δ : Loc} {N : Nm} {F P F' P' : Addr → Prop} {σ : St} {H H' : Hp} (o : Ok δ N F P σ H) (t : Tr F P H F' P' H') {d : List D} {v : List V} {fp : List Addr} (r : RpL H d v fp) (h : ∀ p ∈ fp, F p) : RpL H' d v fp :=
  RpL.keep (fun p vs q => t.st p _ q fun z => by obtain ⟨ob, h1, h2⟩ := o.pr p z; rw [q] at h1; cases h1; exact h2 _ rfl) d v fp r fun p hp => by
    obtain ⟨n, ob, ho⟩ := o.fr p (h p hp)
    rw [ho, t.st p ob ho n]
theorem SRep.tr {δ δ1 : Loc} {N : Nm} {F P F' P' : Addr → Prop} {σ σ1 : St} {H H' : Hp} (o : Ok δ1 N F P σ1 H) (t : Tr F P H F' P' H') (s : SRep F H σ δ) (f' : ∀ p, F' p → ∃ ob, H' p = some ob) : SRep F' H' σ δ :=
  ⟨s.len, f', fun i d q => by
    obtain ⟨v, fp, h1, h2, h3⟩ := s.at_ i d q
    exact ⟨v, fp, h1, o.keep t h2 h3, fun p hp => t.fr p (h3 p hp)⟩⟩
theorem Ok.grow {δ : Loc} {N : Nm} {F P : Addr → Prop} {σ : St} {H H' : Hp} (o : Ok δ N F P σ H) (e : Ex H H') (g : Addr → Prop) (hg : ∀ p, g p → (F p ∨ H p = none) ∧ ∃ ob, H' p = some ob) :
    Ok δ N (fun p => F p ∨ g p) P σ H' ∧ Tr F P H (fun p => F p ∨ g p) P H' := by
  obtain ⟨fpm, w⟩ := o.wf
  have notP : ∀ p, H p = none → ¬ P p := fun p h z => by obtain ⟨ob, h1, _⟩ := w.pr p z; rw [h] at h1; cases h1
  refine ⟨⟨⟨fpm, fun a c h => ⟨(w.cell a c h).1.ex e, (w.cell a c h).2⟩, w.own, w.sep, fun p h => ?_, fun p h => ?_⟩, ⟨o.sr.len, fun p h => ?_, fun i d q => ?_⟩⟩, ⟨fun p h => .inl h, fun p ob h _ => e p ob h, fun p ob h => ⟨ob, e p ob h⟩, fun p h => .inl h, fun p h => ?_⟩⟩
  · rcases h with h | h
    · obtain ⟨a, ob, b⟩ := w.fr p h
      exact ⟨a, ob, e p ob b⟩
    · obtain ⟨a, b⟩ := hg p h
      rcases a with a | a
      · exact ⟨(w.fr p a).1, b⟩
      · exact ⟨notP p a, b⟩
  · obtain ⟨ob, h1, h2⟩ := w.pr p h
    exact ⟨ob, e p ob h1, h2⟩
  · rcases h with h | h
    · obtain ⟨a, ob, b⟩ := w.fr p h
      exact ⟨ob, e p ob b⟩
    · exact (hg p h).2
  · obtain ⟨v, fp, h1, h2, h3⟩ := o.sr.at_ i d q
    exact ⟨v, fp, h1, h2.ex e, fun p hp => .inl (h3 p hp)⟩
  · rcases h with h | h
    · exact .inl h
    · rcases (hg p h).1 with a | a
      · exact .inl a
      · exact .inr (.inr a)
theorem Ok.ex {δ : Loc} {N : Nm} {F P : Addr → Prop} {σ : St} {H H' : Hp} (o : Ok δ N F P σ H) (e : Ex H H') : Ok δ N F P σ H' ∧ Tr F P H F P H' := by
  obtain ⟨a, b⟩ := o.grow e (fun _ => False) (fun _ h => h.elim)
  have : (fun p => F p ∨ False) = F := by funext p; simp
  rw [this] at a b
  exact ⟨a, b⟩

structure Exc where
  cls : Addr
  arg : Option (Str × Int)
abbrev ED := Exc → Nm → Prop
def ExR (H : Hp) (x : Exc) (cls : Value) (d : Option Addr) : Prop := cls = .ref x.cls ∧ match x.arg with
  | none => d = none
  | some (f, i) => ∃ a, d = some a ∧ H a = some (.xd [(f, .int i)])
def EC (E : XK) (E' : ED) (F P : Addr → Prop) (H : Hp) : Prop := ∀ x cls dd H' F' P' N', Tr F P H F' P' H' → (∃ fpm, Wf N' F' P' H' fpm) → ExR H' x cls dd → E' x N' → E cls dd H'
theorem EC.tr {E : XK} {E' : ED} {F P F1 P1 : Addr → Prop} {H H1 : Hp} (h : EC E E' F P H) (t : Tr F P H F1 P1 H1) : EC E E' F1 P1 H1 := fun x cls dd H' F' P' N' t' w r e => h x cls dd H' F' P' N' (t.trans t') w r e
abbrev E9 : ED := fun _ _ => False
theorem EC.no {E : XK} {F P : Addr → Prop} {H : Hp} : EC E E9 F P H := fun _ _ _ _ _ _ _ _ _ _ e => e.elim
abbrev WE := Loc → Nm → (D → Nm → Prop) → ED → Prop
abbrev WT := Loc → Nm → (Bool → Nm → Prop) → ED → Prop
abbrev WA := Loc → Nm → (List D → Nm → Prop) → ED → Prop
def tDE (E : XK) (w : WE) : TE := fun σ H Q => ∃ δ N F P Q' E', Ok δ N F P σ H ∧ w δ N Q' E' ∧ (∀ v H' F' P' d N' fp, Tr F P H F' P' H' → Ok δ N' F' P' σ H' → Rp H' d v fp → (∀ p ∈ fp, F' p) → Q' d N' → Q v H') ∧ EC E E' F P H
def tDT (E : XK) (w : WT) : TT := fun σ H Q => ∃ δ N F P Q' E', Ok δ N F P σ H ∧ w δ N Q' E' ∧ (∀ b H' F' P' N', Tr F P H F' P' H' → Ok δ N' F' P' σ H' → Q' b N' → Q b H') ∧ EC E E' F P H
def tDA (E : XK) (w : WA) : TA := fun σ H Q => ∃ δ N F P Q' E', Ok δ N F P σ H ∧ w δ N Q' E' ∧ (∀ vs H' F' P' ds N' fp, Tr F P H F' P' H' → Ok δ N' F' P' σ H' → RpL H' ds vs fp → (∀ p ∈ fp, F' p) → Q' ds N' → Q vs H') ∧ EC E E' F P H
abbrev DE (X : Cx) (E : XK) (e : Expr) (w : WE) : Prop := PE X e (tDE E w)
abbrev DTE (X : Cx) (E : XK) (e : Expr) (w : WT) : Prop := PT X e (tDT E w)
abbrev DAE (X : Cx) (E : XK) (es : List Expr) (w : WA) : Prop := PA X es (tDA E w)
section
variable {X : Cx} {E : XK} {c c1 c2 c3 : Cl} {pos p : Pos} {x : Str}
def wP (f : PF) : WE := fun δ N Q _ => (f δ N).ok ∧ Q (f δ N).val N
def wT (f : TF) : WT := fun δ N Q _ => (f δ N).ok ∧ Q (f δ N).b N
def wA (f : AF) : WA := fun δ N Q _ => (f δ N).ok ∧ Q (f δ N).vals N
theorem cln_grow {δ : Loc} {N : Nm} {F P : Addr → Prop} {σ : St} {H H' : Hp} {fp : List Addr} (o : Ok δ N F P σ H) (e : Ex H H') (k : Cl.cln.ok F H fp) (t : ∀ p ∈ fp, ∃ ob, H' p = some ob ∧ ∀ xs, ob ≠ .tup xs) :
    Ok δ N (fun p => F p ∨ p ∈ fp) P σ H' ∧ Tr F P H (fun p => F p ∨ p ∈ fp) P H' := o.grow e (fun p => p ∈ fp) fun p hp => ⟨k p hp, let ⟨ob, h, _⟩ := t p hp; ⟨ob, h⟩⟩
theorem de_p {e : Expr} {f : PF} (h : DP X .cln e f) : DE X E e (wP f) := by
  refine pe_imp h fun σ H Q h => ?_
  obtain ⟨δ, N, F, P, Q', E', o, ⟨ok, q'⟩, q, qe⟩ := h
  refine ⟨δ, N, F, o.sr, o.nr, ok, fun v H' fp e r k => ?_⟩
  obtain ⟨o2, t⟩ := cln_grow o e k (Rp.there _ _ _ r)
  exact q v H' _ P _ N fp t o2 r (fun p hp => .inr hp) q'
theorem dte_t {e : Expr} {f : TF} (h : DT X e f) : DTE X E e (wT f) := by
  refine pt_imp h fun σ H Q h => ?_
  obtain ⟨δ, N, F, P, Q', E', o, ⟨ok, q'⟩, q, qe⟩ := h
  refine ⟨δ, N, F, o.sr, o.nr, ok, fun H' e => ?_⟩
  obtain ⟨o2, t⟩ := o.ex e
  exact q _ H' F P N t o2 q'
def wANil : WA := fun _ N Q _ => Q [] N
def wACons (w : WE) (u : WA) : WA := fun δ N Q E => w δ N (fun d N1 => u δ N1 (fun ds N2 => Q (d :: ds) N2) E) E
theorem dae_nil : DAE X E [] wANil := by
  refine pa_imp pa_nil fun σ H Q h => ?_
  obtain ⟨δ, N, F, P, Q', E', o, q', q, qe⟩ := h
  exact q [] H F P [] N [] Tr.refl o RpL.nil (by simp) q'
theorem dae_cons {e : Expr} {es : List Expr} {w : WE} {u : WA} (h : DE X E e w) (k : DAE X E es u) (hs : starEach (e :: es) X.env = (false, eval e X.env) :: starEach es X.env := by rfl) : DAE X E (e :: es) (wACons w u) := by
  refine pa_imp (pa_cons h k hs) fun σ H Q h => ?_
  obtain ⟨δ, N, F, P, Q', E', o, q', q, qe⟩ := h
  refine ⟨δ, N, F, P, _, E', o, q', fun v H1 F1 P1 d N1 fp t1 o1 r1 k1 q1 => ⟨δ, N1, F1, P1, _, E', o1, q1, fun vs H2 F2 P2 ds N2 fq t2 o2 r2 k2 q2 => ?_, qe.tr t1⟩, qe⟩
  exact q _ H2 F2 P2 _ N2 (fp ++ fq) (t1.trans t2) o2 (RpL.cons (o1.keep t2 r1 k1) r2) (fun p hp => (List.mem_append.mp hp).elim (fun z => t2.fr p (k1 p z)) (k2 p)) q2
theorem dae_a {es : List Expr} {f : AF} (h : DA X .cln es f) : DAE X E es (wA f) := by
  refine pa_imp h fun σ H Q h => ?_
  obtain ⟨δ, N, F, P, Q', E', o, ⟨ok, q'⟩, q, qe⟩ := h
  refine ⟨δ, N, F, o.sr, o.nr, ok, fun v H' fp e r k => ?_⟩
  obtain ⟨o2, t⟩ := cln_grow o e k (RpL.there _ _ _ r)
  exact q v H' _ P _ N fp t o2 r (fun p hp => .inr hp) q'
def w2 (h : D → D → PV) (w u : WE) : WE := fun δ N Q E => w δ N (fun x N1 => u δ N1 (fun y N2 => (h x y).ok ∧ Q (h x y).val N2) E) E
def OpD (r : R2) (h : D → D → PV) : Prop := ∀ (F : Addr → Prop) (H : Hp) (x y : D) (v w : V) (fa fb : List Addr) (Q : VK), Rp H x v fa → Rp H y w fb → (∀ p ∈ fa, F p) → (∀ p ∈ fb, F p) → (h x y).ok →
  (∀ u H' fp, Ex H H' → Rp H' (h x y).val u fp → Cl.cln.ok F H fp → Q u H') → r v w H Q
theorem de_bin {a b : Expr} {op : Operator} {r : R2} {h : D → D → PV} {w u : WE} (ho : OpR X (binaryOp op) r) (hd : OpD r h) (ha : DE X E a w) (hb : DE X E b u) : DE X E (.BinOp a op b pos) (w2 h w u) := by
  refine pe_imp (pe_op ho ha hb) fun σ H Q h => ?_
  obtain ⟨δ, N, F, P, Q', E', o, q', q, qe⟩ := h
  refine ⟨δ, N, F, P, _, E', o, q', fun v H1 F1 P1 d N1 fp t1 o1 r1 k1 q1 => ⟨δ, N1, F1, P1, _, E', o1, q1, fun v2 H2 F2 P2 d2 N2 fq t2 o2 r2 k2 q2 => ?_, qe.tr t1⟩, qe⟩
  refine hd F2 H2 d d2 v v2 fp fq Q (o1.keep t2 r1 k1) r2 (fun p hp => t2.fr p (k1 p hp)) k2 q2.1 fun z H3 fz e3 r3 k3 => ?_
  obtain ⟨o3, t3⟩ := cln_grow o2 e3 k3 (Rp.there _ _ _ r3)
  exact q z H3 _ _ _ N2 fz ((t1.trans t2).trans t3) o3 r3 (fun p hp => .inr hp) q2.2
theorem opd_int {C : Int → Int → Prop} {g : Int → Int → Int} : OpD (rI C fun i j => .int (g i j)) (bI C fun i j => .int (g i j)) :=
  fun F H x y v w fa fb Q rx ry _ _ ok q => ⟨toI x, toI y, rx.int_ ok.1, ry.int_ ok.2.1, ok.2.2, q _ H [] (Ex.refl _) ⟨rfl, rfl⟩ Cl.nil⟩
theorem de_addI {a b : Expr} {w u : WE} (ha : DE X E a w) (hb : DE X E b u) : DE X E (.BinOp a .Add b pos) (w2 (bI (fun _ _ => True) fun i j => .int (i + j)) w u) := de_bin (rI_of op_add) opd_int ha hb
theorem de_sub {a b : Expr} {w u : WE} (ha : DE X E a w) (hb : DE X E b u) : DE X E (.BinOp a .Sub b pos) (w2 (bI (fun _ _ => True) fun i j => .int (i - j)) w u) := de_bin (rI_of op_sub) opd_int ha hb
theorem de_mul {a b : Expr} {w u : WE} (ha : DE X E a w) (hb : DE X E b u) : DE X E (.BinOp a .Mult b pos) (w2 (bI CMul fun i j => .int (i * j)) w u) := de_bin op_mul opd_int ha hb
theorem de_mod {a b : Expr} {w u : WE} (ha : DE X E a w) (hb : DE X E b u) : DE X E (.BinOp a .Mod b pos) (w2 (bI (fun _ j => 0 < j) fun i j => .int (i % j)) w u) := de_bin op_mod opd_int ha hb
def w2c (h : D → D → TV) (w u : WE) : WE := fun δ N Q E => w δ N (fun x N1 => u δ N1 (fun y N2 => (h x y).ok ∧ Q (.bl (h x y).b) N2) E) E
def w2t (h : D → D → TV) (w u : WE) : WT := fun δ N Q E => w δ N (fun x N1 => u δ N1 (fun y N2 => (h x y).ok ∧ Q (h x y).b N2) E) E
def CmpD (r : R2) (h : D → D → TV) : Prop := ∀ (H : Hp) (x y : D) (v w : V) (fa fb : List Addr) (Q : VK), Rp H x v fa → Rp H y w fb → (h x y).ok → Q (.bl (h x y).b) H → r v w H Q
theorem de_cmp {a b : Expr} {op : CmpOp} {r : R2} {h : D → D → TV} {w u : WE} (ho : OpR X (compareOp op) r) (hd : CmpD r h) (ha : DE X E a w) (hb : DE X E b u) (hm : behindInMarks op b = false) : DE X E (.Compare a [op] [b] pos) (w2c h w u) := by
  refine pe_imp (pe_cmpR ho ha hb hm) fun σ H Q hh => ?_
  obtain ⟨δ, N, F, P, Q', E', o, q', q, qe⟩ := hh
  refine ⟨δ, N, F, P, _, E', o, q', fun v H1 F1 P1 d N1 fp t1 o1 r1 k1 q1 => ⟨δ, N1, F1, P1, _, E', o1, q1, fun v2 H2 F2 P2 d2 N2 fq t2 o2 r2 k2 q2 => ?_, qe.tr t1⟩, qe⟩
  exact hd H2 d d2 v v2 fp fq Q (o1.keep t2 r1 k1) r2 q2.1 (q _ H2 F2 P2 (.bl (h d d2).b) N2 [] (t1.trans t2) o2 ⟨rfl, rfl⟩ (by simp) q2.2)
theorem dte_cmp {a b : Expr} {op : CmpOp} {r : R2} {h : D → D → TV} {w u : WE} (ho : OpR X (compareOp op) r) (hd : CmpD r h) (ha : DE X E a w) (hb : DE X E b u) (hm : behindInMarks op b = false) : DTE X E (.Compare a [op] [b] pos) (w2t h w u) := by
  refine pt_imp (pt_cmpR ho ha hb hm) fun σ H Q hh => ?_
  obtain ⟨δ, N, F, P, Q', E', o, q', q, qe⟩ := hh
  refine ⟨δ, N, F, P, _, E', o, q', fun v H1 F1 P1 d N1 fp t1 o1 r1 k1 q1 => ⟨δ, N1, F1, P1, _, E', o1, q1, fun v2 H2 F2 P2 d2 N2 fq t2 o2 r2 k2 q2 => ?_, qe.tr t1⟩, qe⟩
  exact hd H2 d d2 v v2 fp fq _ (o1.keep t2 r1 k1) r2 q2.1 ⟨_, rfl, q _ H2 F2 P2 N2 (t1.trans t2) o2 q2.2⟩
theorem cmpd_int {g : Int → Int → Bool} : CmpD (rI0 fun i j => .bl (g i j)) (cI g) := fun H x y v w fa fb Q rx ry ok q => ⟨_, _, rx.int_ ok.1, ry.int_ ok.2, q⟩
theorem cmpd_eq {K : PySem.W.Frag} : CmpD (rEqD K) (eqT 8) := fun H x y v w fa fb Q rx ry ok q => ⟨toPy x, toPy y, Rp.dp 8 _ _ _ rx ok.1, Rp.dp 8 _ _ _ ry ok.2, ok.1.shaped (by decide), ok.2.shaped (by decide), q⟩
theorem cmpd_ne {K : PySem.W.Frag} : CmpD (rNeD K) (neT 8) := fun H x y v w fa fb Q rx ry ok q => ⟨toPy x, toPy y, Rp.dp 8 _ _ _ rx ok.1, Rp.dp 8 _ _ _ ry ok.2, ok.1.shaped (by decide), ok.2.shaped (by decide), q⟩
theorem dte_lt {a b : Expr} {w u : WE} (ha : DE X E a w) (hb : DE X E b u) : DTE X E (.Compare a [.Lt] [b] pos) (w2t (cI fun i j => decide (i < j)) w u) := dte_cmp op_lt cmpd_int ha hb (nomark _)
theorem dte_le {a b : Expr} {w u : WE} (ha : DE X E a w) (hb : DE X E b u) : DTE X E (.Compare a [.LtE] [b] pos) (w2t (cI fun i j => decide (i ≤ j)) w u) := dte_cmp op_le cmpd_int ha hb (nomark _)
theorem dte_gt {a b : Expr} {w u : WE} (ha : DE X E a w) (hb : DE X E b u) : DTE X E (.Compare a [.Gt] [b] pos) (w2t (cI fun i j => decide (j < i)) w u) := dte_cmp op_gt cmpd_int ha hb (nomark _)
theorem dte_ge {a b : Expr} {w u : WE} (ha : DE X E a w) (hb : DE X E b u) : DTE X E (.Compare a [.GtE] [b] pos) (w2t (cI fun i j => decide (j ≤ i)) w u) := dte_cmp op_ge cmpd_int ha hb (nomark _)
theorem dte_eq {a b : Expr} {w u : WE} (hu : X.A.units + 64 < cLine) (ha : DE X E a w) (hb : DE X E b u) : DTE X E (.Compare a [.Eq] [b] pos) (w2t (eqT 8) w u) := dte_cmp (op_eqD hu) cmpd_eq ha hb (nomark _)
theorem dte_ne {a b : Expr} {w u : WE} (hu : X.A.units + 64 < cLine) (ha : DE X E a w) (hb : DE X E b u) : DTE X E (.Compare a [.NotEq] [b] pos) (w2t (neT 8) w u) := dte_cmp (op_neD hu) cmpd_ne ha hb (nomark _)
theorem de_lt {a b : Expr} {w u : WE} (ha : DE X E a w) (hb : DE X E b u) : DE X E (.Compare a [.Lt] [b] pos) (w2c (cI fun i j => decide (i < j)) w u) := de_cmp op_lt cmpd_int ha hb (nomark _)
theorem de_gt {a b : Expr} {w u : WE} (ha : DE X E a w) (hb : DE X E b u) : DE X E (.Compare a [.Gt] [b] pos) (w2c (cI fun i j => decide (j < i)) w u) := de_cmp op_gt cmpd_int ha hb (nomark _)
theorem de_eq {a b : Expr} {w u : WE} (hu : X.A.units + 64 < cLine) (ha : DE X E a w) (hb : DE X E b u) : DE X E (.Compare a [.Eq] [b] pos) (w2c (eqT 8) w u) := de_cmp (op_eqD hu) cmpd_eq ha hb (nomark _)
abbrev DWE (X : Cx) (E : XK) (e : Expr) (w : WT) : Prop := PW X e (tDT E w)
def wAnd (t u : WT) : WT := fun δ N Q E => t δ N (fun b N1 => if b = true then u δ N1 Q E else Q false N1) E
def wOr (t u : WT) : WT := fun δ N Q E => t δ N (fun b N1 => if b = true then Q true N1 else u δ N1 Q E) E
def wNot (t : WT) : WT := fun δ N Q E => t δ N (fun b N1 => Q (!b) N1) E
theorem dwe_and1 {a : Expr} {w : WT} (h : DTE X E a w) : DWE X E (.BoolOp .And [a] pos) w := pw_and1 h
theorem dwe_or1 {a : Expr} {w : WT} (h : DTE X E a w) : DWE X E (.BoolOp .Or [a] pos) w := pw_or1 h
theorem dwe_and {a b : Expr} {rest : List Expr} {w u : WT} (ha : DTE X E a w) (hb : DWE X E (.BoolOp .And (b :: rest) pos) u) : DWE X E (.BoolOp .And (a :: b :: rest) pos) (wAnd w u) := by
  refine pw_imp (pw_and ha hb) fun σ H Q h => ?_
  obtain ⟨δ, N, F, P, Q', E', o, q', q, qe⟩ := h
  refine ⟨δ, N, F, P, _, E', o, q', fun b H1 F1 P1 N1 t1 o1 q1 => ?_, qe⟩
  cases b with
  | true =>
    refine (if_pos rfl).mpr ?_
    exact ⟨δ, N1, F1, P1, Q', E', o1, by simpa using q1, fun b2 H2 F2 P2 N2 t2 o2 q2 => q b2 H2 F2 P2 N2 (t1.trans t2) o2 q2, qe.tr t1⟩
  | false =>
    refine (if_neg Bool.false_ne_true).mpr ?_
    exact q false H1 F1 P1 N1 t1 o1 (by simpa using q1)
theorem dwe_or {a b : Expr} {rest : List Expr} {w u : WT} (ha : DTE X E a w) (hb : DWE X E (.BoolOp .Or (b :: rest) pos) u) : DWE X E (.BoolOp .Or (a :: b :: rest) pos) (wOr w u) := by
  refine pw_imp (pw_or ha hb) fun σ H Q h => ?_
  obtain ⟨δ, N, F, P, Q', E', o, q', q, qe⟩ := h
  refine ⟨δ, N, F, P, _, E', o, q', fun b H1 F1 P1 N1 t1 o1 q1 => ?_, qe⟩
  cases b with
  | false =>
    refine (if_neg Bool.false_ne_true).mpr ?_
    exact ⟨δ, N1, F1, P1, Q', E', o1, by simpa using q1, fun b2 H2 F2 P2 N2 t2 o2 q2 => q b2 H2 F2 P2 N2 (t1.trans t2) o2 q2, qe.tr t1⟩
  | true =>
    refine (if_pos rfl).mpr ?_
    exact q true H1 F1 P1 N1 t1 o1 (by simpa using q1)
theorem dte_not {a : Expr} {w : WT} (h : DTE X E a w) : DTE X E (.UnaryOp .Not a pos) (wNot w) := by
  refine pt_imp (pt_not h) fun σ H Q h => ?_
  obtain ⟨δ, N, F, P, Q', E', o, q', q, qe⟩ := h
  exact ⟨δ, N, F, P, _, E', o, q', fun b H1 F1 P1 N1 t1 o1 q1 => q (!b) H1 F1 P1 N1 t1 o1 q1, qe⟩
def wTV (w : WE) : WT := fun δ N Q E => w δ N (fun d N1 => IsB d ∧ Q (toB d) N1) E
theorem dte_val {e : Expr} {w : WE} (h : DE X E e w) (he : ∀ whole, isTrue e X.env whole = (do let v ← whole; standAt e.pos; holding [v] (truthy v)) := by intro _; rfl) : DTE X E e (wTV w) := by
  refine pt_imp (pt_val h he) fun σ H Q h => ?_
  obtain ⟨δ, N, F, P, Q', E', o, q', q, qe⟩ := h
  exact ⟨δ, N, F, P, _, E', o, q', fun v H1 F1 P1 d N1 fp t1 o1 r1 k1 q1 => ⟨_, r1.bl_ q1.1, q _ H1 F1 P1 N1 t1 o1 q1.2⟩, qe⟩
def wIf (t : WT) (w u : WE) : WE := fun δ N Q E => t δ N (fun b N1 => if b = true then w δ N1 Q E else u δ N1 Q E) E
theorem de_if {e a b : Expr} {t : WT} {w u : WE} (ht : DTE X E e t) (ha : DE X E a w) (hb : DE X E b u) : DE X E (.IfExp e a b pos) (wIf t w u) := by
  refine pe_imp (pe_ifExp ht ha hb) fun σ H Q h => ?_
  obtain ⟨δ, N, F, P, Q', E', o, q', q, qe⟩ := h
  refine ⟨δ, N, F, P, _, E', o, q', fun b H1 F1 P1 N1 t1 o1 q1 => ?_, qe⟩
  cases b with
  | true =>
    refine (if_pos rfl).mpr ?_
    exact ⟨δ, N1, F1, P1, Q', E', o1, by simpa using q1, fun v H2 F2 P2 d N2 fp t2 o2 r k q2 => q v H2 F2 P2 d N2 fp (t1.trans t2) o2 r k q2, qe.tr t1⟩
  | false =>
    refine (if_neg Bool.false_ne_true).mpr ?_
    exact ⟨δ, N1, F1, P1, Q', E', o1, by simpa using q1, fun v H2 F2 P2 d N2 fp t2 o2 r k q2 => q v H2 F2 P2 d N2 fp (t1.trans t2) o2 r k q2, qe.tr t1⟩
theorem opd_ix {K : PySem.W.Frag} : OpD (fun x y H Q => rIxL K x y H Q ∨ rIxT K x y H Q) ixQ := fun F H x y v w fa fb Q rx ry ka kb ⟨o3, o4, o5⟩ q => by
  obtain ⟨d, ed⟩ := Option.isSome_iff_exists.mp o5
  have q' : ∀ u H' fp, Ex H H' → Rp H' d u fp → Cl.cln.ok F H fp → Q u H' := fun u H' fp e r k => q u H' fp e (by simp only [ixQ, ed]; exact r) k
  have hw := ry.int_ o4
  subst hw
  rcases o3.eq with e | e
  · rw [e] at rx
    obtain ⟨p, vs, f, rfl, hp, rl, rfl⟩ := rx
    obtain ⟨u, fu, h1, h2, h3, h4⟩ := rl.at ed
    exact .inl ⟨p, vs, _, u, rfl, rfl, SqL.of hp, h1, q' u H fu (Ex.refl _) h2 fun z hz => .inl (ka z (by simp [h3 z hz]))⟩
  · rw [e] at rx
    obtain ⟨p, vs, rfl, hp, rl⟩ := rx
    obtain ⟨u, fu, h1, h2, h3, h4⟩ := rl.at ed
    exact .inr ⟨p, vs, _, u, rfl, rfl, SqT.of hp, h1, q' u H fu (Ex.refl _) h2 fun z hz => .inl (ka z (h3 z hz))⟩
theorem de_ix {a b : Expr} {w u : WE} (ha : DE X E a w) (hb : DE X E b u) (hs : PlainIx b := by exact fun _ _ => rfl) : DE X E (.Subscript a b pos) (w2 ixQ w u) := by
  refine pe_imp (pe_ix (ix_list.or ix_tup) ha hb hs) fun σ H Q h => ?_
  obtain ⟨δ, N, F, P, Q', E', o, q', q, qe⟩ := h
  refine ⟨δ, N, F, P, _, E', o, q', fun v H1 F1 P1 d N1 fp t1 o1 r1 k1 q1 => ⟨δ, N1, F1, P1, _, E', o1, q1, fun v2 H2 F2 P2 d2 N2 fq t2 o2 r2 k2 q2 => ?_, qe.tr t1⟩, qe⟩
  refine opd_ix F2 H2 d d2 v v2 fp fq Q (o1.keep t2 r1 k1) r2 (fun p hp => t2.fr p (k1 p hp)) k2 q2.1 fun z H3 fz e3 r3 k3 => ?_
  obtain ⟨o3, t3⟩ := cln_grow o2 e3 k3 (Rp.there _ _ _ r3)
  exact q z H3 _ _ _ N2 fz ((t1.trans t2).trans t3) o3 r3 (fun p hp => .inr hp) q2.2
def wTup (w : WA) : WE := fun δ N Q E => w δ N (fun ds N1 => ds.length ≤ SZ ∧ Q (.tup ds) N1) E
def wLst (w : WA) : WE := fun δ N Q E => w δ N (fun ds N1 => ds.length ≤ SZ ∧ Q (.lst ds) N1) E
theorem de_tup {es : List Expr} {w : WA} {x1} (h : DAE X E es w) : DE X E (.Tuple es x1 pos) (wTup w) := by
  refine pe_imp (pe_tup h) fun σ H Q h => ?_
  obtain ⟨δ, N, F, P, Q', E', o, q', q, qe⟩ := h
  refine ⟨δ, N, F, P, _, E', o, q', fun vs H1 F1 P1 ds N1 fp t1 o1 r1 k1 q1 => ⟨sz (by rw [← r1.length]; exact q1.1), fun p hp => ?_⟩, qe⟩
  obtain ⟨o2, t2⟩ := o1.ex (Ex.new (o := .tup vs) hp)
  exact q _ _ F1 P1 (.tup ds) N1 fp (t1.trans t2) o2 ⟨p, vs, rfl, upd_same, r1.ex (Ex.new hp)⟩ k1 q1.2
theorem de_lst {es : List Expr} {w : WA} (h : DAE X E es w) : DE X E (.List es pos) (wLst w) := by
  refine pe_imp (pe_lst h) fun σ H Q h => ?_
  obtain ⟨δ, N, F, P, Q', E', o, q', q, qe⟩ := h
  refine ⟨δ, N, F, P, _, E', o, q', fun vs H1 F1 P1 ds N1 fp t1 o1 r1 k1 q1 => ⟨sz (by rw [← r1.length]; exact q1.1), fun p hp => ?_⟩, qe⟩
  obtain ⟨o2, t2⟩ := o1.grow (Ex.new (o := .lst vs) hp) (fun z => z = p) fun z hz => by subst hz; exact ⟨.inr hp, _, upd_same⟩
  exact q _ _ _ P1 (.lst ds) N1 (p :: fp) (t1.trans t2) o2 ⟨p, vs, fp, rfl, upd_same, r1.ex (Ex.new hp), rfl⟩ (fun z hz => (List.mem_cons.mp hz).elim (fun e => .inr e) fun hz => .inl (k1 z hz)) q1.2
end
end DL
set_option maxHeartbeats 4000000
namespace DL
open PySem L2

abbrev SpD := List D → Nm → (D → Nm → Prop) → ED → Prop
def spM (n : Nat) (sp : SpD) : Sp := fun vs H Q E => ∃ ds N F P Q' E' fps, ds.length = n ∧ (∃ fpm, Wf N F P H fpm) ∧ RpL H ds vs fps ∧ (∀ p ∈ fps, F p) ∧ sp ds N Q' E' ∧
  (∀ v H' F' P' d N' fp, Tr F P H F' P' H' → (∃ fpm, Wf N' F' P' H' fpm) → Rp H' d v fp → (∀ p ∈ fp, F' p) → Q' d N' → Q v H') ∧ EC E E' F P H
section
variable {X : Cx} {E : XK} {c c1 c2 c3 : Cl} {pos p : Pos} {x : Str} {k n : Nat} {ps : List Str} {sp : SpD} {φ : List D → Nm → PV}
theorem Ok.after {δ : Loc} {N N' : Nm} {F P F' P' : Addr → Prop} {σ : St} {H H' : Hp} (o : Ok δ N F P σ H) (t : Tr F P H F' P' H') (w : ∃ fpm, Wf N' F' P' H' fpm) : Ok δ N' F' P' σ H' :=
  ⟨w, o.sr.tr o t fun p hp => let ⟨_, w⟩ := w; (w.fr p hp).2⟩
def wCall (n : Nat) (sp : SpD) (w : WA) : WE := fun δ N Q E => w δ N (fun ds N1 => ds.length = n ∧ sp ds N1 Q E) E
theorem de_call {e : Expr} {es : List Expr} {w : WA} (h : HasX X x k ps (spM n sp)) (hr : Room k X.A) (hg : Gl X x) (hx : Passes (L2.CX X.prog X.w) X E) (ha : DAE X E (e :: es) w) (hdb : (x == ("__debug__" : Str)) = false := by decide)
    (he : starEach (e :: es) X.env = (false, eval e X.env) :: starEach es X.env := by rfl) (hpl : (backTo pos (starEach es X.env)).any (·.1) = false := by rfl) : DE X E (.Call (.Name x p) (e :: es) [] pos) (wCall n sp w) := by
  obtain ⟨f', fd, Fn, hm, hk, hb⟩ := h.ex
  refine pe_imp (pe_call Fn hr hg hm hk hb .nil hx ha hdb he hpl) fun σ H Q h => ?_
  obtain ⟨δ, N, F, P, Q', E', o, q', q, qe⟩ := h
  refine ⟨δ, N, F, P, _, E', o, q', fun vs H1 F1 P1 ds N1 fp t1 o1 r1 k1 q1 => ?_, qe⟩
  show spM n sp (vs ++ []) H1 Q E
  rw [List.append_nil]
  refine ⟨ds, N1, F1, P1, Q', E', fp, q1.1, o1.wf, r1, k1, q1.2, fun v H2 F2 P2 d N2 fq t2 w2 r2 k2 q2 => ?_, qe.tr t1⟩
  exact q v H2 F2 P2 d N2 fq (t1.trans t2) (o1.after t2 w2) r2 k2 q2
def wCallP (n : Nat) (φ : List D → Nm → PV) (w : WA) : WE := fun δ N Q E => w δ N (fun ds N1 => ds.length = n ∧ (φ ds N1).ok ∧ Q (φ ds N1).val N1) E
theorem de_callP {e : Expr} {es : List Expr} {w : WA} (h : HasX X x k ps (spP n φ)) (hr : Room k X.A) (hg : Gl X x) (ha : DAE X E (e :: es) w) (hdb : (x == ("__debug__" : Str)) = false := by decide)
    (he : starEach (e :: es) X.env = (false, eval e X.env) :: starEach es X.env := by rfl) (hpl : (backTo pos (starEach es X.env)).any (·.1) = false := by rfl) : DE X E (.Call (.Name x p) (e :: es) [] pos) (wCallP n φ w) := by
  obtain ⟨f', fd, Fn, hm, hk, hb⟩ := h.ex
  refine pe_imp (pe_call Fn hr hg hm hk hb .nil passL ha hdb he hpl) fun σ H Q h => ?_
  obtain ⟨δ, N, F, P, Q', E', o, q', q, qe⟩ := h
  refine ⟨δ, N, F, P, _, E', o, q', fun vs H1 F1 P1 ds N1 fp t1 o1 r1 k1 q1 => ?_, qe⟩
  show spP n φ (vs ++ []) H1 Q E0
  rw [List.append_nil]
  refine ⟨ds, N1, fp, r1, o1.nr, q1.1, q1.2.1, fun v H2 fq e2 r2 k2 => ?_⟩
  obtain ⟨o2, t2⟩ := cln_grow (F := F1) o1 e2 (Cl.frs_ (c := .cln) ⟨k2.1, k2.2⟩) (Rp.there _ _ _ r2)
  exact q v H2 _ P1 _ N1 fq (t1.trans t2) o2 r2 (fun p hp => .inr hp) q1.2.2

structure EndD where
  nx : Loc → Nm → Prop
  rt : D → Nm → Prop
  bk : Loc → Nm → Prop := fun _ _ => False
  ct : Loc → Nm → Prop := fun _ _ => False
  ex : ED := E9
abbrev WS := EndD → Loc → Nm → Prop
def SC (K : Loc → Nm → Prop) (k : St → Hp → Prop) (F P : Addr → Prop) (H : Hp) : Prop := ∀ σ' H' F' P' δ' N', Tr F P H F' P' H' → Ok δ' N' F' P' σ' H' → K δ' N' → k σ' H'
def RtC (rc : Bool) (F' P' : Addr → Prop) (H : Hp) (fp : List Addr) : Prop := if rc = true then fp.Nodup ∧ ∀ p ∈ fp, H p = none ∧ ¬ P' p ∧ ¬ F' p else ∀ p ∈ fp, F' p
def RC (rc : Bool) (K : D → Nm → Prop) (k : VK) (F P : Addr → Prop) (H : Hp) : Prop := ∀ v H' F' P' d N' fp, Tr F P H F' P' H' → (∃ fpm, Wf N' F' P' H' fpm) → Rp H' d v fp → RtC rc F' P' H fp → K d N' → k v H'
theorem SC.tr {K : Loc → Nm → Prop} {k : St → Hp → Prop} {F P F1 P1 : Addr → Prop} {H H1 : Hp} (h : SC K k F P H) (t : Tr F P H F1 P1 H1) : SC K k F1 P1 H1 := fun σ' H' F' P' δ' N' t' o q => h σ' H' F' P' δ' N' (t.trans t') o q
theorem Tr.back {F P F1 P1 : Addr → Prop} {H H1 : Hp} (t : Tr F P H F1 P1 H1) {p : Addr} (h : H1 p = none) : H p = none := by
  cases q : H p with
  | none => rfl
  | some o => obtain ⟨o', h'⟩ := t.th p o q; rw [h] at h'; cases h'
theorem RC.tr {rc : Bool} {K : D → Nm → Prop} {k : VK} {F P F1 P1 : Addr → Prop} {H H1 : Hp} (h : RC rc K k F P H) (t : Tr F P H F1 P1 H1) : RC rc K k F1 P1 H1 := fun v H' F' P' d N' fp t' w r rt q => h v H' F' P' d N' fp (t.trans t') w r (by
  cases rc with
  | true =>
    have rt : fp.Nodup ∧ ∀ p ∈ fp, H1 p = none ∧ ¬ P' p ∧ ¬ F' p := by simpa [RtC] using rt
    show RtC true F' P' H fp
    unfold RtC
    rw [if_pos rfl]
    exact ⟨rt.1, fun p hp => ⟨t.back (rt.2 p hp).1, (rt.2 p hp).2⟩⟩
  | false =>
    have rt : ∀ p ∈ fp, F' p := by simpa [RtC] using rt
    show RtC false F' P' H fp
    unfold RtC
    rw [if_neg Bool.false_ne_true]
    exact rt) q
structure SEnds (E : XK) (rc : Bool) (ED_ : EndD) (D : Ends) (F P : Addr → Prop) (H : Hp) : Prop where
  nx : SC ED_.nx D.nx F P H
  bk : SC ED_.bk D.bk F P H
  ct : SC ED_.ct D.ct F P H
  rt : RC rc ED_.rt D.rt F P H
  ex : EC E ED_.ex F P H
theorem SEnds.tr {rc : Bool} {K : EndD} {D : Ends} {F P F1 P1 : Addr → Prop} {H H1 : Hp} (h : SEnds E rc K D F P H) (t : Tr F P H F1 P1 H1) : SEnds E rc K D F1 P1 H1 := ⟨h.nx.tr t, h.bk.tr t, h.ct.tr t, h.rt.tr t, h.ex.tr t⟩
def tDS (E : XK) (rc : Bool) (w : WS) : TS := fun D σ H => ∃ δ N F P K, Ok δ N F P σ H ∧ w K δ N ∧ SEnds E rc K D F P H
abbrev DS (X : Cx) (E : XK) (rc : Bool) (s : Stmt) (w : WS) : Prop := PS X s (tDS E rc w)
abbrev DSs (X : Cx) (E : XK) (rc : Bool) (s : List Stmt) (w : WS) : Prop := PSs X s (tDS E rc w)
variable {rc : Bool} {s : Stmt} {ss : List Stmt} {w u : WS}
def sNext : WS := fun K δ N => K.nx δ N
def sSeq (w u : WS) : WS := fun K δ N => w { K with nx := u K } δ N
theorem dss_nil : DSs X E rc [] sNext := pss_imp pss_nil fun D σ H h => by
  obtain ⟨δ, N, F, P, K, o, q, e⟩ := h
  exact e.nx σ H F P δ N Tr.refl o q
theorem dss_cons (h : DS X E rc s w) (k : DSs X E rc ss u) : DSs X E rc (s :: ss) (sSeq w u) := pss_imp (pss_cons h k) fun D σ H h => by
  obtain ⟨δ, N, F, P, K, o, q, e⟩ := h
  exact ⟨δ, N, F, P, { K with nx := u K }, o, q, fun σ' H' F' P' δ' N' t o' q' => ⟨δ', N', F', P', K, o', q', e.tr t⟩, e.bk, e.ct, e.rt, e.ex⟩
theorem dss_one (h : DS X E rc s w) : DSs X E rc [s] w := pss_one h
theorem ds_pass : DS X E rc (.Pass pos) sNext := ps_imp ps_pass fun D σ H h => by
  obtain ⟨δ, N, F, P, K, o, q, e⟩ := h
  exact e.nx σ H F P δ N Tr.refl o q
theorem ds_never {s : Stmt} : DS X E rc s (fun _ _ _ => False) := ps_imp ps_never fun D σ H h => by
  obtain ⟨δ, N, F, P, K, o, q, e⟩ := h
  exact q.elim
theorem dss_never {s : List Stmt} : DSs X E rc s (fun _ _ _ => False) := pss_imp pss_never fun D σ H h => by
  obtain ⟨δ, N, F, P, K, o, q, e⟩ := h
  exact q.elim
theorem ds_break : DS X E rc (.Break pos) (fun K δ N => K.bk δ N) := ps_imp ps_break fun D σ H h => by
  obtain ⟨δ, N, F, P, K, o, q, e⟩ := h
  exact e.bk σ H F P δ N Tr.refl o q
theorem ds_continue : DS X E rc (.Continue pos) (fun K δ N => K.ct δ N) := ps_imp ps_continue fun D σ H h => by
  obtain ⟨δ, N, F, P, K, o, q, e⟩ := h
  exact e.ct σ H F P δ N Tr.refl o q
def sDrop (w : WE) : WS := fun K δ N => w δ N (fun _ N1 => K.nx δ N1) K.ex
theorem ds_expr {e : Expr} {w : WE} (h : DE X E e w) (hs : swapsWith e none pos.line X.env = pure false := by rfl) : DS X E rc (.Expr e pos) (sDrop w) := ps_imp (ps_expr h hs) fun D σ H h => by
  obtain ⟨δ, N, F, P, K, o, q, e⟩ := h
  exact ⟨δ, N, F, P, _, K.ex, o, q, fun v H1 F1 P1 d N1 fp t1 o1 r1 k1 q1 => e.nx σ H1 F1 P1 δ N1 t1 o1 q1, e.ex⟩
def sAsg (w : WE) (G : GF) : WS := fun K δ N => w δ N (fun d N1 => (G d δ).ok ∧ K.nx (G d δ).loc N1) K.ex
theorem ds_asg {tg e : Expr} {sl : List Nat} {w : WE} {G : GF} (he : DE X E e w) (hg : DG X tg sl G) (hs : swapsWithSole [tg] e pos.line X.env = pure false := by rfl) (hw : swappedStores [tg] e X.env = pure none := by rfl)
    (h1 : (assignEach [tg] X.env).map (·.2) = [assign tg X.env] := by rfl) : DS X E rc (.Assign [tg] e pos) (sAsg w G) := ps_imp (ps_asg he hg hs hw h1) fun D σ H h => by
  obtain ⟨δ, N, F, P, K, o, q, e⟩ := h
  exact ⟨δ, N, F, P, _, K.ex, o, q, fun v H1 F1 P1 d N1 fp t1 o1 r1 k1 q1 => ⟨δ, F1, d, fp, o1.sr, r1, k1, q1.1, fun σ' s' _ _ => e.nx σ' H1 F1 P1 _ N1 t1 ⟨o1.wf, s'⟩ q1.2⟩, e.ex⟩
def sSet (i : Nat) (w : WE) : WS := fun K δ N => w δ N (fun d N1 => K.nx (δ.set i (some d)) N1) K.ex
theorem ds_set {i : Nat} {y : Str} {e : Expr} {w : WE} {pos' : Pos} (hN : X.N.Nodup) (hi : X.N[i]? = some y) (hx : L2.Loc X.env.scope y) (he : DE X E e w) (hs : swapsWith e (some (.Name y pos')) pos.line X.env = pure false := by rfl)
    (hf : X.fn y = true ∨ X.env.scope.names.lookup y = some .local := by first | exact .inl rfl | exact .inr rfl | assumption) : DS X E rc (.Assign [.Name y pos'] e pos) (sSet i w) := ps_imp (ps_set hN hi hx he hs hf) fun D σ H h => by
  obtain ⟨δ, N, F, P, K, o, q, e⟩ := h
  exact ⟨δ, N, F, P, _, K.ex, o, q, fun v H1 F1 P1 d N1 fp t1 o1 r1 k1 q1 => e.nx _ H1 F1 P1 _ N1 t1 ⟨o1.wf, o1.sr.set r1 k1⟩ q1, e.ex⟩
def sIf (t : WT) (w u : WS) : WS := fun K δ N => t δ N (fun b N1 => if b = true then w K δ N1 else u K δ N1) K.ex
theorem ds_if {e : Expr} {a b : List Stmt} {t : WT} (ht : DTE X E e t) (ha : DSs X E rc a w) (hb : DSs X E rc b u) : DS X E rc (.If e a b pos) (sIf t w u) := ps_imp (ps_if ht ha hb) fun D σ H h => by
  obtain ⟨δ, N, F, P, K, o, q, e⟩ := h
  refine ⟨δ, N, F, P, _, K.ex, o, q, fun b H1 F1 P1 N1 t1 o1 q1 => ?_, e.ex⟩
  cases b with
  | true =>
    refine (if_pos rfl).mpr ?_
    exact ⟨δ, N1, F1, P1, K, o1, by simpa using q1, e.tr t1⟩
  | false =>
    refine (if_neg Bool.false_ne_true).mpr ?_
    exact ⟨δ, N1, F1, P1, K, o1, by simpa using q1, e.tr t1⟩
def sRet (w : WE) : WS := fun K δ N => w δ N (fun d N1 => K.rt d N1) K.ex
theorem ds_ret {e : Expr} {w : WE} (h : DE X E e w) : DS X E false (.Return (some e) pos) (sRet w) := ps_imp (ps_ret h) fun D σ H h => by
  obtain ⟨δ, N, F, P, K, o, q, e⟩ := h
  exact ⟨δ, N, F, P, _, K.ex, o, q, fun v H1 F1 P1 d N1 fp t1 o1 r1 k1 q1 => e.rt v H1 F1 P1 d N1 fp t1 o1.wf r1 (by unfold RtC; rw [if_neg Bool.false_ne_true]; exact k1) q1, e.ex⟩
def sRetF (f : PF) : WS := fun K δ N => (f δ N).ok ∧ K.rt (f δ N).val N
theorem ds_retF {e : Expr} {f : PF} (h : DP X .frs e f) : DS X E true (.Return (some e) pos) (sRetF f) := ps_imp (ps_ret h) fun D σ H h => by
  obtain ⟨δ, N, F, P, K, o, ⟨ok, q⟩, e⟩ := h
  refine ⟨δ, N, F, o.sr, o.nr, ok, fun v H1 fp e1 r1 k1 => ?_⟩
  obtain ⟨o1, t1⟩ := o.ex e1
  refine e.rt v H1 F P _ N fp t1 o1.wf r1 ?_ q
  unfold RtC
  rw [if_pos rfl]
  refine ⟨k1.1, fun p hp => ⟨k1.2 p hp, fun z => ?_, fun z => ?_⟩⟩
  · obtain ⟨ob, h1, _⟩ := o.pr p z
    have h2 := k1.2 p hp
    rw [h1] at h2
    cases h2
  · obtain ⟨_, ob, h1⟩ := o.fr p z
    have h2 := k1.2 p hp
    rw [h1] at h2
    cases h2
def sRetN : WS := fun K _ N => K.rt .non N
theorem ds_retN : DS X E rc (.Return none pos) sRetN := ps_imp ps_retN fun D σ H h => by
  obtain ⟨δ, N, F, P, K, o, q, e⟩ := h
  exact e.rt .non H F P .non N [] Tr.refl o.wf ⟨rfl, rfl⟩ (by unfold RtC; split <;> simp) q
end
end DL
set_option maxHeartbeats 4000000
namespace DL
open PySem L2
section
variable {X : Cx} {E : XK} {c c1 c2 c3 : Cl} {pos p : Pos} {x : Str} {rc : Bool} {s : Stmt} {ss : List Stmt} {w u : WS} {tg : Expr}
def sWhile (t : TF) (w : WS) : WS := fun K δ N => ∃ I : Nat → Loc → Nm → Prop, (∃ m, I m δ N) ∧ ∀ m δ N, I m δ N → (t δ N).ok ∧
  ((t δ N).b = true → w { K with nx := fun δ' N' => ∃ m', m' < m ∧ I m' δ' N', ct := fun δ' N' => ∃ m', m' < m ∧ I m' δ' N', bk := K.nx } δ N) ∧ ((t δ N).b = false → K.nx δ N)
theorem ds_while {e : Expr} {body : List Stmt} {t : TF} (hp : PassesOwn (model X.prog X.w) X.A X.env X.xe) (ht : DT X e t) (hb : DSs X E rc body w) : DS X E rc (.While e body [] pos) (sWhile t w) := ps_imp (ps_while hp ht hb) fun D σ H h => by
  obtain ⟨δ, N, F, P, K, o, ⟨I, ⟨m0, i0⟩, turn⟩, e⟩ := h
  refine ⟨fun m σ1 H1 => ∃ δ1 N1 F1 P1, Tr F P H F1 P1 H1 ∧ Ok δ1 N1 F1 P1 σ1 H1 ∧ I m δ1 N1, ⟨m0, δ, N, F, P, Tr.refl, o, i0⟩, ?_⟩
  rintro m σ1 H1 ⟨δ1, N1, F1, P1, t1, o1, i1⟩
  obtain ⟨ok, hT, hF⟩ := turn m δ1 N1 i1
  refine ⟨δ1, N1, F1, o1.sr, o1.nr, ok, fun H2 e2 => ?_⟩
  obtain ⟨o2, t2⟩ := o1.ex e2
  cases eb : (t δ1 N1).b with
  | true =>
    refine (if_pos rfl).mpr ⟨fun σ' H' => ∃ m', m' < m ∧ ∃ δ1 N1 F1 P1, Tr F P H F1 P1 H' ∧ Ok δ1 N1 F1 P1 σ' H' ∧ I m' δ1 N1, fun σ' H' h => h, ?_⟩
    have again : ∀ {K' : Loc → Nm → Prop}, (∀ δ' N', K' δ' N' → ∃ m', m' < m ∧ I m' δ' N') → SC K' (fun σ' H' => ∃ m', m' < m ∧ ∃ δ1 N1 F1 P1, Tr F P H F1 P1 H' ∧ Ok δ1 N1 F1 P1 σ' H' ∧ I m' δ1 N1) F1 P1 H2 := fun {K'} hk σ' H' F' P' δ' N' t' o' q => by
      obtain ⟨m', hm, i'⟩ := hk δ' N' q
      exact ⟨m', hm, δ', N', F', P', (t1.trans t2).trans t', o', i'⟩
    exact ⟨δ1, N1, F1, P1, _, o2, hT eb, again (fun _ _ h => h), (e.nx.tr t1).tr t2, again (fun _ _ h => h), (e.rt.tr t1).tr t2, (e.ex.tr t1).tr t2⟩
  | false =>
    refine (if_neg Bool.false_ne_true).mpr ?_
    exact e.nx σ1 H2 F1 P1 δ1 N1 (t1.trans t2) o2 (hF eb)

def tIE (E : XK) (w : WA) : TI := fun σ H R => ∃ δ N F P Q' E', Ok δ N F P σ H ∧ w δ N Q' E' ∧ (∀ J H' F' P' items N' fs, Tr F P H F' P' H' → Ok δ N' F' P' σ H' → Walk J (fun H2 => Kp H' H2 fs) items fs → (∀ p ∈ fs, F' p) → Q' items N' → R J H') ∧ EC E E' F P H
abbrev DIE (X : Cx) (E : XK) (tg iter : Expr) (w : WA) : Prop := PI X tg iter (tIE E w)
theorem die_p {iter : Expr} {f : AF} (h : DI X .cln tg iter f) : DIE X E tg iter (wA f) := by
  refine pi_imp h fun σ H R h => ?_
  obtain ⟨δ, N, F, P, Q', E', o, ⟨ok, q'⟩, q, qe⟩ := h
  refine ⟨δ, N, F, o.sr, o.nr, ok, fun J H' fs e t k wk => ?_⟩
  obtain ⟨o2, t2⟩ := cln_grow o e k t
  exact q J H' _ P _ N fs t2 o2 wk (fun p hp => .inr hp) q'
def wR1 (w : WE) : WA := fun δ N Q E => w δ N (fun d N1 => IsI d ∧ -(2 ^ 62) ≤ toI d ∧ toI d < 2 ^ 62 ∧ Q ((rng 0 (toI d).toNat).map D.int) N1) E
theorem die_range1 {a : Expr} {w : WE} (hg : Gl X "range") (hm : X.mg "range" = none) (ha : DE X E a w) (hs : starEach [a] X.env = (false, eval a X.env) :: starEach [] X.env := by rfl) (hs' : starEach [a] X.env = [(false, eval a X.env)] := by rfl) : DIE X E tg (.Call (.Name "range" p) [a] [] pos) (wR1 w) := by
  refine pi_imp (pi_range1 hg hm (pa_cons ha pa_nil hs) hs') fun σ H R h => ?_
  obtain ⟨δ, N, F, P, Q', E', o, q', q, qe⟩ := h
  refine ⟨δ, N, F, P, _, E', o, q', fun v H1 F1 P1 d N1 fp t1 o1 r1 k1 q1 => ⟨_, by rw [r1.int_ q1.1], q1.2.1, q1.2.2.1, ?_⟩, qe⟩
  exact q _ H1 F1 P1 _ N1 [] t1 o1 walk_rng (by simp) q1.2.2.2
def loopD (G : GF) (w : WS) (K : EndD) : List D → Loc → Nm → Prop
  | [], δ, N => K.nx δ N
  | d :: ds, δ, N => (G d δ).ok ∧ w { K with nx := loopD G w K ds, ct := loopD G w K ds, bk := K.nx } (G d δ).loc N
def sFor (wi : WA) (G : GF) (w : WS) : WS := fun K δ N => wi δ N (fun items N1 => loopD G w K items δ N1) K.ex
theorem Ok.kp {δ : Loc} {N : Nm} {F P F' P' : Addr → Prop} {σ : St} {H H' : Hp} (o : Ok δ N F P σ H) (t : Tr F P H F' P' H') {fs : List Addr} (h : ∀ p ∈ fs, F p) : Kp H H' fs :=
  ⟨fun p vs q => t.st p _ q fun z => by obtain ⟨ob, h1, h2⟩ := o.pr p z; rw [q] at h1; cases h1; exact h2 _ rfl, fun p hp => by
    obtain ⟨n, ob, ho⟩ := o.fr p (h p hp)
    rw [ho, t.st p ob ho n]⟩
theorem ds_for {iter : Expr} {body : List Stmt} {wi : WA} {sl : List Nat} {G : GF} (hp : PassesOwn (model X.prog X.w) X.A X.env X.xe) (hc : X.calm = true) (hi : DIE X E tg iter wi) (hg : DG X tg sl G) (hb : DSs X E rc body w)
    (hs : ∀ x, foldedSetIterable iter X.env x = pure x := by intro _; rfl) : DS X E rc (.For tg iter body [] pos) (sFor wi G w) := ps_imp (ps_for hp hc hi hg hb hs) fun D σ H h => by
  obtain ⟨δ, N, F, P, K, o, q, e⟩ := h
  refine ⟨δ, N, F, P, _, K.ex, o, q, fun J H1 F1 P1 items N1 fs t1 o1 wk kf q1 => ?_, e.ex⟩
  refine ⟨fun i m σ' H' => m = items.length - i ∧ i ≤ items.length ∧ ∃ δ' N' F' P', Tr F1 P1 H1 F' P' H' ∧ Ok δ' N' F' P' σ' H' ∧ loopD G w K (items.drop i) δ' N', ⟨items.length, by simp, Nat.zero_le _, δ, N1, F1, P1, Tr.refl, o1, q1⟩, ?_⟩
  rintro i m σ' H' ⟨rfl, hi', δ', N', F', P', t', o', q'⟩
  obtain ⟨wgo, wstop⟩ := wk i H' (o1.kp t' kf)
  by_cases hlt : i < items.length
  · obtain ⟨d, hd⟩ : ∃ d, items[i]? = some d := ⟨items[i], by simp [hlt]⟩
    have edrop : items.drop i = d :: items.drop (i + 1) := by
      rw [List.drop_eq_getElem_cons hlt]
      congr 1
      have := List.getElem?_eq_getElem hlt
      rw [hd] at this; exact (Option.some.inj this).symm
    rw [edrop] at q'
    obtain ⟨og, qb⟩ := q'
    obtain ⟨go, yl⟩ := wgo d hd
    refine .inr ⟨go, fun σ2 H2 => ∃ δ' N' F' P', Tr F1 P1 H1 F' P' H2 ∧ Ok δ' N' F' P' σ2 H2 ∧ loopD G w K (items.drop (i + 1)) δ' N', fun σ2 H2 h => ⟨items.length - (i + 1), by omega, rfl, hlt, h⟩, fun v H2 y => ?_⟩
    obtain ⟨e2, f, rv, fsub⟩ := yl v H2 y
    obtain ⟨o2, t2⟩ := o'.ex e2
    refine ⟨δ', F', d, f, o2.sr, rv, fun p hp => t'.fr p (kf p (fsub p hp)), og, fun σ3 s3 _ _ => ?_⟩
    have o3 : Ok (G d δ').loc N' F' P' σ3 H2 := ⟨o2.wf, s3⟩
    have again : SC (loopD G w K (items.drop (i + 1))) (fun σ2 H2 => ∃ δ' N' F' P', Tr F1 P1 H1 F' P' H2 ∧ Ok δ' N' F' P' σ2 H2 ∧ loopD G w K (items.drop (i + 1)) δ' N') F' P' H2 := fun σ4 H4 F4 P4 δ4 N4 t4 o4 q4 =>
      ⟨δ4, N4, F4, P4, (t'.trans t2).trans t4, o4, q4⟩
    have e4 := ((e.tr t1).tr t').tr t2
    exact ⟨_, N', F', P', _, o3, qb, again, e4.nx, again, e4.rt, e4.ex⟩
  · have ei : i = items.length := by omega
    subst ei
    rw [List.drop_length] at q'
    exact .inl ⟨wstop (Nat.le_refl _), e.nx σ' H' F' P' δ' N' (t1.trans t') o' q'⟩

def updN (N : Nm) (a : Addr) (c : Cell) : Nm := fun b => if b = a then some c else N b
theorem updN_same {N : Nm} {a : Addr} {c : Cell} : updN N a c a = some c := by unfold updN; rw [if_pos rfl]
theorem updN_ne {N : Nm} {a b : Addr} {c : Cell} (h : b ≠ a) : updN N a c b = N b := by unfold updN; rw [if_neg h]
theorem updN_updN {N : Nm} {a : Addr} {c e : Cell} : updN (updN N a c) a e = updN N a e := by
  funext b; unfold updN; split <;> rfl
theorem updN_comm {N : Nm} {a b : Addr} {c e : Cell} (h : a ≠ b) : updN (updN N a c) b e = updN (updN N b e) a c := by
  funext z; unfold updN
  by_cases h1 : z = a
  · by_cases h2 : z = b
    · exact absurd (h1.symm.trans h2) h
    · rw [if_neg h2, if_pos h1, if_pos h1]
  · by_cases h2 : z = b
    · rw [if_pos h2, if_neg h1, if_pos h2]
    · rw [if_neg h2, if_neg h1, if_neg h1, if_neg h2]
theorem Wf.alloc {N : Nm} {F P : Addr → Prop} {H : Hp} {fpm : Addr → List Addr} {d : D} {a : Addr} {fp : List Addr} (w : Wf N F P H fpm) (r : Rp H d (.ref a) fp) (ha : a ∈ fp) (nd : fp.Nodup) (f1 : ∀ q ∈ fp, ¬ F q) (f2 : ∀ q ∈ fp, ∀ b c, N b = some c → q ∉ fpm b) :
    N a = none ∧ Wf (updN N a ⟨true, d⟩) F (fun q => P q ∨ q ∈ fp) H (fun b => if b = a then fp else fpm b) := by
  have hN : N a = none := by
    cases q : N a with
    | none => rfl
    | some c => exact absurd (w.cell a c q).2 (f2 a ha a c q)
  refine ⟨hN, ⟨fun b c h => ?_, fun b c h hw => ?_, fun b b' c e hne h hw h' p hp => ?_, fun p h => ⟨fun z => z.elim (w.fr p h).1 fun z => f1 p z h, (w.fr p h).2⟩, fun p h => h.elim (w.pr p) fun z => Rp.there _ _ _ r p z⟩⟩
  · by_cases hb : b = a
    · subst hb
      rw [updN_same] at h; cases h
      rw [if_pos rfl]
      exact ⟨r, ha⟩
    · rw [updN_ne hb] at h
      rw [if_neg hb]
      exact w.cell b c h
  · by_cases hb : b = a
    · subst hb
      rw [if_pos rfl]
      exact ⟨nd, fun p hp => .inr hp⟩
    · rw [updN_ne hb] at h
      rw [if_neg hb]
      exact ⟨(w.own b c h hw).1, fun p hp => .inl ((w.own b c h hw).2 p hp)⟩
  · by_cases hb : b = a
    · subst hb
      have hb' : b' ≠ b := fun z => hne z.symm
      rw [if_pos rfl] at hp
      rw [updN_ne hb'] at h'
      rw [if_neg hb']
      exact f2 p hp b' e h'
    · rw [updN_ne hb] at h
      rw [if_neg hb] at hp
      by_cases hb' : b' = a
      · subst hb'
        rw [if_pos rfl]
        exact fun z => f2 p z b c h hp
      · rw [updN_ne hb'] at h'
        rw [if_neg hb']
        exact w.sep b b' c e hne h hw h' p hp
def IsC : D → Prop | .lst _ => True | .dic _ _ => True | .obj _ _ _ _ => True | _ => False
theorem Rp.cell {H : Hp} {d : D} {v : V} {fp : List Addr} (h : Rp H d v fp) (k : IsC d) : ∃ a, v = .ref a ∧ a ∈ fp := by
  cases d <;> first
    | exact k.elim
    | (obtain ⟨p, vs, f, rfl, _⟩ := h; first | (obtain ⟨_, _, rfl⟩ := ‹_ ∧ _ ∧ _›; exact ⟨_, rfl, by simp⟩) | (obtain ⟨_, _, _, rfl⟩ := ‹_ ∧ _ ∧ _ ∧ _›; exact ⟨_, rfl, by simp⟩))
theorem Tr.alloc {F P : Addr → Prop} {H H1 : Hp} {fp : List Addr} (e : Ex H H1) (n : ∀ q ∈ fp, H q = none) : Tr F P H F (fun q => P q ∨ q ∈ fp) H1 :=
  ⟨fun _ h => h, fun p o h _ => e p o h, fun p o h => ⟨o, e p o h⟩, fun p h => h.imp id (n p), fun _ h => .inl h⟩
theorem Ok.alloc {δ : Loc} {N : Nm} {F P : Addr → Prop} {σ : St} {H H1 : Hp} {d : D} {a : Addr} {fp : List Addr} (o : Ok δ N F P σ H) (e : Ex H H1) (r : Rp H1 d (.ref a) fp) (ha : a ∈ fp) (nd : fp.Nodup) (new : ∀ q ∈ fp, H q = none) :
    N a = none ∧ Ok δ (updN N a ⟨true, d⟩) F (fun q => P q ∨ q ∈ fp) σ H1 ∧ Tr F P H F (fun q => P q ∨ q ∈ fp) H1 := by
  obtain ⟨fpm, w⟩ := o.wf
  have f2 : ∀ q ∈ fp, ∀ b c, N b = some c → q ∉ fpm b := fun q hq b c h z => by
    obtain ⟨ob, ho, _⟩ := Rp.there _ _ _ (w.cell b c h).1 q z
    rw [new q hq] at ho; cases ho
  have f1 : ∀ q ∈ fp, ¬ F q := fun q hq z => by
    obtain ⟨_, ob, ho⟩ := w.fr q z
    rw [new q hq] at ho; cases ho
  have w1 : Wf N F P H1 fpm := ⟨fun a c h => ⟨(w.cell a c h).1.ex e, (w.cell a c h).2⟩, w.own, w.sep, fun p h => ⟨(w.fr p h).1, let ⟨_, ob, ho⟩ := w.fr p h; ⟨ob, e p ob ho⟩⟩, fun p h => let ⟨ob, h1, h2⟩ := w.pr p h; ⟨ob, e p ob h1, h2⟩⟩
  obtain ⟨a1, a2⟩ := w1.alloc r ha nd f1 f2
  exact ⟨a1, ⟨⟨_, a2⟩, o.sr.ex e⟩, Tr.alloc e new⟩
def sSetM (i : Nat) (f : PF) : WS := fun K δ N => (f δ N).ok ∧ IsC (f δ N).val ∧ ∀ a, N a = none → K.nx (δ.set i (some (.ref a))) (updN N a ⟨true, (f δ N).val⟩)
theorem ds_setM {i : Nat} {y : Str} {e : Expr} {f : PF} {pos' : Pos} (hN : X.N.Nodup) (hi : X.N[i]? = some y) (hx : L2.Loc X.env.scope y) (he : DP X .frs e f) (hs : swapsWith e (some (.Name y pos')) pos.line X.env = pure false := by rfl)
    (hf : X.fn y = true ∨ X.env.scope.names.lookup y = some .local := by first | exact .inl rfl | exact .inr rfl | assumption) : DS X E rc (.Assign [.Name y pos'] e pos) (sSetM i f) := ps_imp (ps_set hN hi hx he hs hf) fun D σ H h => by
  obtain ⟨δ, N, F, P, K, o, ⟨ok, kc, q⟩, e⟩ := h
  refine ⟨δ, N, F, o.sr, o.nr, ok, fun v H1 fp e1 r1 k1 => ?_⟩
  obtain ⟨a, rfl, ha⟩ := r1.cell kc
  obtain ⟨h1, o1, t1⟩ := o.alloc e1 r1 ha k1.1 k1.2
  exact e.nx _ H1 F _ _ _ t1 ⟨o1.wf, o1.sr.set (d := .ref a) (fp := []) ⟨rfl, rfl⟩ (by simp)⟩ (q a h1)
def sParM (i j : Nat) (g : AF) : WS := fun K δ N => (g δ N).ok ∧ ∃ d1 d2, (g δ N).vals = [d1, d2] ∧ IsC d1 ∧ IsC d2 ∧ ∀ a b, a ≠ b → N a = none → N b = none → K.nx ((δ.set i (some (.ref a))).set j (some (.ref b))) (updN (updN N a ⟨true, d1⟩) b ⟨true, d2⟩)
theorem ds_parM {i j : Nat} {y z : Str} {a b : Expr} {g : AF} {px py pt : Pos} {kt k2 pt2} (hc : X.calm = true) (hN : X.N.Nodup) (hi : X.N[i]? = some y) (hj : X.N[j]? = some z) (hij : i ≠ j)
    (hx : X.env.scope.names.lookup y = some .local) (hy : X.env.scope.names.lookup z = some .local) (ha : DA X .frs [a, b] g)
    (hw : swappedStores [.Tuple [.Name y px, .Name z py] kt pt] (.Tuple [a, b] k2 pt2) X.env = pure (some [y, z]))
    (hs : swapsWithSole [.Tuple [.Name y px, .Name z py] kt pt] (.Tuple [a, b] k2 pt2) pos.line X.env = pure false := by rfl) :
    DS X E rc (.Assign [.Tuple [.Name y px, .Name z py] kt pt] (.Tuple [a, b] k2 pt2) pos) (sParM i j g) := ps_imp (ps_par hc hN hi hj hij hx hy ha hw hs) fun D σ H h => by
  obtain ⟨δ, N, F, P, K, o, ⟨ok, d1, d2, ev, k1, k2, q⟩, e⟩ := h
  refine ⟨δ, N, F, o.sr, o.nr, ok, fun vs H1 fp e1 r1 kk => ?_⟩
  rw [ev] at r1
  obtain ⟨v, vr, f, f', rfl, ra, rb, rfl⟩ := r1
  obtain ⟨v2, vr2, g1, g2, rfl, rb, rn, rfl⟩ := rb
  obtain ⟨rfl, rfl⟩ := rn
  rw [List.append_nil] at kk
  obtain ⟨nd1, nd2, nd3⟩ := List.nodup_append.mp kk.1
  obtain ⟨A, rfl, hA⟩ := ra.cell k1
  obtain ⟨B, rfl, hB⟩ := rb.cell k2
  obtain ⟨h1, o1, t1⟩ := o.alloc e1 ra hA nd1 fun p hp => kk.2 p (by simp [hp])
  obtain ⟨fpm, w1⟩ := o.wf
  have f1 : ∀ q ∈ f, ∀ b c, N b = some c → q ∉ fpm b := fun q hq b c h z => by
    obtain ⟨ob, ho, _⟩ := Rp.there _ _ _ (w1.cell b c h).1 q z
    rw [kk.2 q (by simp [hq])] at ho; cases ho
  have f2 : ∀ q ∈ g1, ∀ b c, N b = some c → q ∉ fpm b := fun q hq b c h z => by
    obtain ⟨ob, ho, _⟩ := Rp.there _ _ _ (w1.cell b c h).1 q z
    rw [kk.2 q (by simp [hq])] at ho; cases ho
  have nF : ∀ q, q ∈ f ∨ q ∈ g1 → ¬ F q := fun q hq z => by
    obtain ⟨_, ob, ho⟩ := w1.fr q z
    rw [kk.2 q (by rcases hq with h | h <;> simp [h])] at ho; cases ho
  have w1' : Wf N F P H1 fpm := ⟨fun a c h => ⟨(w1.cell a c h).1.ex e1, (w1.cell a c h).2⟩, w1.own, w1.sep, fun p h => ⟨(w1.fr p h).1, let ⟨_, ob, ho⟩ := w1.fr p h; ⟨ob, e1 p ob ho⟩⟩, fun p h => let ⟨ob, h1, h2⟩ := w1.pr p h; ⟨ob, e1 p ob h1, h2⟩⟩
  obtain ⟨_, w2⟩ := w1'.alloc ra hA nd1 (fun q hq => nF q (.inl hq)) f1
  obtain ⟨h3, w3⟩ := w2.alloc rb hB nd2 (fun q hq => nF q (.inr hq)) fun q hq b c h z => by
    by_cases hb : b = A
    · subst hb
      rw [if_pos rfl] at z
      exact nd3 q z q hq rfl
    · rw [updN_ne hb] at h
      rw [if_neg hb] at z
      exact f2 q hq b c h z
  have hAB : A ≠ B := fun z => nd3 A hA B hB z
  have hNB : N B = none := by rw [updN_ne (fun z => hAB z.symm)] at h3; exact h3
  have t3 : Tr F P H F (fun q => (P q ∨ q ∈ f) ∨ q ∈ g1) H1 := ⟨fun _ h => h, fun p o h _ => e1 p o h, fun p o h => ⟨o, e1 p o h⟩, fun p h => by
    rcases h with (h | h) | h
    · exact .inl h
    · exact .inr (kk.2 p (by simp [h]))
    · exact .inr (kk.2 p (by simp [h])), fun _ h => .inl h⟩
  refine ⟨_, _, rfl, e.nx _ H1 F _ _ _ t3 ⟨⟨_, w3⟩, ?_⟩ (q A B hAB h1 hNB)⟩
  exact ((o.sr.ex e1).set (d := .ref A) (fp := []) ⟨rfl, rfl⟩ (by simp)).set (d := .ref B) (fp := []) ⟨rfl, rfl⟩ (by simp)
def sPar (i j : Nat) (w : WA) : WS := fun K δ N => w δ N (fun ds N1 => ∃ d1 d2, ds = [d1, d2] ∧ K.nx ((δ.set i (some d1)).set j (some d2)) N1) K.ex
theorem ds_par {i j : Nat} {y z : Str} {a b : Expr} {g : WA} {px py pt : Pos} {kt k2 pt2} (hc : X.calm = true) (hN : X.N.Nodup) (hi : X.N[i]? = some y) (hj : X.N[j]? = some z) (hij : i ≠ j)
    (hx : X.env.scope.names.lookup y = some .local) (hy : X.env.scope.names.lookup z = some .local) (ha : DAE X E [a, b] g)
    (hw : swappedStores [.Tuple [.Name y px, .Name z py] kt pt] (.Tuple [a, b] k2 pt2) X.env = pure (some [y, z]))
    (hs : swapsWithSole [.Tuple [.Name y px, .Name z py] kt pt] (.Tuple [a, b] k2 pt2) pos.line X.env = pure false := by rfl) :
    DS X E rc (.Assign [.Tuple [.Name y px, .Name z py] kt pt] (.Tuple [a, b] k2 pt2) pos) (sPar i j g) := ps_imp (ps_par hc hN hi hj hij hx hy ha hw hs) fun D σ H h => by
  obtain ⟨δ, N, F, P, K, o, q, e⟩ := h
  refine ⟨δ, N, F, P, _, K.ex, o, q, fun vs H1 F1 P1 ds N1 fp t1 o1 r1 kk q1 => ?_, e.ex⟩
  obtain ⟨d1, d2, rfl, q1⟩ := q1
  obtain ⟨v, vr, f, f', rfl, ra, rb, rfl⟩ := r1
  obtain ⟨v2, vr2, g1, g2, rfl, rb, rn, rfl⟩ := rb
  obtain ⟨rfl, rfl⟩ := rn
  exact ⟨_, _, rfl, e.nx _ H1 F1 P1 _ _ t1 ⟨o1.wf, (o1.sr.set ra fun p hp => kk p (by simp [hp])).set rb fun p hp => kk p (by simp [hp])⟩ q1⟩
end

mutual
def refsW (N : Nm) : D → List Addr
  | .ref a => match N a with
    | some ⟨true, _⟩ => [a]
    | _ => []
  | .tup ds => refsWs N ds
  | _ => []
def refsWs (N : Nm) : List D → List Addr
  | [] => []
  | d :: ds => refsW N d ++ refsWs N ds
end
mutual
def res (N : Nm) : D → D
  | .ref a => match N a with
    | some ⟨true, t⟩ => t
    | _ => .ref a
  | .tup ds => .tup (ress N ds)
  | d => d
def ress (N : Nm) : List D → List D
  | [] => []
  | d :: ds => res N d :: ress N ds
end
def RES (N : Nm) (d d' : D) : Prop := (refsW N d).Nodup ∧ res N d = d'
mutual
theorem Wf.res {N : Nm} {F P : Addr → Prop} {H : Hp} {fpm : Addr → List Addr} (w : Wf N F P H fpm) : ∀ (d : D) (v : V) (fp : List Addr), Rp H d v fp → fp.Nodup → (∀ p ∈ fp, ¬ P p) → (refsW N d).Nodup →
    ∃ fp', Rp H (DL.res N d) v fp' ∧ fp'.Nodup ∧ ∀ p ∈ fp', p ∈ fp ∨ ∃ a ∈ refsW N d, p ∈ fpm a ∧ P p
  | .ref a, v, fp, r, nd, np, nr => by
    cases h : N a with
    | none => exact ⟨fp, by simp only [DL.res, h]; exact r, nd, fun p hp => .inl hp⟩
    | some c =>
      obtain ⟨b, t⟩ := c
      cases b with
      | false => exact ⟨fp, by simp only [DL.res, h]; exact r, nd, fun p hp => .inl hp⟩
      | true =>
        have ev : v = .ref a := r.1
        subst ev
        obtain ⟨o1, o2⟩ := w.own a _ h rfl
        exact ⟨fpm a, by simp only [DL.res, h]; exact (w.cell a _ h).1, o1, fun p hp => .inr ⟨a, by simp [refsW, h], hp, o2 p hp⟩⟩
  | .tup ds, v, fp, r, nd, np, nr => by
    obtain ⟨p, vs, rfl, hp, rl⟩ := r
    obtain ⟨fp', h1, h2, h3⟩ := w.ress ds vs fp rl nd np (by simpa [refsW] using nr)
    exact ⟨fp', by simp only [DL.res]; exact ⟨p, vs, rfl, hp, h1⟩, h2, fun q hq => by simpa [refsW] using h3 q hq⟩
  | .non, v, fp, r, nd, _, _ => ⟨fp, r, nd, fun p hp => .inl hp⟩
  | .bl _, v, fp, r, nd, _, _ => ⟨fp, r, nd, fun p hp => .inl hp⟩
  | .int _, v, fp, r, nd, _, _ => ⟨fp, r, nd, fun p hp => .inl hp⟩
  | .str _, v, fp, r, nd, _, _ => ⟨fp, r, nd, fun p hp => .inl hp⟩
  | .lst _, v, fp, r, nd, _, _ => ⟨fp, r, nd, fun p hp => .inl hp⟩
  | .dic _ _, v, fp, r, nd, _, _ => ⟨fp, r, nd, fun p hp => .inl hp⟩
  | .obj _ _ _ _, v, fp, r, nd, _, _ => ⟨fp, r, nd, fun p hp => .inl hp⟩
  | .tab _, v, fp, r, nd, _, _ => ⟨fp, r, nd, fun p hp => .inl hp⟩
  | .xdc _ _, v, fp, r, nd, _, _ => ⟨fp, r, nd, fun p hp => .inl hp⟩
  | .fdic _ _, v, fp, r, nd, _, _ => ⟨fp, r, nd, fun p hp => .inl hp⟩
theorem Wf.ress {N : Nm} {F P : Addr → Prop} {H : Hp} {fpm : Addr → List Addr} (w : Wf N F P H fpm) : ∀ (ds : List D) (vs : List V) (fp : List Addr), RpL H ds vs fp → fp.Nodup → (∀ p ∈ fp, ¬ P p) → (refsWs N ds).Nodup →
    ∃ fp', RpL H (DL.ress N ds) vs fp' ∧ fp'.Nodup ∧ ∀ p ∈ fp', p ∈ fp ∨ ∃ a ∈ refsWs N ds, p ∈ fpm a ∧ P p
  | [], vs, fp, r, nd, _, _ => ⟨fp, r, nd, fun p hp => .inl hp⟩
  | d :: ds, vs, fp, r, nd, np, nr => by
    obtain ⟨v, vr, f, g, rfl, h1, h2, rfl⟩ := r
    obtain ⟨n1, n2, n3⟩ := List.nodup_append.mp nd
    obtain ⟨m1, m2, m3⟩ := List.nodup_append.mp (show (refsW N d ++ refsWs N ds).Nodup from nr)
    obtain ⟨f', a1, a2, a3⟩ := w.res d v f h1 n1 (fun p hp => np p (by simp [hp])) m1
    obtain ⟨g', b1, b2, b3⟩ := w.ress ds vr g h2 n2 (fun p hp => np p (by simp [hp])) m2
    refine ⟨f' ++ g', ⟨v, vr, f', g', rfl, a1, b1, rfl⟩, List.nodup_append.mpr ⟨a2, b2, fun x hx y hy z => ?_⟩, fun p hp => ?_⟩
    · subst z
      rcases a3 x hx with h | ⟨a, ha, h, hP⟩
      · rcases b3 x hy with k | ⟨b, hb, k, hP⟩
        · exact n3 x h x k rfl
        · exact np x (by simp [h]) hP
      · rcases b3 x hy with k | ⟨b, hb, k, _⟩
        · exact np x (by simp [k]) hP
        · have hab : a ≠ b := m3 a ha b hb
          obtain ⟨ca, hca, hwa⟩ := refs_cell d a ha
          obtain ⟨cb, hcb, hwb⟩ := refs_cells ds b hb
          exact w.sep a b ca cb hab hca hwa hcb x h k
    · rcases List.mem_append.mp hp with hp | hp
      · rcases a3 p hp with h | ⟨a, ha, h⟩
        · exact .inl (by simp [h])
        · exact .inr ⟨a, by simp [refsWs, ha], h⟩
      · rcases b3 p hp with h | ⟨a, ha, h⟩
        · exact .inl (by simp [h])
        · exact .inr ⟨a, by simp [refsWs, ha], h⟩
theorem refs_cell {N : Nm} : ∀ (d : D) (a : Addr), a ∈ refsW N d → ∃ c, N a = some c ∧ c.w = true
  | .ref b, a, h => by
    simp only [refsW] at h
    split at h
    · rename_i t hb
      rcases List.mem_singleton.mp h with rfl
      exact ⟨_, hb, rfl⟩
    · cases h
  | .tup ds, a, h => refs_cells ds a (by simpa [refsW] using h)
  | .non, a, h => by simp [refsW] at h
  | .bl _, a, h => by simp [refsW] at h
  | .int _, a, h => by simp [refsW] at h
  | .str _, a, h => by simp [refsW] at h
  | .lst _, a, h => by simp [refsW] at h
  | .dic _ _, a, h => by simp [refsW] at h
  | .obj _ _ _ _, a, h => by simp [refsW] at h
  | .tab _, a, h => by simp [refsW] at h
  | .xdc _ _, a, h => by simp [refsW] at h
  | .fdic _ _, a, h => by simp [refsW] at h
theorem refs_cells {N : Nm} : ∀ (ds : List D) (a : Addr), a ∈ refsWs N ds → ∃ c, N a = some c ∧ c.w = true
  | [], a, h => by simp [refsWs] at h
  | d :: ds, a, h => by
    rcases List.mem_append.mp (show a ∈ refsW N d ++ refsWs N ds from h) with h | h
    · exact refs_cell d a h
    · exact refs_cells ds a h
end
end DL
set_option maxHeartbeats 4000000
namespace DL
open PySem L2

inductive Stp | ix (i : Int) | fld (f : Str) | key (k : Key)
abbrev Pth := List Stp
def kids : D → List D
  | .lst xs => xs
  | .dic _ xs => xs
  | .obj _ _ _ xs => xs
  | _ => []
def setKid : D → Nat → D → D
  | .lst xs, n, d => .lst (xs.set n d)
  | .dic ks xs, n, d => .dic ks (xs.set n d)
  | .obj C dx ns xs, n, d => .obj C dx ns (xs.set n d)
  | e, _, _ => e
def idxOf_ {α : Type} [DecidableEq α] (a : α) : List α → Option Nat
  | [] => none
  | b :: bs => if b = a then some 0 else (idxOf_ a bs).map (· + 1)
def stpIx : D → Stp → Option Nat
  | .lst xs, .ix i => ixN xs.length i
  | .dic ks _, .key k => idxOf_ k ks
  | .obj _ _ ns _, .fld f => idxOf_ f ns
  | _, _ => none
def sub : D → Pth → Option D
  | d, [] => some d
  | d, s :: π => match stpIx d s with
    | none => none
    | some n => match (kids d)[n]? with
      | none => none
      | some e => sub e π
def put : D → Pth → D → D
  | _, [], e => e
  | d, s :: π, e => match stpIx d s with
    | none => d
    | some n => match (kids d)[n]? with
      | none => d
      | some x => setKid d n (put x π e)
def hvals : HO → List V
  | .lst xs => xs
  | .dK kvs => kvs.map (·.2)
  | .ins _ _ fs => fs.map (·.2)
  | _ => []
inductive AtV (H : Hp) : D → V → Pth → D → V → Prop
  | nil {d : D} {v : V} : AtV H d v [] d v
  | cons {d e s : D} {st : Stp} {π : Pth} {p : Addr} {o : HO} {n : Nat} {ve u : V} : stpIx d st = some n → (kids d)[n]? = some e → H p = some o → (hvals o)[n]? = some ve → AtV H e ve π s u → AtV H d (.ref p) (st :: π) s u
theorem AtV.sub_ {H : Hp} {d s : D} {v u : V} {π : Pth} (h : AtV H d v π s u) : sub d π = some s := by
  induction h with
  | nil => rfl
  | cons a b c d' e ih => simp only [sub, a, b]; exact ih
theorem AtV.ex {H H' : Hp} {d s : D} {v u : V} {π : Pth} (h : AtV H d v π s u) (e : Ex H H') : AtV H' d v π s u := by
  induction h with
  | nil => exact .nil
  | cons a b c d' _ ih => exact .cons a b (e _ _ c) d' ih
theorem AtV.snoc {H : Hp} {d s e : D} {v ve : V} {π : Pth} {p : Addr} {st : Stp} {o : HO} {n : Nat} (h : AtV H d v π s (.ref p)) (a : stpIx s st = some n) (b : (kids s)[n]? = some e) (c : H p = some o) (f : (hvals o)[n]? = some ve) : AtV H d v (π ++ [st]) e ve := by
  generalize hu : V.ref p = u at h
  induction h with
  | nil => subst hu; exact .cons a b c f .nil
  | cons a' b' c' d' _ ih => exact .cons a' b' c' d' (ih a b hu)
theorem RpL.zip {H : Hp} : ∀ {ds : List D} {vs : List V} {fp : List Addr} {n : Nat} {d : D} {v : V}, RpL H ds vs fp → ds[n]? = some d → vs[n]? = some v →
    ∃ f1 f f2, Rp H d v f ∧ fp = f1 ++ f ++ f2 ∧ ∀ (H' : Hp) (d' : D) (v' : V) (f' : List Addr), (∀ p vs, H p = some (.tup vs) → H' p = some (.tup vs)) → (∀ p, p ∈ f1 ∨ p ∈ f2 → H' p = H p) → Rp H' d' v' f' → RpL H' (ds.set n d') (vs.set n v') (f1 ++ f' ++ f2)
  | [], vs, fp, n, d, v, h, e, _ => by simp at e
  | x :: ds, vs, fp, n, d, v, h, e, ev => by
    obtain ⟨w, vr, f, g, rfl, h1, h2, rfl⟩ := h
    cases n with
    | zero =>
      simp at e ev; subst e ev
      refine ⟨[], f, g, h1, by simp, fun H' d' v' f' ht hk r => ?_⟩
      exact ⟨v', vr, f', g, rfl, r, RpL.keep ht _ _ _ h2 fun p hp => hk p (.inr hp), by simp⟩
    | succ n =>
      obtain ⟨f1, f0, f2, a1, a2, a3⟩ := RpL.zip h2 (n := n) (d := d) (v := v) (by simpa using e) (by simpa using ev)
      subst a2
      refine ⟨f ++ f1, f0, f2, a1, by simp, fun H' d' v' f' ht hk r => ?_⟩
      have := a3 H' d' v' f' ht (fun p hp => hk p (hp.imp (fun z => by simp [z]) id)) r
      exact ⟨w, vr.set n v', f, f1 ++ f' ++ f2, by simp, Rp.keep ht _ _ _ h1 fun p hp => hk p (.inl (by simp [hp])), this, by simp⟩
theorem list_set_self {α : Type} {xs : List α} {n : Nat} {x : α} (h : xs[n]? = some x) : xs.set n x = xs := by
  apply List.ext_getElem?
  intro i
  by_cases hi : n = i
  · subst hi
    have hlt := (List.getElem?_eq_some_iff.mp h).1
    rw [List.getElem?_set_self hlt, h]
  · rw [List.getElem?_set_ne hi]
theorem zip_snd {α β : Type} : ∀ {as : List α} {bs : List β}, as.length = bs.length → (as.zip bs).map (·.2) = bs
  | [], [], _ => rfl
  | [], _ :: _, h => by simp at h
  | _ :: _, [], h => by simp at h
  | a :: as, b :: bs, h => by simp [zip_snd (as := as) (bs := bs) (by simpa using h)]
theorem AtV.zip {H : Hp} {d s : D} {v u : V} {π : Pth} (h : AtV H d v π s u) : ∀ {fp : List Addr}, Rp H d v fp →
    ∃ f1 f f2, Rp H s u f ∧ fp = f1 ++ f ++ f2 ∧ ∀ (H' : Hp) (s' : D) (f' : List Addr), (∀ p vs, H p = some (.tup vs) → H' p = some (.tup vs)) → (∀ p, p ∈ f1 ∨ p ∈ f2 → H' p = H p) → Rp H' s' u f' → Rp H' (put d π s') v (f1 ++ f' ++ f2) := by
  induction h with
  | nil => exact fun {fp} r => ⟨[], fp, [], r, by simp, fun H' s' f' _ _ r' => by simpa [put] using r'⟩
  | @cons d e s st π p o n ve u a b c d' h ih =>
    intro fp r
    have key : ∃ vs f, fp = p :: f ∧ hvals o = vs ∧ RpL H (kids d) vs f ∧ ∀ (H' : Hp) (x : D) (g : List Addr), H' p = H p → RpL H' ((kids d).set n x) vs g → Rp H' (setKid d n x) (.ref p) (p :: g) := by
      cases d with
      | lst xs =>
        obtain ⟨q, vs, f, e1, e2, e3, rfl⟩ := r
        cases e1
        rw [c] at e2; cases e2
        exact ⟨vs, f, rfl, rfl, e3, fun H' x g hp hl => ⟨p, vs, g, rfl, by rw [hp]; exact c, hl, rfl⟩⟩
      | dic ks xs =>
        obtain ⟨q, vs, f, e1, e2, e3, e4, rfl⟩ := r
        cases e1
        rw [c] at e2; cases e2
        exact ⟨vs, f, rfl, zip_snd e4, e3, fun H' x g hp hl => ⟨p, vs, g, rfl, by rw [hp]; exact c, hl, e4, rfl⟩⟩
      | obj C dx ns xs =>
        obtain ⟨q, vs, f, e1, e2, e3, e4, rfl⟩ := r
        cases e1
        rw [c] at e2; cases e2
        exact ⟨vs, f, rfl, zip_snd e4, e3, fun H' x g hp hl => ⟨p, vs, g, rfl, by rw [hp]; exact c, hl, e4, rfl⟩⟩
      | _ => simp [stpIx] at a
    obtain ⟨vs, f, rfl, ev, rl, back⟩ := key
    rw [ev] at d'
    obtain ⟨f1, f0, f2, a1, rfl, a3⟩ := rl.zip b d'
    obtain ⟨g1, g0, g2, b1, rfl, b3⟩ := ih a1
    refine ⟨p :: (f1 ++ g1), g0, g2 ++ f2, b1, by simp, fun H' s' f' ht hk r' => ?_⟩
    have r2 := b3 H' s' f' ht (fun q hq => hk q (hq.imp (fun z => by simp [z]) (fun z => by simp [z]))) r'
    have r3 := a3 H' _ ve _ ht (fun q hq => hk q (hq.imp (fun z => by simp [z]) (fun z => by simp [z]))) r2
    rw [list_set_self d'] at r3
    have r4 := back H' _ _ (hk p (.inl (by simp))) r3
    have ep : put d (st :: π) s' = setKid d n (put e π s') := by simp only [put, a, b]
    rw [ep]
    have el : p :: (f1 ++ (g1 ++ f' ++ g2) ++ f2) = p :: (f1 ++ g1) ++ f' ++ (g2 ++ f2) := by simp
    rw [← el]
    exact r4
theorem Ok.write {δ : Loc} {N : Nm} {F P : Addr → Prop} {σ : St} {H0 H : Hp} {a p : Addr} {t s s' : D} {π : Pth} {o' : HO} {g : List Addr} (o : Ok δ N F P σ H0) (e : Ex H0 H) (hN : N a = some ⟨true, t⟩)
    (at_ : AtV H t (.ref a) π s (.ref p)) (hs : ∃ ob, H p = some ob ∧ ∀ xs, ob ≠ .tup xs) (hp : ∀ f, Rp H s (.ref p) f → p ∈ f) (gn : ∀ q ∈ g, H0 q = none) (gd : g.Nodup)
    (hr : ∀ f, Rp H s (.ref p) f → f.Nodup → (∀ q ∈ f, q ∉ g) → ∃ f', Rp (upd H p o') s' (.ref p) f' ∧ f'.Nodup ∧ ∀ q ∈ f', q ∈ f ∨ q ∈ g) (hrt : π = [] → a = p) (hra : ∀ f, Rp (upd H p o') (put t π s') (.ref a) f → a ∈ f) (ho : ∀ xs, o' ≠ .tup xs) :
    Ok δ (updN N a ⟨true, put t π s'⟩) F (fun q => P q ∨ q ∈ g ∧ (upd H p o' q).isSome = true ∧ ∀ xs, upd H p o' q ≠ some (.tup xs)) σ (upd H p o') ∧ Tr F P H0 F (fun q => P q ∨ q ∈ g ∧ (upd H p o' q).isSome = true ∧ ∀ xs, upd H p o' q ≠ some (.tup xs)) (upd H p o') := by
  obtain ⟨fpm, w⟩ := o.wf
  obtain ⟨ra, haa⟩ := w.cell a _ hN
  obtain ⟨nda, Pa⟩ := w.own a _ hN rfl
  obtain ⟨f1, f, f2, rs, efp, back⟩ := at_.zip (ra.ex e)
  rw [efp] at nda Pa
  have pf : p ∈ f := hp f rs
  have nd1 := List.nodup_append.mp nda
  have nd2 := List.nodup_append.mp nd1.1
  have old : ∀ b c, N b = some c → ∀ q ∈ fpm b, ∃ ob, H0 q = some ob := fun b c h q hq => let ⟨ob, h1, _⟩ := Rp.there _ _ _ (w.cell b c h).1 q hq; ⟨ob, h1⟩
  have fg : ∀ q, q ∈ f1 ∨ q ∈ f ∨ q ∈ f2 → q ∉ g := fun q hq z => by
    obtain ⟨ob, h1⟩ := old a _ hN q (by rw [efp]; rcases hq with h | h | h <;> simp [h])
    rw [gn q z] at h1; cases h1
  obtain ⟨f', r', nd', sub'⟩ := hr f rs nd2.2.1 fun q hq => fg q (.inr (.inl hq))
  have pne : ∀ q, q ∈ f1 ∨ q ∈ f2 → q ≠ p := fun q hq z => by
    subst z
    rcases hq with h | h
    · exact nd2.2.2 q h q pf rfl
    · exact nd1.2.2 q (by simp [pf]) q h rfl
  have ht : ∀ q vs, H q = some (.tup vs) → upd H p o' q = some (.tup vs) := fun q vs h => by
    rw [upd_ne]
    · exact h
    · intro z
      subst z
      obtain ⟨ob, h1, h2⟩ := hs
      rw [h] at h1; cases h1; exact h2 _ rfl
  have rn := back (upd H p o') s' f' ht (fun q hq => upd_ne (pne q hq)) r'
  have Pp : P p := Pa p (by simp [pf])
  have keepR : ∀ (d : D) (v : V) (fp : List Addr), Rp H0 d v fp → (∀ q ∈ fp, q ≠ p) → Rp (upd H p o') d v fp := fun d v fp r n => Rp.keep ht d v fp (r.ex e) fun q hq => upd_ne (n q hq)
  have cellP : ∀ q, q ∈ f' → ∃ ob, upd H p o' q = some ob ∧ ∀ xs, ob ≠ .tup xs := fun q hq => Rp.there _ _ _ r' q hq
  have upn : ∀ {q : Addr} {ob : HO}, H0 q = some ob → ∃ ob', upd H p o' q = some ob' := fun {q ob} h => by
    by_cases z : q = p
    · subst z; exact ⟨_, upd_same⟩
    · exact ⟨ob, by rw [upd_ne z]; exact e q ob h⟩
  refine ⟨⟨⟨fun b => if b = a then f1 ++ f' ++ f2 else fpm b, fun b c h => ?_, fun b c h hw => ?_, fun b b' c c' hne h hw h' q hq => ?_, fun q h => ?_, fun q h => ?_⟩, ⟨o.sr.len, fun q h => ?_, fun i d q => ?_⟩⟩, ⟨fun q h => h, fun q ob h n => ?_, fun q ob h => upn h, fun q h => ?_, fun q h => .inl h⟩⟩
  · by_cases hb : b = a
    · subst hb
      rw [updN_same] at h; cases h
      rw [if_pos rfl]
      exact ⟨rn, hra _ rn⟩
    · rw [updN_ne hb] at h
      rw [if_neg hb]
      obtain ⟨r1, r2⟩ := w.cell b c h
      exact ⟨keepR _ _ _ r1 fun q hq z => w.sep a b _ c (Ne.symm hb) hN rfl h p (by rw [efp]; simp [pf]) (z ▸ hq), r2⟩
  · by_cases hb : b = a
    · subst hb
      rw [if_pos rfl]
      refine ⟨List.nodup_append.mpr ⟨List.nodup_append.mpr ⟨nd2.1, nd', fun x hx y hy z => ?_⟩, nd1.2.1, fun x hx y hy z => ?_⟩, fun q hq => ?_⟩
      · subst z
        rcases sub' x hy with h | h
        · exact nd2.2.2 x hx x h rfl
        · exact fg x (.inl hx) h
      · subst z
        rcases List.mem_append.mp hx with hx | hx
        · exact nd1.2.2 x (by simp [hx]) x hy rfl
        · rcases sub' x hx with h | h
          · exact nd1.2.2 x (by simp [h]) x hy rfl
          · exact fg x (.inr (.inr hy)) h
      · rcases List.mem_append.mp hq with hq | hq
        · rcases List.mem_append.mp hq with hq | hq
          · exact .inl (Pa q (by simp [hq]))
          · rcases sub' q hq with h | h
            · exact .inl (Pa q (by simp [h]))
            · obtain ⟨ob, h1, h2⟩ := cellP q hq
              exact .inr ⟨h, by rw [h1]; rfl, fun xs z => by rw [h1] at z; cases z; exact h2 _ rfl⟩
        · exact .inl (Pa q (by simp [hq]))
    · rw [updN_ne hb] at h
      rw [if_neg hb]
      exact ⟨(w.own b c h hw).1, fun q hq => .inl ((w.own b c h hw).2 q hq)⟩
  · by_cases hb : b = a
    · subst hb
      have hb' : b' ≠ b := fun z => hne z.symm
      rw [if_pos rfl] at hq
      rw [updN_ne hb'] at h'
      rw [if_neg hb']
      intro z
      have inA : q ∈ f1 ++ f ++ f2 → False := fun k => w.sep b b' _ c' hne hN rfl h' q (by rw [efp]; exact k) z
      rcases List.mem_append.mp hq with hq | hq
      · rcases List.mem_append.mp hq with hq | hq
        · exact inA (by simp [hq])
        · rcases sub' q hq with k | k
          · exact inA (by simp [k])
          · obtain ⟨ob, h1⟩ := old b' c' h' q z
            rw [gn q k] at h1; cases h1
      · exact inA (by simp [hq])
    · rw [updN_ne hb] at h
      rw [if_neg hb] at hq
      by_cases hb' : b' = a
      · subst hb'
        rw [if_pos rfl]
        intro z
        have inA : q ∈ f1 ++ f ++ f2 → False := fun k => w.sep b b' c _ hne h hw hN q hq (by rw [efp]; exact k)
        rcases List.mem_append.mp z with z | z
        · rcases List.mem_append.mp z with z | z
          · exact inA (by simp [z])
          · rcases sub' q z with k | k
            · exact inA (by simp [k])
            · obtain ⟨ob, h1⟩ := old b c h q hq
              rw [gn q k] at h1; cases h1
        · exact inA (by simp [z])
      · rw [updN_ne hb'] at h'
        rw [if_neg hb']
        exact w.sep b b' c c' hne h hw h' q hq
  · obtain ⟨n, ob, h1⟩ := w.fr q h
    exact ⟨fun z => z.elim n (fun z => by rw [gn q z.1] at h1; cases h1), upn h1⟩
  · rcases h with h | ⟨h, h2, h3⟩
    · obtain ⟨ob, h1, h2⟩ := w.pr q h
      by_cases z : q = p
      · subst z
        exact ⟨o', upd_same, ho⟩
      · exact ⟨ob, by rw [upd_ne z]; exact e q ob h1, h2⟩
    · obtain ⟨ob, h4⟩ := Option.isSome_iff_exists.mp h2
      exact ⟨ob, h4, fun xs z => h3 xs (by rw [h4, z])⟩
  · obtain ⟨_, ob, h1⟩ := w.fr q h
    exact upn h1
  · obtain ⟨v, fp, h1, h2, h3⟩ := o.sr.at_ i d q
    exact ⟨v, fp, h1, keepR d v fp h2 fun q hq z => (w.fr q (h3 q hq)).1 (z ▸ Pp), h3⟩
  · rw [upd_ne (show q ≠ p from fun z => n (by rw [z]; exact Pp))]
    exact e q ob h
  · rcases h with h | h
    · exact .inl h
    · exact .inr (gn q h.1)
end DL
set_option maxHeartbeats 4000000
namespace DL
open PySem L2
section
variable {X : Cx} {E : XK} {c c1 c2 c3 : Cl} {pos p : Pos} {x : Str} {rc : Bool} {s : Stmt} {ss : List Stmt} {w u : WS} {tg : Expr}
structure PLV where
  ok : Prop
  a : Addr
  π : Pth
abbrev PLF := Loc → Nm → PLV
def tPl (pl : PLF) : TE := fun σ H Q => ∃ δ N F P, Ok δ N F P σ H ∧ ∃ c s, (pl δ N).ok ∧ N (pl δ N).a = some c ∧ sub c.d (pl δ N).π = some s ∧ ∀ u H', Ex H H' → AtV H' c.d (.ref (pl δ N).a) (pl δ N).π s u → Q u H'
abbrev PLc (X : Cx) (e : Expr) (pl : PLF) : Prop := PE X e (tPl pl)
def rA : Option D → Addr | some (.ref a) => a | _ => 0
def lV (i : Nat) : PLF := fun δ N => ⟨lk δ i = some (.ref (rA (lk δ i))), rA (lk δ i), []⟩
theorem pl_var (i : Nat) {x : Str} (hN : X.N[i]? = some x := by rfl) (hv : Vis X.env.scope x := by first | exact Or.inl rfl | exact Or.inr (Or.inl rfl) | exact Or.inr (Or.inr rfl)) (hd : (x == ("__debug__" : Str)) = false := by decide)
    (hcd : (x == ("__classdict__" : Str)) = false := by decide) : PLc X (.Name x pos) (lV i) := by
  refine pe_imp (pe_var hN hv hd hcd) fun σ H Q h => ?_
  obtain ⟨δ, N, F, P, o, c, s, ok, hNa, hs, q⟩ := h
  obtain ⟨v, fp, h1, h2, h3⟩ := o.sr.at_ i _ (lk_get ok)
  have ev : v = .ref (lV i δ N).a := h2.1
  subst ev
  have es : c.d = s := by simpa [lV, sub] using hs
  subst es
  exact ⟨_, h1, q _ H (Ex.refl H) .nil⟩
theorem sub_snoc {st : Stp} {s : D} : ∀ {π : Pth} {d : D}, sub d (π ++ [st]) = some s → ∃ s0 n, sub d π = some s0 ∧ stpIx s0 st = some n ∧ (kids s0)[n]? = some s
  | [], d, h => by
    simp only [List.nil_append, sub] at h
    cases e1 : stpIx d st with
    | none => rw [e1] at h; cases h
    | some n =>
      rw [e1] at h
      simp only at h
      cases e2 : (kids d)[n]? with
      | none => rw [e2] at h; cases h
      | some k => rw [e2] at h; exact ⟨d, n, rfl, e1, by rw [e2]; simpa [sub] using h⟩
  | t :: π, d, h => by
    simp only [List.cons_append, sub] at h ⊢
    cases e1 : stpIx d t with
    | none => rw [e1] at h; cases h
    | some n =>
      rw [e1] at h
      simp only at h ⊢
      cases e2 : (kids d)[n]? with
      | none => rw [e2] at h; cases h
      | some k => rw [e2] at h; exact sub_snoc (π := π) h
def lIx (pl : PLF) (f : PF) : PLF := fun δ N => ⟨(pl δ N).ok ∧ (f δ N).ok ∧ IsI (f δ N).val, (pl δ N).a, (pl δ N).π ++ [.ix (toI (f δ N).val)]⟩
theorem ix_lst {s : D} {i : Int} {n : Nat} (h : stpIx s (.ix i) = some n) : ∃ xs, s = .lst xs ∧ ixN xs.length i = some n := by
  cases s <;> first | (simp [stpIx] at h; done) | exact ⟨_, rfl, h⟩
theorem pl_ix {e idx : Expr} {pl : PLF} {f : PF} (hp : PLc X e pl) (hi : DP X c idx f) (hs : PlainIx idx := by exact fun _ _ => rfl) : PLc X (.Subscript e idx pos) (lIx pl f) := by
  refine pe_imp (pe_ix ix_list hp hi hs) fun σ H Q h => ?_
  obtain ⟨δ, N, F, P, o, c, s, ⟨o1, o2, o3⟩, hNa, hs, q⟩ := h
  obtain ⟨s0, n, h1, h2, h3⟩ := sub_snoc hs
  refine ⟨δ, N, F, P, o, c, s0, o1, hNa, h1, fun u H1 e1 at1 => ?_⟩
  obtain ⟨xs, rfl, hix⟩ := ix_lst h2
  obtain ⟨fp, r, _⟩ := o.nr _ _ hNa
  obtain ⟨f1, f0, f2, rs, _, _⟩ := at1.zip (r.ex e1)
  obtain ⟨q', vs, f', rfl, hq, rl, rfl⟩ := rs
  refine ⟨δ, N, F, o.sr.ex e1, o.nr.ex e1, o2, fun v H2 fq e2 r2 k2 => ?_⟩
  obtain ⟨u, fu, g1, g2, _, _⟩ := rl.get (show xs[n]? = some s from h3)
  refine ⟨q', vs, _, u, rfl, r2.int_ o3, SqL.of (e2 _ _ hq), ?_, q u H2 (e1.trans e2) ?_⟩
  · unfold atI
    rw [← rl.length, hix]
    exact g1
  · exact (at1.ex e2).snoc h2 h3 (e2 _ _ hq) g1
theorem lookup_zip : ∀ {ns : List Str} {vs : List V} {f : Str} {n : Nat} {v : V}, idxOf_ f ns = some n → vs[n]? = some v → (ns.zip vs).lookup f = some v
  | [], _, _, _, _, h, _ => by simp [idxOf_] at h
  | m :: ns, [], f, n, v, _, h2 => by simp at h2
  | m :: ns, y :: vs, f, n, v, h, h2 => by
    simp only [idxOf_] at h
    split at h
    · rename_i e
      subst e
      cases h
      simp at h2; subst h2
      simp [List.lookup]
    · rename_i e
      cases e2 : idxOf_ f ns with
      | none => rw [e2] at h; cases h
      | some k =>
        rw [e2] at h
        cases h
        have : (f == m) = false := by simpa using fun z => e z.symm
        simp only [List.zip_cons_cons, List.lookup, this]
        exact lookup_zip e2 (by simpa using h2)
def lFld (C : Addr) (pl : PLF) (f : Str) : PLF := fun δ N => ⟨(pl δ N).ok ∧ ∃ c dx ns xs, N (pl δ N).a = some c ∧ sub c.d (pl δ N).π = some (.obj C dx ns xs), (pl δ N).a, (pl δ N).π ++ [.fld f]⟩
theorem fld_obj {s : D} {f : Str} {n : Nat} (h : stpIx s (.fld f) = some n) : ∃ C dx ns xs, s = .obj C dx ns xs ∧ idxOf_ f ns = some n := by
  cases s <;> first | (simp [stpIx] at h; done) | exact ⟨_, _, _, _, rfl, h⟩
theorem pl_fld {e : Expr} {pl : PLF} {f : Str} {C : Addr} (hp : PLc X e pl) (hC : Cls X.K C) (hn : NoAttr X.K C f) (hb : attributeBase e f X.env (eval e X.env) = eval e X.env) : PLc X (.Attribute e f pos) (lFld C pl f) := by
  refine pe_imp (pe_fld hp hb) fun σ H Q h => ?_
  obtain ⟨δ, N, F, P, o, c, s, ⟨o1, c2, dx2, ns2, xs2, hN2, hs2⟩, hNa, hs, q⟩ := h
  obtain ⟨s0, n, h1, h2, h3⟩ := sub_snoc hs
  refine ⟨δ, N, F, P, o, c, s0, o1, hNa, h1, fun u H1 e1 at1 => ?_⟩
  have hcc : c2 = c := by
    have hNa' : N (pl δ N).a = some c := hNa
    rw [hN2] at hNa'; exact Option.some.inj hNa'
  subst hcc
  rw [hs2] at h1
  cases h1
  have hix : idxOf_ f ns2 = some n := h2
  obtain ⟨fp, r, _⟩ := o.nr _ _ hNa
  obtain ⟨f1, f0, f2, rs, _, _⟩ := at1.zip (r.ex e1)
  obtain ⟨q', vs, f', rfl, hq, rl, hl, rfl⟩ := rs
  obtain ⟨u, fu, g1, g2, _, _⟩ := rl.get (show xs2[n]? = some s from h3)
  refine ⟨q', C, dx2, _, u, rfl, hq, hC, hn, lookup_zip hix g1, q u H1 e1 (at1.snoc h2 h3 hq ?_)⟩
  show ((ns2.zip vs).map (·.2))[n]? = some u
  rw [zip_snd hl]; exact g1
theorem Rp.isC {H : Hp} {d : D} {a : Addr} {f : List Addr} (h : Rp H d (.ref a) f) (k : IsC d) : a ∈ f := by
  obtain ⟨b, e, hb⟩ := h.cell k
  cases e; exact hb
theorem put_isC {t s s' : D} {π : Pth} (h : IsC t) (k : IsC s') : IsC (put t π s') := by
  cases π with
  | nil => exact k
  | cons st π =>
    simp only [put]
    split
    · exact h
    · split
      · exact h
      · cases t <;> first | exact h.elim | exact trivial
theorem Ok.writeL {δ : Loc} {N : Nm} {F P : Addr → Prop} {σ : St} {H0 H : Hp} {a p : Addr} {t : D} {π : Pth} {xs ys : List D} {vs ws : List V} {g : List Addr} (o : Ok δ N F P σ H0) (e : Ex H0 H) (hN : N a = some ⟨true, t⟩)
    (at_ : AtV H t (.ref a) π (.lst xs) (.ref p)) (hp : H p = some (.lst vs)) (gn : ∀ q ∈ g, H0 q = none) (gd : g.Nodup)
    (hr : ∀ f, RpL H xs vs f → f.Nodup → (∀ q ∈ f, q ∉ g) → ∃ f', RpL H ys ws f' ∧ f'.Nodup ∧ ∀ q ∈ f', q ∈ f ∨ q ∈ g) :
    ∃ P', Ok δ (updN N a ⟨true, put t π (.lst ys)⟩) F P' σ (upd H p (.lst ws)) ∧ Tr F P H0 F P' (upd H p (.lst ws)) := by
  have tC : IsC t := by
    cases π with
    | nil => cases at_; trivial
    | cons st π =>
      cases at_ with
      | cons a1 b1 c1 d1 e1 => cases t <;> first | (simp [stpIx] at a1; done) | trivial
  have key : ∀ f, Rp H (.lst xs) (.ref p) f → f.Nodup → (∀ q ∈ f, q ∉ g) → ∃ f', Rp (upd H p (.lst ws)) (.lst ys) (.ref p) f' ∧ f'.Nodup ∧ ∀ q ∈ f', q ∈ f ∨ q ∈ g := by
    intro f r nd ng
    obtain ⟨q, vs', f0, e1, hq, rl, rfl⟩ := r
    cases e1
    rw [hp] at hq; cases hq
    obtain ⟨n1, n2⟩ := List.nodup_cons.mp nd
    obtain ⟨f', r', nd', sb⟩ := hr f0 rl n2 fun q hq => ng q (by simp [hq])
    have pn : p ∉ f' := fun z => by
      rcases sb p z with k | k
      · exact n1 k
      · exact ng p (by simp) k
    refine ⟨p :: f', ⟨p, ws, f', rfl, upd_same, RpL.keep (fun q vs z => by rw [upd_ne (fun k => by rw [k, hp] at z; cases z)]; exact z) _ _ _ r' fun q hq => upd_ne fun z => pn (z ▸ hq), rfl⟩, List.nodup_cons.mpr ⟨pn, nd'⟩, fun q hq => ?_⟩
    rcases List.mem_cons.mp hq with rfl | hq
    · exact .inl (by simp)
    · rcases sb q hq with k | k
      · exact .inl (by simp [k])
      · exact .inr k
  have hw := o.write (s := .lst xs) (s' := .lst ys) (o' := .lst ws) (g := g) e hN at_ ⟨_, hp, fun _ z => by cases z⟩ (fun f r => r.isC trivial) gn gd (fun f r nd ng => key f r nd ng) (fun z => by subst z; cases at_; rfl) (fun f r => r.isC (put_isC (s := .lst xs) tC trivial)) (fun _ z => by cases z)
  exact ⟨_, hw.1, hw.2⟩
theorem AtV.lst_ {H H1 : Hp} {δ : Loc} {N : Nm} {F P : Addr → Prop} {σ : St} {a : Addr} {cc : Cell} {π : Pth} {xs : List D} {u : V} (o : Ok δ N F P σ H) (hN : N a = some cc) (e : Ex H H1) (h : AtV H1 cc.d (.ref a) π (.lst xs) u) : ∃ p vs f, u = .ref p ∧ H1 p = some (.lst vs) ∧ RpL H1 xs vs f := by
  obtain ⟨fp, r, _⟩ := o.nr _ _ hN
  obtain ⟨f1, f0, f2, rs, _, _⟩ := h.zip (r.ex e)
  obtain ⟨q', vs, f', rfl, hq, rl, rfl⟩ := rs
  exact ⟨q', vs, f', rfl, hq, rl⟩
def sApp (pl : PLF) (f : PF) : WS := fun K δ N => (pl δ N).ok ∧ (f δ N).ok ∧ ∃ t xs, N (pl δ N).a = some ⟨true, t⟩ ∧ sub t (pl δ N).π = some (.lst xs) ∧ xs.length < SZ ∧ K.nx δ (updN N (pl δ N).a ⟨true, put t (pl δ N).π (.lst (xs ++ [(f δ N).val]))⟩)
theorem ds_app {e a : Expr} {pl : PLF} {f : PF} {apos ppos : Pos} (hp : PLc X e pl) (ha : DP X .frs a f) (hs : swapsWith (.Call (.Attribute e "append" apos) [a] [] ppos) none pos.line X.env = pure false := by rfl)
    (hse : starEach [a] X.env = (false, eval a X.env) :: starEach [] X.env := by rfl)
    (hbm : PE X (.Call (.Attribute e "append" apos) [a] [] ppos) (tBM X.K "list" rAppend (tPl pl) (tCons (tP .frs f) tNil))) : DS X E rc (.Expr (.Call (.Attribute e "append" apos) [a] [] ppos) pos) (sApp pl f) := ps_imp (ps_expr hbm hs) fun D σ H h => by
  obtain ⟨δ, N, F, P, K, o, ⟨o1, o2, t, xs, hN, hsub, hz, q⟩, e⟩ := h
  refine ⟨δ, N, F, P, o, _, _, o1, hN, hsub, fun u H1 e1 at1 => ?_⟩
  obtain ⟨p, vs, f0, rfl, hp, rl⟩ := at1.lst_ o hN e1
  refine ⟨.inl ⟨rfl, _, SqL.of hp⟩, δ, N, F, o.sr.ex e1, o.nr.ex e1, o2, fun v H2 fq e2 r2 k2 => ?_⟩
  have hp2 := e2 _ _ hp
  refine ⟨p, vs, v, rfl, rfl, hp2, Nat.lt_of_lt_of_le (by rw [← rl.length]; exact hz) (sz (Nat.le_refl _)), ?_⟩
  obtain ⟨P', o', t'⟩ := o.writeL (ys := xs ++ [(f δ N).val]) (ws := vs ++ [v]) (g := fq) (e1.trans e2) hN (at1.ex e2) hp2 (fun q hq => e1.free (k2.2 q hq)) k2.1 fun f r nd ng => by
    refine ⟨f ++ fq, RpL.append r (RpL.one r2), List.nodup_append.mpr ⟨nd, k2.1, fun x hx y hy z => ng x hx (z ▸ hy)⟩, fun q hq => List.mem_append.mp hq⟩
  exact e.nx σ _ F P' δ _ t' o' q
def sAppR (i : Nat) (w : WE) : WS := fun K δ N => lk δ i = some (.ref (rA (lk δ i))) ∧ (∃ c, N (rA (lk δ i)) = some c ∧ IsL c.d) ∧ w δ N (fun d N1 => lf d ∧ ∃ xs, N1 (rA (lk δ i)) = some ⟨true, .lst xs⟩ ∧ xs.length < SZ ∧ K.nx δ (updN N1 (rA (lk δ i)) ⟨true, .lst (xs ++ [d])⟩)) K.ex
theorem ds_appR {a : Expr} {y : Str} {ny : Pos} {w : WE} {apos ppos : Pos} (i : Nat) (hN : X.N[i]? = some y) (hv : Vis X.env.scope y) (hs : swapsWith (.Call (.Attribute (.Name y ny) "append" apos) [a] [] ppos) none pos.line X.env = pure false := by rfl)
    (hbm : PE X (.Call (.Attribute (.Name y ny) "append" apos) [a] [] ppos) (tBM X.K "list" rAppend (tVar i) (tCons (tDE E w) tNil))) : DS X E rc (.Expr (.Call (.Attribute (.Name y ny) "append" apos) [a] [] ppos) pos) (sAppR i w) := ps_imp (ps_expr hbm hs) fun D σ H h => by
  obtain ⟨δ, N, F, P, K, o, ⟨o1, ⟨c, hc, hl⟩, q⟩, e⟩ := h
  obtain ⟨v, fp, h1, h2, h3⟩ := o.sr.at_ i _ (lk_get o1)
  have ev : v = .ref (rA (lk δ i)) := h2.1
  subst ev
  obtain ⟨fp0, r0, _⟩ := o.nr _ _ hc
  obtain ⟨p0, vs0, f0, e0, hp0, _, _⟩ := r0.lst_ hl
  cases e0
  refine ⟨_, h1, .inl ⟨rfl, _, SqL.of hp0⟩, δ, N, F, P, _, K.ex, o, q, fun v H1 F1 P1 d N1 fq t1 oo r1 k1 q1 => ?_, e.ex⟩
  obtain ⟨q1, xs, hN1, hz, q2⟩ := q1
  have z := Rp.lf _ _ _ r1 q1
  subst z
  obtain ⟨fp1, rr, _⟩ := oo.nr _ _ hN1
  obtain ⟨p, vs, f', e1, hp, rl, rfl⟩ := rr
  cases e1
  refine ⟨_, vs, v, rfl, rfl, hp, Nat.lt_of_lt_of_le (by rw [← rl.length]; exact hz) (sz (Nat.le_refl _)), ?_⟩
  obtain ⟨P', o', t'⟩ := oo.writeL (π := []) (xs := xs) (ys := xs ++ [d]) (ws := vs ++ [v]) (g := []) (Ex.refl _) hN1 .nil hp (by simp) List.nodup_nil fun f r nd ng =>
    ⟨f, by have := RpL.append r (RpL.one r1); rw [List.append_nil] at this; exact this, nd, fun q hq => .inl hq⟩
  exact e.nx σ _ F1 P' δ _ (t1.trans t') o' q2
def sSetIx (w : WE) (pl : PLF) (f : PF) : WS := fun K δ N => w δ N (fun d N1 => lf d ∧ (pl δ N1).ok ∧ (f δ N1).ok ∧ IsI (f δ N1).val ∧ ∃ t xs n, N1 (pl δ N1).a = some ⟨true, t⟩ ∧ sub t (pl δ N1).π = some (.lst xs) ∧ ixN xs.length (toI (f δ N1).val) = some n ∧
  K.nx δ (updN N1 (pl δ N1).a ⟨true, put t (pl δ N1).π (.lst (xs.set n d))⟩)) K.ex
theorem RpL.set_lf {H : Hp} : ∀ {ds : List D} {vs : List V} {fp : List Addr} {n : Nat} {d : D} {v : V}, RpL H ds vs fp → n < ds.length → Rp H d v [] → ∃ f', RpL H (ds.set n d) (vs.set n v) f' ∧ (∀ q ∈ f', q ∈ fp) ∧ (fp.Nodup → f'.Nodup)
  | [], _, _, _, _, _, _, h, _ => by simp at h
  | x :: ds, vs, fp, n, d, v, h, hn, r => by
    obtain ⟨w, vr, f, g, rfl, h1, h2, rfl⟩ := h
    cases n with
    | zero => exact ⟨g, ⟨v, vr, [], g, rfl, r, h2, rfl⟩, fun q hq => by simp [hq], fun n => (List.nodup_append.mp n).2.1⟩
    | succ n =>
      obtain ⟨f', a, b, c⟩ := RpL.set_lf h2 (n := n) (by simpa using hn) r
      refine ⟨f ++ f', ⟨w, vr.set n v, f, f', rfl, h1, a, rfl⟩, fun q hq => ?_, fun k => ?_⟩
      · rcases List.mem_append.mp hq with z | z
        · simp [z]
        · simp [b q z]
      · obtain ⟨k1, k2, k3⟩ := List.nodup_append.mp k
        exact List.nodup_append.mpr ⟨k1, c k2, fun x hx y hy => k3 x hx y (b y hy)⟩
theorem ds_setIx {o idx value : Expr} {w : WE} {pl : PLF} {f : PF} {tpos : Pos} (hv : DE X E value w) (hp : PLc X o pl) (hi : DP X c idx f)
    (hs : swapsWithSole [.Subscript o idx tpos] value pos.line X.env = pure false := by rfl) (hw : swappedStores [.Subscript o idx tpos] value X.env = pure none := by rfl)
    (h1 : (assignEach [.Subscript o idx tpos] X.env).map (·.2) = [assign (.Subscript o idx tpos) X.env] := by rfl)
    (ha : ∀ v, assign (.Subscript o idx tpos) X.env v = (do
      let ov ← holding [v] (eval o X.env)
      let iv ← holding [v, ov] (eval idx X.env)
      standAt tpos
      holding [v, ov, iv] (setItem ov iv v)
      release [v, ov, iv] []) := by intro _; rfl) : DS X E rc (.Assign [.Subscript o idx tpos] value pos) (sSetIx w pl f) := ps_imp (ps_asg hv (pg_sub hp hi set_list ha) hs hw h1) fun D σ H h => by
  obtain ⟨δ, N, F, P, K, o, q, e⟩ := h
  refine ⟨δ, N, F, P, _, K.ex, o, q, fun v H1 F1 P1 d N1 fq t1 oo r1 k1 q1 => ?_, e.ex⟩
  obtain ⟨q1, o2, o3, o4, t, xs, n, hN, hsub, hix, q2⟩ := q1
  have z := Rp.lf _ _ _ r1 q1
  subst z
  refine ⟨δ, N1, F1, P1, oo, _, _, o2, hN, hsub, fun u H2 e2 at2 => ?_⟩
  obtain ⟨p, vs, f0, rfl, hp, rl⟩ := at2.lst_ oo hN e2
  refine ⟨δ, N1, F1, oo.sr.ex e2, oo.nr.ex e2, o3, fun iv H3 fi e3 r3 k3 => ?_⟩
  refine ⟨p, vs, _, n, rfl, r3.int_ o4, e3 _ _ hp, by rw [← rl.length]; exact hix, ?_⟩
  have hn : n < xs.length := (ixN_seq hix).2.1
  obtain ⟨P', o', t'⟩ := oo.writeL (ys := xs.set n d) (ws := vs.set n v) (g := []) (e2.trans e3) hN (at2.ex e3) (e3 _ _ hp) (by simp) List.nodup_nil fun f r nd ng => by
    obtain ⟨f', a, b, c⟩ := r.set_lf hn ((r1.ex e2).ex e3)
    exact ⟨f', a, c nd, fun q hq => .inl (b q hq)⟩
  exact e.nx σ _ F1 P' δ _ (t1.trans t') o' q2
def wPop (i : Nat) (w : WE) : WE := fun δ N Q E => lk δ i = some (.ref (rA (lk δ i))) ∧ (∃ c, N (rA (lk δ i)) = some c ∧ IsL c.d) ∧ w δ N (fun d N1 => IsI d ∧ -(2 ^ 63) ≤ toI d ∧ toI d < 2 ^ 63 ∧ ∃ xs n y, N1 (rA (lk δ i)) = some ⟨true, .lst xs⟩ ∧ ixN xs.length (toI d) = some n ∧ xs[n]? = some y ∧ lf y ∧ Q y (updN N1 (rA (lk δ i)) ⟨true, .lst (xs.eraseIdx n)⟩)) E
theorem RpL.erase {H : Hp} : ∀ {ds : List D} {vs : List V} {fp : List Addr} (n : Nat), RpL H ds vs fp → ∃ f', RpL H (ds.eraseIdx n) (vs.eraseIdx n) f' ∧ (∀ q ∈ f', q ∈ fp) ∧ (fp.Nodup → f'.Nodup)
  | [], _, _, _, h => by obtain ⟨rfl, rfl⟩ := h; exact ⟨[], RpL.nil, fun _ q => q, id⟩
  | d :: ds, vs, fp, 0, h => by
    obtain ⟨w, vr, f, g, rfl, h1, h2, rfl⟩ := h
    exact ⟨g, h2, fun q hq => by simp [hq], fun n => (List.nodup_append.mp n).2.1⟩
  | d :: ds, vs, fp, n + 1, h => by
    obtain ⟨w, vr, f, g, rfl, h1, h2, rfl⟩ := h
    obtain ⟨f', a, b, c⟩ := RpL.erase n h2
    refine ⟨f ++ f', ⟨w, vr.eraseIdx n, f, f', rfl, h1, a, rfl⟩, fun q hq => ?_, fun k => ?_⟩
    · rcases List.mem_append.mp hq with z | z
      · simp [z]
      · simp [b q z]
    · obtain ⟨k1, k2, k3⟩ := List.nodup_append.mp k
      exact List.nodup_append.mpr ⟨k1, c k2, fun x hx y hy => k3 x hx y (b y hy)⟩
theorem de_pop {a : Expr} {y : Str} {ny : Pos} {w : WE} {apos ppos : Pos} (i : Nat) (hbm : PE X (.Call (.Attribute (.Name y ny) "pop" apos) [a] [] ppos) (tBM X.K "list" rPopAt (tVar i) (tCons (tDE E w) tNil))) : DE X E (.Call (.Attribute (.Name y ny) "pop" apos) [a] [] ppos) (wPop i w) := by
  refine pe_imp hbm fun σ H Q h => ?_
  obtain ⟨δ, N, F, P, Q', E', o, ⟨o1, ⟨c, hc, hl⟩, q'⟩, q, qe⟩ := h
  obtain ⟨v, fp, h1, h2, h3⟩ := o.sr.at_ i _ (lk_get o1)
  have ev : v = .ref (rA (lk δ i)) := h2.1
  subst ev
  obtain ⟨fp0, r0, _⟩ := o.nr _ _ hc
  obtain ⟨p0, vs0, f0, e0, hp0, _, _⟩ := r0.lst_ hl
  cases e0
  refine ⟨_, h1, .inl ⟨rfl, _, SqL.of hp0⟩, δ, N, F, P, _, E', o, q', fun v H1 F1 P1 d N1 fq t1 oo r1 k1 q1 => ?_, qe⟩
  obtain ⟨d1, d2, d3, xs, n, y, hN1, hix, hy, hly, q2⟩ := q1
  obtain ⟨fp1, rr, _⟩ := oo.nr _ _ hN1
  obtain ⟨p, vs, f', e1, hp, rl, rfl⟩ := rr
  cases e1
  obtain ⟨u, fu, g1, g2, _, _⟩ := rl.get hy
  have z := Rp.lf _ _ _ g2 hly
  subst z
  obtain ⟨s1, _, _, _⟩ := ixN_seq hix
  refine ⟨_, vs, _, n, u, rfl, by rw [r1.int_ d1], hp, d2, d3, by rw [← rl.length]; exact s1, g1, ?_⟩
  obtain ⟨P', o', t'⟩ := oo.writeL (π := []) (xs := xs) (ys := xs.eraseIdx n) (ws := vs.eraseIdx n) (g := []) (Ex.refl _) hN1 .nil hp (by simp) List.nodup_nil fun f r nd ng => by
    obtain ⟨f', a, b, c⟩ := r.erase n
    exact ⟨f', a, c nd, fun q hq => .inl (b q hq)⟩
  have g3 : Rp (upd H1 (rA (lk δ i)) (.lst (vs.eraseIdx n))) y u [] := Rp.keep (fun q vs z => by rw [upd_ne (fun k => by rw [k, hp] at z; cases z)]; exact z) _ _ _ g2 (by simp)
  exact q u _ F1 P' y _ [] (t1.trans t') o' g3 (by simp) q2
end

def startD (n : Nat) (ds : List D) : Loc := ds.map some ++ List.replicate (n - ds.length) none
def ro (N : Nm) : Nm := fun a => (N a).map fun c => ⟨false, c.d⟩
theorem srep_start {F : Addr → Prop} {H : Hp} {N : List Str} {vs : List V} {ds : List D} {fps : List Addr} (r : RpL H ds vs fps) (h : ∀ p ∈ fps, F p) (hf : ∀ p, F p → ∃ o, H p = some o) (hl : ds.length ≤ N.length) : SRep F H (L2.start N vs) (startD N.length ds) := by
  refine ⟨by simp [startD, L2.start, r.length], hf, fun i d q => ?_⟩
  unfold startD at q
  by_cases hi : i < ds.length
  · rw [List.getElem?_append_left (by simpa using hi), List.getElem?_map] at q
    cases e : ds[i]? with
    | none => rw [e] at q; cases q
    | some d' =>
      rw [e] at q
      cases q
      obtain ⟨v, f, h1, h2, h3, _⟩ := r.get e
      refine ⟨v, f, ?_, h2, fun p hp => h p (h3 p hp)⟩
      unfold L2.start
      rw [List.getElem?_append_left (by rw [List.length_map, ← r.length]; exact hi), List.getElem?_map, h1]
      rfl
  · rw [List.getElem?_append_right (by simpa using hi)] at q
    have := List.mem_of_getElem? q
    have := List.eq_of_mem_replicate this
    cases this
section
variable {P : Program} {w : World} {K : PySem.W.Frag} {mg : Str → Option Value} {base : Heap}
theorem fn_pure {x qual : Str} {st : Stmt} {f : Addr} {fd : FuncData} {N ps : List Str} {k n : Nat} {φ : List D → Nm → PV} (F : L2.Fun K x qual st f fd) (S : FnScope N ps (defScope st)) (hn : ps.length = n) (hN : n ≤ N.length)
    (hbody : ∀ (cdv : Value) (A : Around) (outer : List Env) (s : Shared) (H : Hp) (E : XK), Room k (A.deeper (PyProof.Rows.envOfC qual (defScope st) s.heap.objs.size f cdv)) →
      ∃ w', DSs (cxOf (L2.CX P w) P w K mg base N qual (defScope st) f cdv A outer s H E) E0 true (defBody st) w' ∧
        ∀ ds M, ds.length = n → (φ ds M).ok → w' { nx := fun _ _ => (φ ds M).val = .non, rt := fun d M' => RES M' d (φ ds M).val } (startD N.length ds) (ro M)) :
    FnOk P w K mg base (L2.CX P w) (k + 1) f fd ps (spP n φ) := by
  refine F.okX S (fun vs H Q E h => ?_) (fun cdv A outer s H vs Q E hr h => ?_)
  · obtain ⟨ds, M, fps, rl, _, hl, _⟩ := h
    rw [← rl.length, hl, hn]
  · obtain ⟨ds, M, fps, rl, nr, hl, ok, q⟩ := h
    obtain ⟨w', hw, body⟩ := hbody cdv A outer s H E hr
    refine ⟨_, hw, ?_⟩
    have hcell : ∀ a, ∃ fp, ∀ c, M a = some c → Rp H c.d (.ref a) fp ∧ a ∈ fp := fun a => by
      cases e : M a with
      | none => exact ⟨[], fun c z => by cases z⟩
      | some c => obtain ⟨fp, h1, h2⟩ := nr a c e; exact ⟨fp, fun c' z => by cases z; exact ⟨h1, h2⟩⟩
    have wf : Wf (ro M) (fun p => p ∈ fps) (fun _ => False) H (fun a => Classical.choose (hcell a)) := by
      have rocell : ∀ a c, ro M a = some c → ∃ c', M a = some c' ∧ c.d = c'.d ∧ c.w = false := fun a c h => by
        unfold ro at h
        cases e : M a with
        | none => rw [e] at h; cases h
        | some c' => rw [e] at h; cases h; exact ⟨c', rfl, rfl, rfl⟩
      refine ⟨fun a c h => ?_, fun a c h hw => ?_, fun a b c e _ h hw => ?_, fun p hp => ⟨id, let ⟨o, ho, _⟩ := RpL.there _ _ _ rl p hp; ⟨o, ho⟩⟩, fun p z => z.elim⟩
      · obtain ⟨c', h1, h2, _⟩ := rocell a c h
        rw [h2]
        exact Classical.choose_spec (hcell a) c' h1
      · obtain ⟨c', _, _, h3⟩ := rocell a c h
        rw [h3] at hw; cases hw
      · obtain ⟨c', _, _, h3⟩ := rocell a c h
        rw [h3] at hw; cases hw
    have sr := srep_start (N := N) rl (F := fun p => p ∈ fps) (fun p hp => hp) (fun p hp => let ⟨o, ho, _⟩ := RpL.there _ _ _ rl p hp; ⟨o, ho⟩) (by omega)
    have exH : ∀ {F' P' : Addr → Prop} {H' : Hp}, Tr (fun p => p ∈ fps) (fun _ => False) H F' P' H' → Ex H H' := fun t p o h => t.st p o h id
    refine ⟨startD N.length ds, ro M, fun p => p ∈ fps, fun _ => False, _, ⟨⟨_, wf⟩, sr⟩, body ds M hl ok, ?_, ?_, ?_, ?_, EC.no⟩
    · exact fun σ' H' F' P' δ' N' t o e => q .non H' [] (exH t) (by rw [e]; exact ⟨rfl, rfl⟩) ⟨List.nodup_nil, by simp⟩
    · exact fun _ _ _ _ _ _ _ _ z => z.elim
    · exact fun _ _ _ _ _ _ _ _ z => z.elim
    · intro v H' F' P' d N' fp t ⟨fpm, w2⟩ r rt re
      unfold RtC at rt
      rw [if_pos rfl] at rt
      obtain ⟨fp', h1, h2, h3⟩ := w2.res d v fp r rt.1 (fun p hp => (rt.2 p hp).2.1) re.1
      rw [re.2] at h1
      refine q v H' fp' (exH t) h1 ⟨h2, fun p hp => ?_⟩
      rcases h3 p hp with z | ⟨a, _, z, zP⟩
      · exact (rt.2 p z).1
      · rcases t.pw p zP with k | k
        · exact k.elim
        · exact k
theorem fn_mut {x qual : Str} {st : Stmt} {f : Addr} {fd : FuncData} {N ps : List Str} {k n : Nat} {sp : SpD} (F : L2.Fun K x qual st f fd) (S : FnScope N ps (defScope st)) (hn : ps.length = n) (hN : n ≤ N.length)
    (hbody : ∀ (cdv : Value) (A : Around) (outer : List Env) (s : Shared) (H : Hp) (E : XK), Room k (A.deeper (PyProof.Rows.envOfC qual (defScope st) s.heap.objs.size f cdv)) →
      ∃ w', DSs (cxOf (L2.CX P w) P w K mg base N qual (defScope st) f cdv A outer s H E) E false (defBody st) w' ∧
        ∀ ds M Q' E', ds.length = n → sp ds M Q' E' → w' { nx := fun _ M' => Q' .non M', rt := Q', ex := E' } (startD N.length ds) M) :
    FnOk P w K mg base (L2.CX P w) (k + 1) f fd ps (spM n sp) := by
  refine F.okX S (fun vs H Q E h => ?_) (fun cdv A outer s H vs Q E hr h => ?_)
  · obtain ⟨ds, M, F', P', Q', E', fps, hl, _, rl, _⟩ := h
    rw [← rl.length, hl, hn]
  · obtain ⟨ds, M, F', P', Q', E', fps, hl, ⟨fpm, wf⟩, rl, hF, hsp, q, qe⟩ := h
    obtain ⟨w', hw, body⟩ := hbody cdv A outer s H E hr
    refine ⟨_, hw, ?_⟩
    have sr := srep_start (N := N) rl (F := F') hF (fun p hp => (wf.fr p hp).2) (by omega)
    refine ⟨startD N.length ds, M, F', P', _, ⟨⟨_, wf⟩, sr⟩, body ds M Q' E' hl hsp, ?_, ?_, ?_, ?_, qe⟩
    · exact fun σ' H' F1 P1 δ' N' t o e => q .non H' F1 P1 .non N' [] t o.wf ⟨rfl, rfl⟩ (by simp) e
    · exact fun _ _ _ _ _ _ _ _ z => z.elim
    · exact fun _ _ _ _ _ _ _ _ z => z.elim
    · intro v H' F1 P1 d N' fp t w2 r rt re
      unfold RtC at rt
      rw [if_neg Bool.false_ne_true] at rt
      exact q v H' F1 P1 d N' fp t w2 r rt re
end
end DL
set_option maxHeartbeats 4000000
namespace DL
open PySem L2
section
variable {X : Cx} {E : XK} {c c1 c2 c3 : Cl} {pos p : Pos} {x : Str} {rc : Bool} {s : Stmt} {ss : List Stmt} {w u : WS} {tg : Expr}
def catLF (x y : D) : PV := ⟨IsL x ∧ IsL y ∧ (toL x).length + (toL y).length ≤ SZ ∧ lfs (toL x) ∧ lfs (toL y), .lst (toL x ++ toL y)⟩
theorem dp_catF {a b : Expr} {f g : PF} (ha : DP X c1 a f) (hb : DP X c2 b g) : DP X c (.BinOp a .Add b pos) (p2 catLF f g) :=
  dp_bin (hf := catLF) op_cat ha hb fun F H0 H H2 x y v w fa fb Q e0 e1 rx ry tha k1 k2 ok q => by
    obtain ⟨o1, o2, o3, o4, o5⟩ := ok
    obtain ⟨p, vs, f1, rfl, hp, rl, rfl⟩ := rx.lst_ o1
    obtain ⟨p', vs', f2, rfl, hp', rl', rfl⟩ := ry.lst_ o2
    have z1 := RpL.lf _ _ _ rl o4
    have z2 := RpL.lf _ _ _ rl' o5
    subst z1 z2
    refine ⟨p, p', vs, vs', rfl, rfl, hp, hp', sz (by rw [← rl.length, ← rl'.length]; exact o3), fun l hl => ?_⟩
    exact new_lst (c := c) (F := F) (e0.trans e1) (rl.append rl') Cl.nil hl q
theorem ds_setLc_ {i : Nat} {y : Str} {py : Pos} {elt tg iter : Expr} {ifs : List Expr} {scope : Scope} {pos spos : Pos} {te : TE} (h : PS X (.Assign [.Name y py] (.ListComp elt [⟨tg, iter, ifs, 0⟩] scope pos) spos) (tAsg te (gName i)))
    {f : PF} (hk : ∀ σ H Q, tP .cln f σ H Q → te σ H Q) : DS X E rc (.Assign [.Name y py] (.ListComp elt [⟨tg, iter, ifs, 0⟩] scope pos) spos) (sSet i (wP f)) := ps_imp h fun D σ H h => by
  obtain ⟨δ, N, F, P, K, o, ⟨ok, q⟩, e⟩ := h
  refine hk σ H _ ⟨δ, N, F, o.sr, o.nr, ok, fun v H' fp e1 r k => ?_⟩
  obtain ⟨o2, t⟩ := cln_grow o e1 k (Rp.there _ _ _ r)
  exact e.nx _ H' _ P _ N t ⟨o2.wf, o2.sr.set r (fun p hp => .inr hp)⟩ q
theorem ds_setLcM_ {i : Nat} {y : Str} {py : Pos} {elt tg iter : Expr} {ifs : List Expr} {scope : Scope} {pos spos : Pos} {te : TE} (h : PS X (.Assign [.Name y py] (.ListComp elt [⟨tg, iter, ifs, 0⟩] scope pos) spos) (tAsg te (gName i)))
    {f : PF} (hk : ∀ σ H Q, tP .frs f σ H Q → te σ H Q) : DS X E rc (.Assign [.Name y py] (.ListComp elt [⟨tg, iter, ifs, 0⟩] scope pos) spos) (sSetM i f) := ps_imp h fun D σ H h => by
  obtain ⟨δ, N, F, P, K, o, ⟨ok, kc, q⟩, e⟩ := h
  refine hk σ H _ ⟨δ, N, F, o.sr, o.nr, ok, fun v H' fp e1 r k => ?_⟩
  obtain ⟨a, rfl, ha⟩ := r.cell kc
  obtain ⟨h1, o1, t1⟩ := o.alloc e1 r ha k.1 k.2
  exact e.nx _ H' F _ _ _ t1 ⟨o1.wf, o1.sr.set (d := .ref a) (fp := []) ⟨rfl, rfl⟩ (by simp)⟩ (q a h1)
end
end DL
set_option maxHeartbeats 4000000
namespace DL
open PySem L2
abbrev bAddI : D → D → PV := bI (fun _ _ => True) fun i j => .int (i + j)
abbrev bSub : D → D → PV := bI (fun _ _ => True) fun i j => .int (i - j)
abbrev bMul : D → D → PV := bI CMul fun i j => .int (i * j)
abbrev bMod : D → D → PV := bI (fun _ j => 0 < j) fun i j => .int (i % j)
abbrev bFdiv : D → D → PV := bI CDivW fun i j => .int (i / j)
abbrev bPow : D → D → PV := bI CPow fun i j => .int (i ^ j.toNat)
abbrev bMax2 : D → D → PV := bI (fun _ _ => True) fun i j => .int (max i j)
abbrev bMin2 : D → D → PV := bI (fun _ _ => True) fun i j => .int (min i j)
abbrev cLt : D → D → TV := cI fun i j => decide (i < j)
abbrev cLe : D → D → TV := cI fun i j => decide (i ≤ j)
abbrev cGt : D → D → TV := cI fun i j => decide (j < i)
abbrev cGe : D → D → TV := cI fun i j => decide (j ≤ i)
def tIsN (f : PF) : TF := fun δ N => ⟨(f δ N).ok, isN (f δ N).val⟩
def tNotN (f : PF) : TF := fun δ N => ⟨(f δ N).ok, !isN (f δ N).val⟩
def pNeg (f : PF) : PF := fun δ N => ⟨(f δ N).ok ∧ IsI (f δ N).val, .int (-(toI (f δ N).val))⟩
def sfN : SF := fun _ _ => (True, none)
def sfS (f : PF) : SF := fun δ N => ((f δ N).ok ∧ IsI (f δ N).val, some (toI (f δ N).val))
section
variable {X : Cx} {E : XK} {c c1 c2 c3 : Cl} {pos p : Pos}
def pIsi2 (f : PF) : PF := fun δ N => ⟨(f δ N).ok ∧ Ty (f δ N).val, .bl (isiB "tuple" (f δ N).val || isiB "list" (f δ N).val)⟩
theorem Ty.kit2 {d : D} {K : PySem.W.Frag} (h : Ty d) : PySem.W.kitAny K (.type (tyN d)) [.type "tuple", .type "list"] = some (isiB "tuple" d || isiB "list" d) := by
  have h1 := kit_ty (K := K) (h.kit kit_tuple)
  have h2 := kit_ty (K := K) (h.kit kit_list)
  unfold PySem.W.kitAny
  rw [h1]
  unfold PySem.W.kitAny
  rw [h2]
  unfold PySem.W.kitAny
  cases isiB "tuple" d <;> cases isiB "list" d <;> rfl
theorem dp_isi2 {a : Expr} {f : PF} {p1 p2 p3 x1} (hg : Gl X "isinstance") (hm : X.mg "isinstance" = none) (hgT : Gl X "tuple") (hmT : X.mg "tuple" = none) (hgL : Gl X "list") (hmL : X.mg "list" = none) (ha : DP X c1 a f)
    (hs : starEach [a, .Tuple [.Name "tuple" p1, .Name "list" p2] x1 p3] X.env = (false, eval a X.env) :: starEach [.Tuple [.Name "tuple" p1, .Name "list" p2] x1 p3] X.env := by rfl)
    (hpl : (backTo pos (starEach [.Tuple [.Name "tuple" p1, .Name "list" p2] x1 p3] X.env)).any (·.1) = false := by rfl) :
    DP X c (.Call (.Name "isinstance" p) [a, .Tuple [.Name "tuple" p1, .Name "list" p2] x1 p3] [] pos) (pIsi2 f) := by
  refine pe_imp (pe_callB call_isiT hg hm (by decide +kernel) (pa_cons ha (pa_cons (pe_tup (pa_cons (pe_bltn (v := .ty "tuple") hgT hmT (by decide +kernel) rfl (by decide) (by decide)) (pa_cons (pe_bltn (v := .ty "list") hgL hmL (by decide +kernel) rfl (by decide) (by decide)) pa_nil))) pa_nil) hs) (he := hs) (hpl := hpl)) fun σ H Q h => ?_
  obtain ⟨δ, N, F, hS, hn, ok, q⟩ := h
  refine ⟨δ, N, F, hS, hn, ok.1, fun v H1 fa e1 r1 k1 => ?_⟩
  refine ⟨by decide, fun pt hp => ?_⟩
  have e2 : Ex H1 (upd H1 pt (.tup [.ty "tuple", .ty "list"])) := Ex.new hp
  exact ⟨v, pt, [.ty "tuple", .ty "list"], .type (tyN (f δ N).val), [.type "tuple", .type "list"], _, rfl, upd_same, .cons (.ty _) (.cons (.ty _) .nil), (r1.ex e2).ty ok.2, ok.2.kit2, q _ _ [] (e1.trans e2) ⟨rfl, rfl⟩ Cl.nil⟩
def UInts (d : D) : Prop := IsU d ∧ ∀ x ∈ toL d, IsI x
def maxL (a : List Int) (ys : List (List Int)) : List Int := ys.foldl (fun a y => if a < y then y else a) a
def maxLs : List (List Int) → List Int
  | [] => []
  | x :: xs => maxL x xs
def maxU (d : D) : PV := ⟨IsL d ∧ toL d ≠ [] ∧ ∀ x ∈ toL d, UInts x, .tup ((maxLs ((toL d).map toIs)).map .int)⟩
def pyU (z : List Int) : PyData := .tuple (z.map .int)
theorem alikeAll_ints : ∀ xs ys : List Int, PySem.W.alikeAll (xs.map .int) (ys.map .int) = true
  | [], ys => by cases ys <;> simp [PySem.W.alikeAll]
  | x :: xs, [] => by simp [PySem.W.alikeAll]
  | x :: xs, y :: ys => by simp [PySem.W.alikeAll, PySem.W.alike, alikeAll_ints xs ys]
theorem alike_pyU (x y : List Int) : PySem.W.alike (pyU x) (pyU y) = true := by simp [pyU, PySem.W.alike, alikeAll_ints]
theorem dataLt_pyU (x y : List Int) : PySem.W.dataLt (pyU x) (pyU y) = decide (x < y) := by
  rw [← PySem.W.dataLt_ints]; unfold pyU; rw [PySem.W.dataLt_tuple]; rfl
theorem maxD_pyU : ∀ (ys : List (List Int)) (a : List Int), PySem.W.maxD (pyU a) (ys.map pyU) = pyU (maxL a ys)
  | [], a => rfl
  | y :: ys, a => by
    have ih := maxD_pyU ys (if a < y then y else a)
    unfold PySem.W.maxD maxL at ih ⊢
    rw [List.map_cons, List.foldl_cons, List.foldl_cons, ← ih, dataLt_pyU]
    by_cases h : a < y <;> simp [h]
theorem depth_ints : ∀ z : List Int, PyData.depthAll (z.map .int) ≤ 1
  | [] => by simp [PyData.depthAll]
  | x :: xs => by have := depth_ints xs; simp [PyData.depthAll, PyData.depth]; omega
theorem depth_pyU : ∀ zs : List (List Int), PyData.depthAll (zs.map pyU) ≤ 3
  | [] => by simp [PyData.depthAll]
  | x :: xs => by have := depth_pyU xs; have := depth_ints x; simp [PyData.depthAll, PyData.depth, pyU]; omega
theorem DpAll.at {K : PySem.W.Frag} {H : Hp} : ∀ {vs : List V} {ds : List PyData} {us : List Value} {i : Nat} {u : Value}, DpAll K H vs ds → Vals vs us → us[i]? = some u → ∃ v d, vs[i]? = some v ∧ ds[i]? = some d ∧ Dp K H v d ∧ RelV v u
  | _, _, _, _, _, .nil, .nil, h => by simp at h
  | v :: _, d :: _, _, 0, u, .cons a _, .cons b _, h => by
    have e := Option.some.inj h
    subst e
    exact ⟨v, d, rfl, rfl, a, b⟩
  | _, _, _, i + 1, u, .cons _ a, .cons _ b, h => by
    obtain ⟨v, d, h1, h2, h3⟩ := DpAll.at a b (i := i) (u := u) (by simpa using h)
    exact ⟨v, d, by simpa using h1, by simpa using h2, h3⟩
theorem call_maxU (hu : X.A.units + 64 < cLine) (hc : X.calm = true) : CallR X (.builtin "max") (fun xs H Q => ∃ p vs, ∃ (x : List Int) (xss : List (List Int)), xs = [.ref p] ∧ SqL X.K H p vs ∧ DpAll X.K H vs ((x :: xss).map pyU) ∧
    ∀ (i : Nat) v, vs[i]? = some v → (x :: xss)[i]? = some (maxL x xss) → Q v H) := by
  intro pins s σ H xs us Q I r h
  obtain ⟨p, vs, x, xss, rfl, hs, hd, q⟩ := h
  obtain ⟨its, rv, hl, _⟩ := I.list hs
  rw [Vals.ref1 r]
  obtain ⟨as, hr⟩ := Dp.readsAll I _ _ _ hd rv
  have hal : PySem.W.AlikeAll (pyU x :: xss.map pyU) := by
    refine ⟨fun a ha b hb => ?_, fun a ha => ?_⟩
    · rw [← List.map_cons] at ha hb
      obtain ⟨a', _, rfl⟩ := List.mem_map.mp ha
      obtain ⟨b', _, rfl⟩ := List.mem_map.mp hb
      exact alike_pyU _ _
    · rw [← List.map_cons] at ha
      obtain ⟨a', _, rfl⟩ := List.mem_map.mp ha
      exact fun z => nomatch z
  have hd3 := depth_pyU (x :: xss)
  refine PySem.W.max_list_data (I.ok.hd hc) hl.isList hr hal (by rw [← List.map_cons]; omega) fun i v h' tk bs hv rm k => ?_
  rw [maxD_pyU] at rm
  obtain ⟨v', d, h1, h2, h3, h4⟩ := DpAll.at hd rv (i := i) (u := v) (by simpa using hv)
  obtain ⟨bs', r2⟩ := Dp.reads I d _ _ h3 h4
  rw [List.getElem?_map] at h2
  obtain ⟨z, h5, rfl⟩ := Option.map_eq_some_iff.mp h2
  have e := PySem.W.alike_unique _ _ _ _ _ (alike_pyU z (maxL x xss)) (PySem.W.reads_keeps k r2) rm
  have e' : z = maxL x xss := by
    have e1 : z.map PyData.int = (maxL x xss).map PyData.int := by unfold pyU at e; exact PyData.tuple.inj e
    have : ∀ a b : List Int, a.map PyData.int = b.map PyData.int → a = b := by
      intro a; induction a with
      | nil => intro b h; cases b with | nil => rfl | cons _ _ => simp at h
      | cons y ys ih => intro b h; cases b with | nil => simp at h | cons w ws => simp at h; rw [h.1, ih ws (by simpa using h.2)]
    exact this _ _ e1
  subst e'
  exact ⟨v', H, I.kept k, h4, q i v' h1 h5⟩
theorem UInts.eq {d : D} (h : UInts d) : d = .tup ((toIs d).map .int) := by
  obtain ⟨h1, h2⟩ := h
  cases d <;> first | exact h1.elim | skip
  rename_i ts
  have : ∀ ts : List D, (∀ x ∈ ts, IsI x) → ts = (ts.map toI).map D.int := by
    intro ts; induction ts with
    | nil => intro _; rfl
    | cons a as ih => intro h; rw [List.map_cons, List.map_cons, ← ih fun x hx => h x (by simp [hx])]; rw [← (h a (by simp)).eq]
  exact congrArg D.tup (this ts h2)
theorem okD_ints (z : List Int) : okD 1 (.tup (z.map .int)) := by
  have : ∀ d ∈ z.map D.int, okD 0 d := by
    intro d hd; obtain ⟨i, _, rfl⟩ := List.mem_map.mp hd; trivial
  exact this
theorem toPy_ints (z : List Int) : toPy (.tup (z.map .int)) = pyU z := by
  unfold pyU; rw [toPy, toPys_map, List.map_map]; rfl
theorem toPys_U {ds : List D} (h : ∀ x ∈ ds, UInts x) : toPys ds = (ds.map toIs).map pyU := by
  rw [toPys_map, List.map_map]
  refine List.map_congr_left fun d hd => ?_
  rw [(h d hd).eq, toPy_ints]
  show pyU _ = pyU _
  congr 1
  simp [toIs, toL, Function.comp_def, toI]
theorem dp_maxU {a : Expr} {f : PF} (hu : X.A.units + 64 < cLine) (hc : X.calm = true) (hg : Gl X "max") (hm : X.mg "max" = none) (ha : DP X c1 a f) (hs : starEach [a] X.env = (false, eval a X.env) :: starEach [] X.env := by rfl) : DP X c (.Call (.Name "max" p) [a] [] pos) (p1 maxU f) :=
  cb1 (hf := maxU) (fun h => pe_callB (call_maxU hu hc) hg hm (by decide +kernel) h (he := hs) (hpl := by rfl)) ha (fun F H H1 d v fp Q e1 r k ok q => by
    obtain ⟨o1, o2, o3⟩ := ok
    obtain ⟨pp, vs, f1, rfl, hp, rl, rfl⟩ := r.lst_ o1
    have hdp := RpL.dp (K := X.K) 1 _ _ _ rl (fun x hx => by rw [(o3 x hx).eq]; exact okD_ints _)
    rw [toPys_U o3] at hdp
    have hne : (toL d).map toIs ≠ [] := by simpa using o2
    obtain ⟨x, xss, he⟩ : ∃ x xss, (toL d).map toIs = x :: xss := by
      cases h : (toL d).map toIs with
      | nil => exact absurd h hne
      | cons x xss => exact ⟨x, xss, rfl⟩
    rw [he] at hdp
    refine ⟨pp, vs, x, xss, rfl, SqL.of hp, hdp, fun i v hv hz => ?_⟩
    have hz2 : ((toL d).map toIs)[i]? = some (maxL x xss) := by rw [he]; exact hz
    rw [List.getElem?_map] at hz2
    obtain ⟨y, hy, ey⟩ := Option.map_eq_some_iff.mp hz2
    obtain ⟨v', f', h1, h2, _⟩ := rl.get hy
    rw [hv] at h1
    have e1 := Option.some.inj h1
    subst e1
    have hU := o3 y (List.mem_of_getElem? hy)
    rw [hU.eq, ey] at h2
    have hlf := Rp.lf _ _ _ h2 (lfs_iff.mpr fun d hd => by obtain ⟨i, _, rfl⟩ := List.mem_map.mp hd; trivial)
    subst hlf
    have e2 : maxLs ((toL d).map toIs) = maxL x xss := by rw [he]; rfl
    have q' := q v H1 [] (Ex.refl _) (by show Rp H1 (.tup _) v []; rw [e2]; exact h2) Cl.nil
    exact q') hs
end
end DL
set_option maxHeartbeats 4000000
namespace DL
open PySem L2
theorem loopD_ind (I : List D → Loc → Nm → Prop) {G : GF} {w : WS} {K : EndD} : ∀ {items : List D} {δ : Loc} {N : Nm}, I items δ N → (∀ δ N, I [] δ N → K.nx δ N) →
    (∀ d ds δ N (L : Loc → Nm → Prop), (∀ δ' N', I ds δ' N' → L δ' N') → I (d :: ds) δ N → (G d δ).ok ∧ w { K with nx := L, ct := L, bk := K.nx } (G d δ).loc N) → loopD G w K items δ N
  | [], δ, N, h0, he, hs => he δ N h0
  | d :: ds, δ, N, h0, he, hs => hs d ds δ N _ (fun δ' N' h => loopD_ind I h he hs) h0
theorem loopD_get (I : Nat → Loc → Nm → Prop) {G : GF} {w : WS} {K : EndD} {items : List D} {δ : Loc} {N : Nm} (h0 : I 0 δ N) (he : ∀ δ N, I items.length δ N → K.nx δ N)
    (hs : ∀ k d δ N (L : Loc → Nm → Prop), items[k]? = some d → (∀ δ' N', I (k + 1) δ' N' → L δ' N') → I k δ N → (G d δ).ok ∧ w { K with nx := L, ct := L, bk := K.nx } (G d δ).loc N) : loopD G w K items δ N := by
  refine loopD_ind (fun ds δ N => ∃ k, k ≤ items.length ∧ ds = items.drop k ∧ I k δ N) ⟨0, Nat.zero_le _, rfl, h0⟩ ?_ ?_
  · rintro δ N ⟨k, hk, e, i⟩
    have : items.length ≤ k := by
      have := congrArg List.length e; simp at this; omega
    have : k = items.length := by omega
    subst this
    exact he δ N i
  · rintro d ds δ N L hL ⟨k, hk, e, i⟩
    have hlt : k < items.length := by
      have := congrArg List.length e; simp at this; omega
    rw [List.drop_eq_getElem_cons hlt] at e
    obtain ⟨e1, e2⟩ := List.cons.inj e
    exact hs k d δ N L (by rw [List.getElem?_eq_getElem hlt, e1]) (fun δ' N' h => hL δ' N' ⟨k + 1, hlt, e2, h⟩) i
theorem loopD_rng (I : Nat → Loc → Nm → Prop) {G : GF} {w : WS} {K : EndD} {lo : Int} {n : Nat} {δ : Loc} {N : Nm} (h0 : I 0 δ N) (he : ∀ δ N, I n δ N → K.nx δ N)
    (hs : ∀ (k : Nat) δ N (L : Loc → Nm → Prop), k < n → (∀ δ' N', I (k + 1) δ' N' → L δ' N') → I k δ N → (G (.int (lo + k)) δ).ok ∧ w { K with nx := L, ct := L, bk := K.nx } (G (.int (lo + k)) δ).loc N) :
    loopD G w K ((rng lo n).map D.int) δ N := by
  refine loopD_get I h0 (fun δ N i => he δ N (by simpa [rng_length] using i)) fun k d δ N L hd hL i => ?_
  have hk : k < n := by
    have := (List.getElem?_eq_some_iff.mp hd).1; simpa [rng_length] using this
  rw [List.getElem?_map, rng_get lo n k hk] at hd
  cases hd
  exact hs k δ N L hk hL i
theorem loopD_ints (I : Nat → Loc → Nm → Prop) {G : GF} {w : WS} {K : EndD} {xs : List Int} {δ : Loc} {N : Nm} (h0 : I 0 δ N) (he : ∀ δ N, I xs.length δ N → K.nx δ N)
    (hs : ∀ (k : Nat) (x : Int) δ N (L : Loc → Nm → Prop), xs[k]? = some x → (∀ δ' N', I (k + 1) δ' N' → L δ' N') → I k δ N → (G (.int x) δ).ok ∧ w { K with nx := L, ct := L, bk := K.nx } (G (.int x) δ).loc N) :
    loopD G w K (xs.map D.int) δ N := by
  refine loopD_get I h0 (fun δ N i => he δ N (by simpa using i)) fun k d δ N L hd hL i => ?_
  rw [List.getElem?_map] at hd
  obtain ⟨x, hx, rfl⟩ := Option.map_eq_some_iff.mp hd
  exact hs k x δ N L hx hL i
theorem atI_nn {α : Type} {xs : List α} {i : Int} (h : 0 ≤ i) : atI xs i = xs[i.toNat]? := by
  unfold atI ixN
  rw [if_pos h]
  by_cases c : i < (xs.length : Int)
  · rw [if_pos c]; rfl
  · rw [if_neg c, List.getElem?_eq_none (by omega)]; rfl
theorem atI_nat {α : Type} {xs : List α} {n : Nat} : atI xs (n : Int) = xs[n]? := by rw [atI_nn (by omega)]; rfl
theorem atI_0 {α : Type} {x : α} {xs : List α} : atI (x :: xs) 0 = some x := by rw [atI_nn (by omega)]; rfl
theorem atI_1 {α : Type} {x y : α} {xs : List α} : atI (x :: y :: xs) 1 = some y := by rw [atI_nn (by omega)]; rfl
theorem atI_2 {α : Type} {x y z : α} {xs : List α} : atI (x :: y :: z :: xs) 2 = some z := by rw [atI_nn (by omega)]; rfl
theorem atI_last {α : Type} {xs : List α} {x : α} : atI (xs ++ [x]) (-1) = some x := by
  unfold atI ixN
  rw [if_neg (by omega), if_pos (by simp; omega)]
  have : ((-1 : Int) + ((xs ++ [x]).length : Nat)).toNat = xs.length := by simp; omega
  rw [this]; simp
theorem ixN_nn {n : Nat} {i : Int} (h : 0 ≤ i) (k : i < n) : ixN n i = some i.toNat := by unfold ixN; rw [if_pos h, if_pos k]
theorem updN_twice {N : Nm} {a : Addr} {c d : Cell} : updN (updN N a c) a d = updN N a d := by
  funext b; unfold updN; by_cases h : b = a <;> simp [h]
theorem RES_int {N : Nm} {i : Int} {d : D} : RES N (.int i) d ↔ d = .int i := by simp [RES, refsW, res]; exact ⟨fun h => h.symm, fun h => h.symm⟩
theorem RES_bl {N : Nm} {i : Bool} {d : D} : RES N (.bl i) d ↔ d = .bl i := by simp [RES, refsW, res]; exact ⟨fun h => h.symm, fun h => h.symm⟩
theorem RES_non {N : Nm} {d : D} : RES N .non d ↔ d = .non := by simp [RES, refsW, res]; exact ⟨fun h => h.symm, fun h => h.symm⟩
theorem RES_str {N : Nm} {i : Str} {d : D} : RES N (.str i) d ↔ d = .str i := by simp [RES, refsW, res]; exact ⟨fun h => h.symm, fun h => h.symm⟩
theorem RES_lst {N : Nm} {i : List D} {d : D} : RES N (.lst i) d ↔ d = .lst i := by simp [RES, refsW, res]; exact ⟨fun h => h.symm, fun h => h.symm⟩
theorem RES_ref {N : Nm} {a : Addr} {d t : D} (h : N a = some ⟨true, t⟩) : RES N (.ref a) d ↔ d = t := by simp [RES, refsW, res, h]; exact ⟨fun h => h.symm, fun h => h.symm⟩
theorem ress_ints {N : Nm} : ∀ xs : List Int, ress N (xs.map D.int) = xs.map D.int ∧ refsWs N (xs.map D.int) = []
  | [] => by simp [ress, refsWs]
  | x :: xs => by
    obtain ⟨h1, h2⟩ := ress_ints (N := N) xs
    simp [ress, refsWs, res, refsW, h1, h2]
theorem RES_U {N : Nm} {xs : List Int} {d : D} : RES N (.tup (xs.map D.int)) d ↔ d = .tup (xs.map D.int) := by
  obtain ⟨h1, h2⟩ := ress_ints (N := N) xs
  simp [RES, refsW, res, h1, h2]; exact ⟨fun h => h.symm, fun h => h.symm⟩
theorem lfs_ints : ∀ xs : List Int, lfs (xs.map D.int)
  | [] => by simp [lfs]
  | x :: xs => by simp [lfs, lf, lfs_ints xs]
theorem Ints_map {xs : List Int} : Ints (.lst (xs.map D.int)) := ⟨trivial, fun d hd => by obtain ⟨i, _, rfl⟩ := List.mem_map.mp (show d ∈ xs.map D.int from hd); trivial⟩
theorem toI_ints {xs : List Int} : (xs.map D.int).map toI = xs := by rw [List.map_map]; exact List.map_id xs
theorem toIs_lst {xs : List Int} : toIs (.lst (xs.map D.int)) = xs := toI_ints
theorem toIs_tup {xs : List Int} : toIs (.tup (xs.map D.int)) = xs := toI_ints
theorem lcRes_ints {G : GF} {ft : TF} {fe : PF} {δ0 : Loc} {N : Nm} (p : Int → Bool) (g : Int → Int) : ∀ {xs : List Int}, (∀ x ∈ xs, (ft (G (.int x) δ0).loc N).b = p x ∧ (p x = true → (fe (G (.int x) δ0).loc N).val = .int (g x))) →
    lcRes G ft fe δ0 N (xs.map D.int) = ((xs.filter p).map g).map D.int
  | [], _ => rfl
  | x :: xs, h => by
    have ih := lcRes_ints (G := G) (ft := ft) (fe := fe) (δ0 := δ0) (N := N) p g (xs := xs) fun y hy => h y (by simp [hy])
    obtain ⟨h1, h2⟩ := h x (by simp)
    unfold lcRes at ih ⊢
    rw [List.map_cons, List.filter_cons, List.filter_cons, h1]
    by_cases hp : p x = true
    · rw [if_pos hp, if_pos hp, List.map_cons, List.map_cons, List.map_cons, ih, h2 hp]
    · rw [if_neg hp, if_neg hp, ih]
theorem lcRes_gen {G : GF} {ft : TF} {fe : PF} {δ0 : Loc} {N : Nm} (p : D → Bool) (g : D → D) : ∀ {xs : List D}, (∀ x ∈ xs, (ft (G x δ0).loc N).b = p x ∧ (p x = true → (fe (G x δ0).loc N).val = g x)) →
    lcRes G ft fe δ0 N xs = (xs.filter p).map g
  | [], _ => rfl
  | x :: xs, h => by
    have ih := lcRes_gen (G := G) (ft := ft) (fe := fe) (δ0 := δ0) (N := N) p g (xs := xs) fun y hy => h y (by simp [hy])
    obtain ⟨h1, h2⟩ := h x (by simp)
    unfold lcRes at ih ⊢
    rw [List.filter_cons, List.filter_cons, h1]
    by_cases hp : p x = true
    · rw [if_pos hp, if_pos hp, List.map_cons, List.map_cons, ih, h2 hp]
    · rw [if_neg hp, if_neg hp, ih]
theorem lcRes_map {α : Type} {G : GF} {ft : TF} {fe : PF} {δ0 : Loc} {N : Nm} (k : α → D) (p : α → Bool) (g : α → D) {xs : List α} (h : ∀ x ∈ xs, (ft (G (k x) δ0).loc N).b = p x ∧ (p x = true → (fe (G (k x) δ0).loc N).val = g x)) :
    lcRes G ft fe δ0 N (xs.map k) = (xs.filter p).map g := by
  induction xs with
  | nil => rfl
  | cons x xs ih =>
    have ih := ih fun y hy => h y (by simp [hy])
    obtain ⟨h1, h2⟩ := h x (by simp)
    unfold lcRes at ih ⊢
    rw [List.map_cons, List.filter_cons, List.filter_cons, h1]
    by_cases hp : p x = true
    · rw [if_pos hp, if_pos hp, List.map_cons, List.map_cons, ih, h2 hp]
    · rw [if_neg hp, if_neg hp, ih]
theorem IsI_int {i : Int} : IsI (.int i) = True := rfl
theorem toI_int {i : Int} : toI (.int i) = i := rfl
theorem IsB_bl {b : Bool} : IsB (.bl b) = True := rfl
theorem toB_bl {b : Bool} : toB (.bl b) = b := rfl
theorem IsS_str {s : Str} : IsS (.str s) = True := rfl
theorem toS_str {s : Str} : toS (.str s) = s := rfl
theorem IsL_lst {xs : List D} : IsL (.lst xs) = True := rfl
theorem IsU_tup {xs : List D} : IsU (.tup xs) = True := rfl
theorem IsQ_lst {xs : List D} : IsQ (.lst xs) = True := rfl
theorem IsQ_tup {xs : List D} : IsQ (.tup xs) = True := rfl
theorem toL_lst {xs : List D} : toL (.lst xs) = xs := rfl
theorem toL_tup {xs : List D} : toL (.tup xs) = xs := rfl
theorem drf_int {N : Nm} {i : Int} : drf N (.int i) = .int i := rfl
theorem drf_bl {N : Nm} {i : Bool} : drf N (.bl i) = .bl i := rfl
theorem drf_str {N : Nm} {i : Str} : drf N (.str i) = .str i := rfl
theorem drf_non {N : Nm} : drf N .non = .non := rfl
theorem drf_lst {N : Nm} {i : List D} : drf N (.lst i) = .lst i := rfl
theorem drf_tup {N : Nm} {i : List D} : drf N (.tup i) = .tup i := rfl
theorem drf_obj {N : Nm} {C dx : Addr} {ns : List Str} {i : List D} : drf N (.obj C dx ns i) = .obj C dx ns i := rfl
theorem drf_ref {N : Nm} {a : Addr} {c : Cell} (h : N a = some c) : drf N (.ref a) = c.d := by simp only [drf, h]
theorem lenD_lst {xs : List D} : lenD (.lst xs) = ⟨True, .int xs.length⟩ := rfl
theorem lenD_tup {xs : List D} : lenD (.tup xs) = ⟨True, .int xs.length⟩ := rfl
theorem intD_int {i : Int} : intD (.int i) = ⟨True, .int i⟩ := rfl
theorem intD_bl {b : Bool} : intD (.bl b) = ⟨True, .int (cond b 1 0)⟩ := by cases b <;> rfl
theorem rA_ref {a : Addr} : rA (some (.ref a)) = a := rfl
theorem lf_int {i : Int} : lf (.int i) = True := by simp [lf]
theorem lf_bl {i : Bool} : lf (.bl i) = True := by simp [lf]
theorem lf_non : lf .non = True := by simp [lf]
theorem lf_str {i : Str} : lf (.str i) = True := by simp [lf]
theorem lf_ref {a : Addr} : lf (.ref a) = True := by simp [lf]
theorem IsC_lst {xs : List D} : IsC (.lst xs) = True := rfl
theorem Ty_int {i : Int} : Ty (.int i) = True := rfl
theorem Ty_tup {i : List D} : Ty (.tup i) = True := rfl
theorem Ty_lst {i : List D} : Ty (.lst i) = True := rfl
theorem Ty_bl {i : Bool} : Ty (.bl i) = True := rfl
theorem Ty_str {i : Str} : Ty (.str i) = True := rfl
theorem Ty_non : Ty .non = True := rfl
theorem all_ints {xs : List Int} {p : D → Prop} : (∀ d ∈ xs.map D.int, p d) ↔ ∀ x ∈ xs, p (.int x) :=
  ⟨fun h x hx => h _ (List.mem_map.mpr ⟨x, hx, rfl⟩), fun h d hd => by obtain ⟨x, hx, rfl⟩ := List.mem_map.mp hd; exact h x hx⟩
theorem minD_ok {xs : List Int} : (minD (.lst (xs.map D.int))).ok = (xs ≠ []) := by
  unfold minD; rw [toIs_lst]; exact propext ⟨fun h => h.2, fun h => ⟨Ints_map, h⟩⟩
theorem minD_val {xs : List Int} : (minD (.lst (xs.map D.int))).val = .int (minI xs) := by unfold minD; rw [toIs_lst]
theorem maxD_ok {xs : List Int} : (maxD (.lst (xs.map D.int))).ok = (xs ≠ []) := by
  unfold maxD; rw [toIs_lst]; exact propext ⟨fun h => h.2, fun h => ⟨Ints_map, h⟩⟩
theorem maxD_val {xs : List Int} : (maxD (.lst (xs.map D.int))).val = .int (maxI xs) := by unfold maxD; rw [toIs_lst]
theorem sumD_ok {xs : List Int} : (sumD (.lst (xs.map D.int))).ok = True := by
  unfold sumD; exact propext ⟨fun h => trivial, fun h => Ints_map⟩
theorem sumD_val {xs : List Int} : (sumD (.lst (xs.map D.int))).val = .int xs.sum := by unfold sumD; rw [toIs_lst]
theorem sortD_ok {xs : List Int} : (sortD (.lst (xs.map D.int))).ok = True := by
  unfold sortD; exact propext ⟨fun h => trivial, fun h => Ints_map⟩
theorem sortD_val {xs : List Int} : (sortD (.lst (xs.map D.int))).val = .lst ((sortI xs).map .int) := by unfold sortD; rw [toIs_lst]
theorem sub_nil {t : D} : sub t [] = some t := by unfold sub; rfl
theorem put_nil {t e : D} : put t [] e = e := by unfold put; rfl
theorem drf_upd {N : Nm} {a : Addr} {c : Cell} : drf (updN N a c) (.ref a) = c.d := drf_ref updN_same
theorem cdivW {i j : Int} (h : 0 < j) (k : j < 4294967296) : CDivW i j := by
  refine ⟨h, Nat.lt_trans ((Nat.log2_lt (by omega)).mpr (show j.natAbs < 2 ^ 32 by omega)) (by decide)⟩
end DL
set_option maxHeartbeats 4000000
namespace DL
open PySem PyProof.Rows Srt SrtO L2
section
variable {prog : Program} {w : World} {A : Around} {E : Value → Shared → Prop} {s : Shared}
theorem collT {t : Addr} {us : List Value} {Z : List Value → Shared → Prop} (ht : IsTup s.heap t us.toArray) (hz : us.length ≤ sizeLine)
    (q : Z us { s with heap := (s.heap.push (seqObj "list" #[] 0)).update s.heap.objs.size (Obj.mapSeq (· ++ us.toArray)) }) : wpAny (model prog w) A (collect (.ref t)) Z E s := by
  obtain ⟨ob, hb, hcl, m, hda⟩ := ht
  unfold collect
  refine wpAny_bind (wpAny_runValue (codeAny_builtin entry_proto_collect' ?_)); show wpAny _ _ (do again (.builtin "list.__iadd__" ⟨[← newList [], .ref t], []⟩)) _ _ s
  refine wpAny_bind (wpAny_newList (wpAny_pure ⟨Code.quiet_builtin _ (by decide +kernel), codeAny_builtin entry_list_iadd' ?_⟩)); show wpAny _ _ (Builtin.List.listExtendWith (.ref s.heap.objs.size) (.ref t) (.ref s.heap.objs.size)) _ _ { s with heap := s.heap.push (seqObj "list" #[] 0) }
  unfold Builtin.List.listExtendWith
  have hb' : (s.heap.push (seqObj "list" #[] 0)).get? t = some ob := Heap.get?_push_of_some _ hb
  refine wpAny_bind (wpAny_typeOf (T := "tuple") ⟨ob, hb', hcl⟩ ?_)
  have e : (Value.type "tuple" == Value.type "tuple") = true := by rfl
  rw [if_pos (by rw [e]; simp)]
  refine wpAny_bind (listItems_at hb' hda ?_); refine wpAny_bind (listItems_at (xs := #[]) (n := 0) (Heap.get?_push_size _ rfl) rfl ?_)
  rw [if_neg (by simp)]
  refine wpAny_bind (listUpdate_at (xs := #[]) (n := 0) (Heap.get?_push_size _ rfl) rfl ?_ (Nat.zero_le _) (by show (#[] ++ us.toArray).size ≤ sizeLine + 1; simp only [Array.size_append, List.size_toArray, List.length_nil]; omega)); refine wpAny_pure ?_
  show wpAny (model prog w) A (do
      let ob ← load s.heap.objs.size
      match ob.data with
      | .seq ys _ => pure ys.toList
      | _ => unsupported "internal:collect") Z E { s with heap := (s.heap.push (seqObj "list" #[] 0)).update s.heap.objs.size (Obj.mapSeq (· ++ us.toArray)) }
  refine wpAny_bind (wpAny_load (get?_update_seq (Heap.get?_push_size _ rfl) _) ?_); show wpAny _ _ (pure ((#[] : Array Value) ++ us.toArray).toList) Z E _
  rw [show ((#[] : Array Value) ++ us.toArray).toList = us by simp]
  exact wpAny_pure q
theorem sortedT {t : Addr} {us : List Value} {b : Bool} {kw : List (Str × Value)} {ltv : Value → Value → Bool} {Z : Value → Shared → Prop} (hk : ∀ a, Builtin.«list.sort» ⟨[.ref a], kw⟩ = Builtin.«list.sort» ⟨[.ref a], [(Str.ofString "reverse", .bool b)]⟩)
    (a1 : argsOk "sorted" ⟨[.ref t], kw⟩) (a2 : ∀ a, argsOk "list.sort" ⟨[a], kw⟩) (O : Swo ltv) (ht : IsTup s.heap t us.toArray) (hz : us.length ≤ sizeLine)
    (hS : 2 ≤ us.length → ∀ (h1 : Heap) (a : Addr), h1.get? a = some (seqObj "list" us.toArray 0) → (∀ c o, s.heap.get? c = some o → c ≠ a ∧ h1.get? c = some o) → SortableO prog w A.in1.in1 { s with heap := h1 } a us ltv)
    (q : ∀ out : List Value, Srtd ltv out → Stb ltv out (if b = true then us.reverse else us) → Z (.ref (s.heap.objs.size + 1)) { s with heap := sortedAll s.heap us (if b = true then out.toArray.reverse else out.toArray) }) :
    wpAny (model prog w) A (call (.builtin "sorted") [.ref t] kw) Z E s := by
  refine call_function_entry_kw kind_sorted plain_sorted entry_sorted a1 ?_
  unfold Builtin.«sorted»
  refine wpAny_bind (m := checkCount "sorted" 1 1 _) (wpAny_pure ?_); refine wpAny_bind (collT ht hz ?_); refine wpAny_bind (wpAny_newList ?_ hz)
  have n1 : ((s.heap.push (seqObj "list" #[] 0)).update s.heap.objs.size (Obj.mapSeq (· ++ us.toArray))).objs.size = s.heap.objs.size + 1 := by rw [Heap.size_update, size_push']
  have n2 : (((s.heap.push (seqObj "list" #[] 0)).update s.heap.objs.size (Obj.mapSeq (· ++ us.toArray))).push (seqObj "list" us.toArray 0)).get? (s.heap.objs.size + 1) = some (seqObj "list" us.toArray 0) := by rw [← n1]; exact Heap.get?_push_size _ rfl
  have kp : ∀ c o, s.heap.get? c = some o → c ≠ s.heap.objs.size + 1 ∧ (((s.heap.push (seqObj "list" #[] 0)).update s.heap.objs.size (Obj.mapSeq (· ++ us.toArray))).push (seqObj "list" us.toArray 0)).get? c = some o := fun c o e => by
    have lt : c < s.heap.objs.size := Heap.lt_size e
    exact ⟨Nat.ne_of_lt (Nat.lt_succ_of_lt lt), Heap.get?_push_of_some _ (by rw [Heap.get?_update_ne _ _ _ _ (Nat.ne_of_lt lt)]; exact Heap.get?_push_of_some _ e)⟩
  show wpAny _ _ _ _ _ { s with heap := ((s.heap.push (seqObj "list" #[] 0)).update s.heap.objs.size (Obj.mapSeq (· ++ us.toArray))).push (seqObj "list" us.toArray 0) }
  rw [n1]
  refine wpAny_bind (wpAny_holding (wpAny_call_entry_kw slot_list_sort ⟨_, n2, rfl⟩ entry_list_sort ?_ (a2 _)))
  rw [hk]
  exact SrtR.list_sort_ordR O n2 hz (fun h2 => hS h2 _ _ n2 kp) fun out s1 s2 => ⟨_, rfl, wpAny_pure ⟨_, rfl, q out s1 s2⟩⟩
end
section
variable {X : Cx} {c c1 : Cl} {pos p : Pos}
def rSortT (K : PySem.W.Frag) (b : Bool) : List V → List V → Hp → VK → Prop := fun vs zs H Q => ∃ (a : Addr) (ns : List Int), vs = [V.ref a] ∧ zs = [.bl b] ∧ SqT K H a (ns.map V.int) ∧
  ∀ (ms : List Int) (l : Addr), ms.Perm ns → OrdB b ms → H l = none → Q (.ref l) (upd H l (.lst (ms.map V.int)))
theorem cr_sortT {b : Bool} : CallRK X (.builtin "sorted") [Str.ofString "reverse"] (rSortT X.K b) := by
  intro pins s σ H vs zs us ws Q I r rz h
  obtain ⟨a, ns, rfl, rfl, hs, q⟩ := h
  obtain rfl := Vals.ref1 r
  obtain ⟨w1, rfl, e1⟩ := vals1 rz
  obtain rfl : w1 = Value.bool b := e1
  obtain ⟨its, rv, hl, hz⟩ := I.tuple hs
  have hi := rv.ints
  refine sortedT (fun _ => rfl) (PyProof.Rows.args_sorted_rev _ _) (fun _ => PyProof.Rows.args_list_sort_rev _ _) SrtO.swo_int hl (by rw [← rv.length]; exact hz) (fun h2 h₁ a' _ _ => SrtO.ints_sortable hi h2) fun out h1 h2 => ?_
  obtain ⟨ms, k1, k2, k3⟩ := SrtR.ints_outR hi h1 h2
  obtain ⟨ep, he⟩ := PyProof.Rows.sortedAll_at s.heap its (if b = true then out.toArray.reverse else out.toArray)
  have hlen : (ms.map V.int).length ≤ sizeLine := by rw [List.length_map] at hz ⊢; rw [k2.length_eq]; exact hz
  have e0 : ((if b = true then out.toArray.reverse else out.toArray).toList).toArray = (if b = true then out.toArray.reverse else out.toArray) := Array.toArray_toList
  refine ⟨.ref _, upd H (s.heap.objs.size + 1) (.lst (ms.map V.int)), ?_, rfl, q _ _ k2 k3 (I.hok.fresh (Nat.le_succ _))⟩
  exact I.laid (t' := s.toks) (fun _ _ => PyProof.Rows.sortedAll_old) (Nat.le_succ _) ⟨hlen, _, ep, vals_of_ints k1, by rw [e0]; exact he⟩
def sortRT (d : D) : PV := ⟨UInts d, .lst ((sortI (toIs d)).reverse.map D.int)⟩
theorem dp_sortedRT {a : Expr} {f : PF} {j p3 kp} (hg : Gl X "sorted") (hm : X.mg "sorted" = none) (ha : DP X c1 a f) (hs : starEach [a] X.env = (false, eval a X.env) :: starEach [] X.env := by rfl)
    (hb : backTo pos (starEach [a] X.env) = (false, eval a X.env) :: backTo pos (starEach [] X.env) := by rfl) (hpl : (backTo pos (starEach [a] X.env)).any (·.1) = false := by rfl) : DP X c (.Call (.Name "sorted" p) [a] [⟨some "reverse", .Constant (.bool true) j p3, kp⟩] pos) (p1 sortRT f) := by
  refine pe_imp (pe_callBK (ks := [Str.ofString "reverse"]) (cr_sortT (b := true)) hg hm (by decide +kernel) (pa_cons ha pa_nil hs) (pk_cons pe_bl pk_nil) (he := hb) (hpl := hpl)) fun σ H Q h => ?_
  obtain ⟨δ, N, F, hS, hn, ok, q⟩ := h
  refine ⟨δ, N, F, hS, hn, ok.1, fun v H1 fp e1 r1 k1 => ?_⟩
  have hU := ok.2
  have r2 := r1
  rw [UInts.eq hU] at r2
  obtain ⟨pp, vs, rfl, hp, rl⟩ := r2
  obtain ⟨ev, _⟩ := rl.ints_ (fun d hd => by obtain ⟨i, _, rfl⟩ := List.mem_map.mp hd; trivial)
  rw [toI_ints] at ev
  subst ev
  refine ⟨pp, toIs (f δ N).val, rfl, rfl, SqT.of hp, fun ns' l h1 h2 hl => ?_⟩
  have e : ns' = (sortI (toIs (f δ N).val)).reverse := by
    have h3 : ns'.Pairwise (· ≥ ·) := h2
    have := sortI_of (xs := toIs (f δ N).val) (ys := ns'.reverse) ((List.reverse_perm ns').trans h1) (List.pairwise_reverse.mpr h3)
    rw [← this, List.reverse_reverse]
  subst e
  exact new_lst (c := c) (F := F) e1 (RpL.of_ints _) Cl.nil hl fun u H' fp e r k => q u H' fp (e1.trans e) r k
end
theorem UInts_map {xs : List Int} : UInts (.tup (xs.map D.int)) := ⟨trivial, fun d hd => by obtain ⟨i, _, rfl⟩ := List.mem_map.mp (show d ∈ xs.map D.int from hd); trivial⟩
theorem sortRT_ok {xs : List Int} : (sortRT (.tup (xs.map D.int))).ok = True := by
  unfold sortRT; exact propext ⟨fun h => trivial, fun h => UInts_map⟩
theorem sortRT_val {xs : List Int} : (sortRT (.tup (xs.map D.int))).val = .lst ((sortI xs).reverse.map .int) := by unfold sortRT; rw [toIs_tup]
theorem maxU_ok {zs : List (List Int)} : (maxU (.lst (zs.map fun z => .tup (z.map D.int)))).ok = (zs ≠ []) := by
  unfold maxU
  refine propext ⟨fun h z => h.2.1 (by rw [z]; rfl), fun h => ⟨trivial, fun z => h (List.map_eq_nil_iff.mp (show zs.map _ = [] from z)), fun x hx => by
    obtain ⟨z, _, rfl⟩ := List.mem_map.mp (show x ∈ zs.map _ from hx); exact UInts_map⟩⟩
theorem maxU_val {zs : List (List Int)} : (maxU (.lst (zs.map fun z => .tup (z.map D.int)))).val = .tup ((maxLs zs).map .int) := by
  unfold maxU
  have : (toL (.lst (zs.map fun z => D.tup (z.map D.int)))).map toIs = zs := by
    show (zs.map _).map toIs = zs
    rw [List.map_map]
    refine (List.map_congr_left fun z _ => ?_).trans (List.map_id zs)
    exact toIs_tup
  rw [this]
end DL
set_option maxHeartbeats 4000000
namespace DL
open PySem L2
def MX : Int := 2147483647
abbrev rLo (K : PySem.W.Frag) : List V → Hp → VK → Prop := fun xs H Q => ∃ p ys, xs = [.ref p] ∧ (SqL K H p ys ∨ SqT K H p ys) ∧ ∀ l, H l = none → Q (.ref l) (upd H l (.lst ys))
def spMix (K : PySem.W.Frag) : Sp := fun vs H Q _ => ∃ (a : Addr) (ns : List Int) (m : Int), vs = [.ref a, .int m] ∧ 0 ≤ m ∧ m < MX ∧ SqL K H a (ns.map V.int) ∧
  ∀ (m' : Int) (p q : Addr), 0 ≤ m' → m' < MX → p ≠ q → H q = none → H p = none → Q (.ref p) (upd (upd H q (.lst (ns.map V.int))) p (.lst [.int m', .ref q, .int 0]))
abbrev rAd : R2 := rI0 fun i j => .int (i + j)
abbrev rMu : R2 := rI CMul fun i j => .int (i * j)
abbrev rMo : R2 := rI (fun _ j => 0 < j) fun i j => .int (i % j)
def t_mix (K : PySem.W.Frag) : TS := tSeq (tAsg (tVar 1) (gName 2))
  (tSeq (tFor (iList K (tVar 0)) (gName 3) (tAsg (tOp rMo (tOp rAd (tOp rAd (tOp rMu (tVar 2) (tC (.int 48271))) (tOp rMo (tVar 3) (tC (.int 2147483629)))) (tC (.int 1))) (tC (.int 2147483647))) (gName 2)))
  (tRet (tLst (tCons (tVar 2) (tCons (tCB (rLo K) (tCons (tVar 0) tNil)) (tCons (tC (.int 0)) tNil))))))
theorem r_mix {K : PySem.W.Frag} {N : List Str} (hN : N.length = 4) (vs : List V) (H : Hp) (Q : VK) (E : XK) (h : spMix K vs H Q E) : t_mix K { nx := fun _ H' => Q .non H', rt := Q } (start N vs) H := by
  obtain ⟨a, ns, m, rfl, h0, h1, hs, q⟩ := h
  have e0 : start N [.ref a, .int m] = [some (.ref a), some (.int m), none, none] := by
    show [some (V.ref a), some (V.int m)] ++ List.replicate (N.length - 2) none = _
    rw [hN]; rfl
  rw [e0]
  refine ⟨_, rfl, ?_⟩
  show tSeq _ _ _ [some (.ref a), some (.int m), some (.int m), none] H
  refine ⟨_, rfl, a, rfl, ⟨_, hs⟩, ?_⟩
  refine for_list (xs := ns.map V.int) (fun i σ H' => H' = H ∧ ∃ (m' : Int) (c : Option V), 0 ≤ m' ∧ m' < MX ∧ σ = [some (.ref a), some (.int m), some (.int m'), c]) ⟨rfl, m, none, h0, h1, rfl⟩ ?_ ?_ ?_
  · rintro i σ H' _ ⟨rfl, _⟩; exact hs
  · rintro i x σ H' hx ⟨rfl, m', c, g0, g1, rfl⟩
    rw [List.getElem?_map] at hx
    obtain ⟨z, hz, rfl⟩ := Option.map_eq_some_iff.mp hx
    show tAsg _ _ _ [some (.ref a), some (.int m), some (.int m'), some (.int z)] H'
    unfold MX at *
    refine ⟨_, rfl, _, _, rfl, rfl, .inl ⟨by omega, by omega⟩, _, rfl, _, _, rfl, rfl, (by decide : (0 : Int) < 2147483629), _, _, rfl, rfl, _, _, rfl, rfl, _, _, rfl, rfl, (by decide : (0 : Int) < 2147483647), ?_⟩
    exact ⟨rfl, _, _, Int.emod_nonneg _ (by decide), Int.emod_lt_of_pos _ (by decide), rfl⟩
  · rintro σ H' ⟨rfl, m', c, g0, g1, rfl⟩
    refine ⟨_, rfl, _, rfl, a, _, rfl, .inl hs, fun qq hq => ?_⟩
    refine ⟨(by decide : 3 ≤ sizeLine), fun p hp => ?_⟩
    refine q m' p qq g0 g1 (fun z => ?_) hq ?_
    · subst z; rw [upd_same] at hp; cases hp
    · cases e : H' p with
      | none => rfl
      | some o =>
        have : p ≠ qq := fun z => by subst z; rw [hq] at e; cases e
        rw [upd_ne this, e] at hp; cases hp
def nm1 (p : Addr) (d : D) : Nm := updN (fun _ => none) p ⟨true, d⟩
theorem mix_to {E : XK} {w : WS} {D' : Ends} {H : Hp} {a p q : Addr} {ns : List Int} {m : Int} {n : Nat} (hq : H q = none) (hp : H p = none) (hne : p ≠ q)
    (hw : w { nx := fun _ _ => False, rt := fun d _ => d = .bl true } (none :: some (.ref p) :: List.replicate n none) (nm1 p (.lst [.int m, .lst (ns.map .int), .int 0]))) (hD : ∀ H', D'.rt (.bl true) H') :
    tDS E false w D' (some (.ref a) :: some (.ref p) :: List.replicate n none) (upd (upd H q (.lst (ns.map V.int))) p (.lst [.int m, .ref q, .int 0])) := by
  have e1 : upd (upd H q (.lst (ns.map V.int))) p (.lst [.int m, .ref q, .int 0]) p = some (.lst [.int m, .ref q, .int 0]) := upd_same
  have e2 : upd (upd H q (.lst (ns.map V.int))) p (.lst [.int m, .ref q, .int 0]) q = some (.lst (ns.map V.int)) := by rw [upd_ne (fun z => hne z.symm)]; exact upd_same
  have N1 : ∀ b c, nm1 p (.lst [.int m, .lst (ns.map .int), .int 0]) b = some c → b = p ∧ c = ⟨true, .lst [.int m, .lst (ns.map .int), .int 0]⟩ := fun b c h => by
    unfold nm1 updN at h
    by_cases z : b = p
    · rw [if_pos z] at h; exact ⟨z, (Option.some.inj h).symm⟩
    · rw [if_neg z] at h; cases h
  refine ⟨_, _, fun _ => False, fun b => b = p ∨ b = q, _, ⟨⟨fun _ => [p, q], ?_⟩, ?_⟩, hw, ?_⟩
  · refine ⟨fun b c h => ?_, fun b c h _ => ⟨by simp [hne], fun z hz => by simpa using hz⟩, fun b b' c e hb h1 _ h2 => ?_, fun z hz => hz.elim, fun z hz => ?_⟩
    · obtain ⟨rfl, rfl⟩ := N1 b c h
      refine ⟨⟨b, _, [q], rfl, e1, ?_, rfl⟩, by simp⟩
      refine ⟨_, _, [], [q], rfl, ⟨rfl, rfl⟩, ⟨_, _, [q], [], rfl, ⟨q, _, [], rfl, e2, RpL.of_ints ns, rfl⟩, ⟨_, _, [], [], rfl, ⟨rfl, rfl⟩, RpL.nil, rfl⟩, rfl⟩, rfl⟩
    · exact absurd ((N1 b c h1).1.trans (N1 b' e h2).1.symm) hb
    · rcases hz with rfl | rfl
      · exact ⟨_, e1, fun xs z => by cases z⟩
      · exact ⟨_, e2, fun xs z => by cases z⟩
  · refine ⟨by simp, fun z hz => hz.elim, fun i d h => ?_⟩
    match i, h with
    | 0, h => simp at h
    | 1, h =>
      have : D.ref p = d := by simpa using h
      subst this
      exact ⟨.ref p, [], rfl, ⟨rfl, rfl⟩, fun z hz => by cases hz⟩
    | i + 2, h =>
      have h' : (List.replicate n (none : Option D))[i]? = some (some d) := by simpa using h
      have := List.mem_of_getElem? h'
      have := (List.mem_replicate.mp this).2
      cases this
  · refine ⟨fun σ' H' F' P' δ' N' t o z => z.elim, fun σ' H' F' P' δ' N' t o z => z.elim, fun σ' H' F' P' δ' N' t o z => z.elim, fun v H' F' P' d N' fp t wf r rt z => ?_, fun x cls dd H' F' P' N' t wf r z => z.elim⟩
    subst z
    rw [r.1]
    exact hD H'
def spLaw (K : PySem.W.Frag) : Sp := fun vs H Q _ => ∃ (a : Addr) (ns : List Int), vs = [.ref a] ∧ SqL K H a (ns.map V.int) ∧ ∀ H', Q (.bl true) H'
theorem law_cx0 {P : Program} {w : World} {K : PySem.W.Frag} {mg : Str → Option Value} {base : Heap} {k : Nat} {f : Addr} {fd : FuncData} {ps : List Str} (F : FnOk P w K mg base (L2.CX P w) k f fd ps (spLaw K)) : FnOk P w K mg base CX0 k f fd ps (spLaw K) :=
  ⟨F.len, fun A outer s H args us vs Q E hr he hb hv hs => codeAny_mono (F.run A outer s H args us vs Q E0 hr he hb hv hs) fun r s' h => by
    cases r with
    | ok v => cases v <;> exact h
    | error e =>
      obtain ⟨_, _, _, _, _, _, _, _, _, _, _, _, z⟩ := (show L2.CX P w outer H s E0 e s' from h)
      exact z.elim⟩
theorem law_binds {K : PySem.W.Frag} {st : Stmt} {f : Addr} {fd : FuncData} {x : Str} (F : L2.Fun K "law" "law" st f fd)
    (h : ∀ (kV doc pm : Value) (an : Option Addr) (cdv ct : Value) (u : Value), bindArgs (PySem.W.fnOf "law" "law" (defArgs st) (defBody st) (defScope st) .none kV doc pm an cdv ct) ⟨[u], []⟩ = pure [(x, u)]) (s : Shared) (u : Value) : BindsTo s fd ⟨[u], []⟩ [(x, u)] := by
  obtain ⟨oc, od, kV, doc, pm, an, cdv, ct, osl, rfl, lk, hcd⟩ := F.ex
  exact .of_eq (h kV doc pm an cdv ct u)
end DL
set_option maxHeartbeats 4000000
namespace DL
open PySem PySem.Spec PyProof.Rows L2
section
variable {P : Program} {w : World} {A : Around} {E : Value → Shared → Prop} {s : Shared}
abbrev sNew (w : World) : Obj := { cls := .type "set", dict := none, data := .set #[] 0 (.fresh 0 0 (!w.params.followText "set-order")) }
theorem setList {l : Addr} {its : Array Value} (ns : List Int) {Z : Value → Shared → Prop} (hh : A.handled = none) (hl : s.heap.IsList l its) (hi : IntsAre its.toList ns) (hb : ns.length + 1 < scanBound)
    (q : ∀ (g : Heap) (tk c : Nat), SetR w g s.heap.objs.size (fun j => decide (j ∈ ns)) c → c ≤ ns.length → (∀ b o, s.heap.get? b = some o → g.get? b = some o) → Z (.ref s.heap.objs.size) { s with heap := g, toks := tk }) :
    wpAny (model P w) A (call (.type "set") [.ref l]) Z E s := by
  have sz : its.size = ns.length := by have z := IntsAre.length hi; rw [Array.length_toList] at z; exact z
  obtain ⟨cc, tl, hmro⟩ := F.called_set.mro
  have g1 := F.called_set.made; have g2 := F.called_set.sub
  refine wpAny_call (codeAny_of_tree ?_); show wpAny _ _ (callAny (.type "set") _) _ _ _
  refine wpAny_pure ⟨Code.quiet_builtin _ (by decide +kernel), codeAny_builtin F.entry_type_call ?_⟩; rw [Around.under_plain (weight_type_call_type "set" [.ref l] []) rfl]
  have g3 := F.called_set.notType; have g4 := F.called_set.canCreate
  have g5 := F.typeCall_set_1 (.ref l); repeat (any_goals (first | assumption | wp_step))
  refine codeAny_mono (code_set_led1 (.ref l) (E := E) (Q₁ := fun ob sa => ob = .ref s.heap.objs.size ∧ sa = { s with heap := s.heap.push (sNew w) }) ⟨rfl, rfl⟩) fun r sa hr => ?_
  cases r with
  | error e => exact hr
  | ok fl =>
    cases fl with
    | ret ob =>
      obtain ⟨rfl, rfl⟩ := hr
      have hS : (s.heap.push (sNew w)).get? s.heap.objs.size = some (sNew w) := Heap.get?_push_size _ rfl
      have hT : Shared.TypeIs { s with heap := s.heap.push (sNew w) } (.ref s.heap.objs.size) "set" := ⟨_, hS, rfl⟩
      have g6 := F.called_set.init.lookup; have g7 := F.called_set.init.bind (.ref s.heap.objs.size)
      repeat (any_goals (first | assumption | wp_step))
      refine codeAny_mono (codeAny_call_builtin (R := wants (fun r sb => r = .none ∧ ∃ g tk c, sb = { s with heap := g, toks := tk } ∧ SetR w g s.heap.objs.size (fun j => decide (j ∈ ns)) c ∧ c ≤ ns.length ∧ (∀ b o, s.heap.get? b = some o → g.get? b = some o)) E)
        F.called_set.init.plain F.entry_set_init (check_set_init_1 hT ?_)) fun rb sb hrb => ?_
      · obtain ⟨ol, hol, hcl, nl, hdl⟩ := hl
        obtain ⟨oc, od, odt, osl⟩ := ol
        simp only at hcl hdl
        subst hcl hdl
        have hol2 : (s.heap.push (sNew w)).get? l = some { cls := .type "list", dict := od, data := .seq its nl, slots := osl } := Heap.get?_push_of_some _ hol
        have g8 := F.sub_list_set; have g9 := F.sub_list_frozenset
        have g10 : (Value.type "list" == Value.type "dict") = false := by decide
        have hl1 : (s.heap.push (sNew w)).IsList l its := ⟨_, hol2, rfl, nl, rfl⟩
        unfold Builtin.«set.__init__» noKeywords Builtin.Frozenset.updateFrom
        generalize hPy : pyIter = PY
        wp_walk
        subst hPy
        refine wpAny_pyIter_list hl1 ?_; refine wpAny_bind (wpAny_runValue ?_)
        have hlS : l < s.heap.objs.size := Heap.lt_size hol
        have g11 : A.in1.in1.in1.handled = none := by simp [hh]
        have g12 : l ≠ (s.heap.push (sNew w)).objs.size := by rw [Heap.size_push]; exact Nat.ne_of_lt (Nat.lt_succ_of_lt hlS)
        have hSf : s.heap.objs.size ∉ [(s.heap.push (sNew w)).objs.size, l] := by
          rw [Heap.size_push]; simp only [List.mem_cons, List.mem_singleton, List.not_mem_nil, or_false, not_or]; exact ⟨Nat.ne_of_lt (Nat.lt_succ_self _), Nat.ne_of_gt hlS⟩
        have hval : ∀ (i : Nat) (v : Value), its[i]? = some v → ∃ k t, ns[i]? = some k ∧ v = .int k t := fun i v hv => by
          have lt : i < ns.length := by rw [← sz]; exact (Array.getElem?_eq_some_iff.mp hv).1
          obtain ⟨t, e⟩ := PyProof.Rows.IntsAre.int_at hi i v (by rw [Array.getElem?_toList]; exact hv)
          exact ⟨ns[i], t, List.getElem?_eq_getElem lt, by rw [e, List.getD_eq_getElem?_getD, List.getElem?_eq_getElem lt] <;> rfl⟩
        refine set_update_ints ((Walks.list g11 _ l g12 its).toS) s.heap.objs.size hSf ns sz hb hval (its.size - 0) 0 _ (by omega) (Nat.zero_le _) ⟨⟨_, Heap.get?_push_size _ rfl, rfl, rfl⟩, (hl1.push _)⟩ ?hA ?hB
        case hA => exact ⟨0, Nat.le_refl 0, setR_new_at (Heap.get?_push_of_some _ hS)⟩
        case hB =>
          intro sz' c' hm hc' hS'
          obtain ⟨g, gg, dd, tk, oo⟩ := sz'
          have eg : gg = s.gens := hm.gens
          have ed : dd = s.drawn := hm.drawn
          have eo : oo = s.os := hm.os
          subst eg ed eo
          show wpAny _ _ _ _ _ _
          refine wpAny_pure ?_; show wpAny _ _ (ret Value.none) _ _ _
          rw [sz] at hc'
          refine wpAny_pure ⟨rfl, g, tk, c', rfl, hS', hc', fun b o e => ?_⟩
          have lt : b < s.heap.objs.size := Heap.lt_size e
          refine hm.heap b o ?_ (Heap.get?_push_of_some _ (Heap.get?_push_of_some _ e))
          simp only [List.mem_cons, List.mem_singleton, List.not_mem_nil, or_false, not_or]
          exact ⟨Nat.ne_of_lt lt, by rw [Heap.size_push]; exact Nat.ne_of_lt (Nat.lt_succ_of_lt lt)⟩
      · cases rb with
        | error e => exact hrb
        | ok fb =>
          cases fb with
          | ret r =>
            obtain ⟨rfl, g, tk, c', rfl, hS', hc', hk'⟩ := hrb
            repeat (any_goals (first | assumption | wp_step))
            exact q _ _ _ hS' hc' hk'
          | _ => exact hrb.elim
    | _ => exact hr.elim
end
section
variable {X : Cx}
def rSetL (K : PySem.W.Frag) (w : World) : List V → Hp → VK → Prop := fun xs H Q => ∃ (a : Addr) (ns : List Int), xs = [.ref a] ∧ SqL K H a (ns.map V.int) ∧ ns.length + 1 < scanBound ∧ ∀ l c, H l = none → c ≤ ns.length → Q (.ref l) (upd H l (SetO w l (fun j => decide (j ∈ ns)) c))
theorem cr_setL (hc : X.calm = true) : CallR X (.type "set") (rSetL X.K X.w) := by
  intro pins s σ H xs us Q I r h
  obtain ⟨a, ns, rfl, hs, hb, q⟩ := h
  obtain ⟨its, rv, hl, _⟩ := I.list hs
  rw [Vals.ref1 r]
  have hi := rv.ints
  refine setList ns (I.ok.hd hc) hl.isList (by simpa using hi) hb fun g tk c R hcn k => ?_
  exact ⟨.ref _, upd H s.heap.objs.size (SetO X.w s.heap.objs.size (fun j => decide (j ∈ ns)) c), I.laid (t' := tk) k (Nat.le_refl _) (setO_new R), rfl, q _ c (I.hok.fresh (Nat.le_refl _)) hcn⟩
end
def insU (x : Int) : List Int → List Int
  | [] => [x]
  | y :: ys => if x < y then x :: y :: ys else if x = y then y :: ys else y :: insU x ys
def usort : List Int → List Int
  | [] => []
  | x :: xs => insU x (usort xs)
theorem insU_mem {x z : Int} : ∀ {ys : List Int}, z ∈ insU x ys ↔ z = x ∨ z ∈ ys
  | [] => by simp [insU]
  | y :: ys => by
    unfold insU
    by_cases h1 : x < y
    · simp [h1]
    · by_cases h2 : x = y
      · subst h2; simp
      · simp [h1, h2, insU_mem (ys := ys)]
        constructor
        · rintro (h | h | h); exact .inr (.inl h); exact .inl h; exact .inr (.inr h)
        · rintro (h | h | h); exact .inr (.inl h); exact .inl h; exact .inr (.inr h)
theorem insU_up {x : Int} : ∀ {ys : List Int}, ys.Pairwise (· < ·) → (insU x ys).Pairwise (· < ·)
  | [], _ => by simp [insU]
  | y :: ys, h => by
    obtain ⟨h0, h3⟩ := List.pairwise_cons.mp h
    unfold insU
    by_cases h1 : x < y
    · rw [if_pos h1]
      exact List.pairwise_cons.mpr ⟨fun z hz => by rcases List.mem_cons.mp hz with rfl | hz; exact h1; have := h0 z hz; omega, h⟩
    · rw [if_neg h1]
      by_cases h2 : x = y
      · rw [if_pos h2]; exact h
      · rw [if_neg h2]
        exact List.pairwise_cons.mpr ⟨fun z hz => by rcases insU_mem.mp hz with rfl | hz; omega; exact h0 z hz, insU_up h3⟩
theorem usort_mem {z : Int} : ∀ {xs : List Int}, z ∈ usort xs ↔ z ∈ xs
  | [] => by simp [usort]
  | x :: xs => by rw [usort, insU_mem, usort_mem, List.mem_cons]
theorem usort_up : ∀ {xs : List Int}, (usort xs).Pairwise (· < ·)
  | [] => by simp [usort]
  | x :: xs => by rw [usort]; exact insU_up usort_up
theorem up_uniq : ∀ {xs ys : List Int}, xs.Pairwise (· < ·) → ys.Pairwise (· < ·) → (∀ z, z ∈ xs ↔ z ∈ ys) → xs = ys
  | [], [], _, _, _ => rfl
  | [], y :: ys, _, _, h => absurd ((h y).mpr (by simp)) (by simp)
  | x :: xs, [], _, _, h => absurd ((h x).mp (by simp)) (by simp)
  | x :: xs, y :: ys, a, b, h => by
    obtain ⟨a1, a2⟩ := List.pairwise_cons.mp a
    obtain ⟨b1, b2⟩ := List.pairwise_cons.mp b
    have e : x = y := by
      rcases List.mem_cons.mp ((h x).mp (by simp)) with e | e
      · exact e
      · rcases List.mem_cons.mp ((h y).mpr (by simp)) with e' | e'
        · exact e'.symm
        · have := a1 y e'; have := b1 x e; omega
    subst e
    rw [up_uniq a2 b2 fun z => ?_]
    constructor
    · intro hz
      rcases List.mem_cons.mp ((h z).mp (by simp [hz])) with e | e
      · have := a1 z hz; omega
      · exact e
    · intro hz
      rcases List.mem_cons.mp ((h z).mpr (by simp [hz])) with e | e
      · have := b1 z hz; omega
      · exact e
theorem usort_len : ∀ {xs : List Int}, (usort xs).length ≤ xs.length
  | [] => by simp [usort]
  | x :: xs => by
    have ih := usort_len (xs := xs)
    have : ∀ ys : List Int, (insU x ys).length ≤ ys.length + 1 := fun ys => by
      induction ys with
      | nil => simp [insU]
      | cons y ys ih => unfold insU; split; simp; split; simp; simp; omega
    have := this (usort xs)
    rw [usort]; simp; omega
section
variable {X : Cx} {E : XK} {c c1 : Cl} {pos p p2 pos2 : Pos}
def sortsetD (d : D) : PV := ⟨Ints d ∧ (toL d).length < 64, .lst ((usort (toIs d)).map D.int)⟩
theorem sortset_rd {F : Addr → Prop} {H H1 : Hp} {d : D} {v : V} {fp : List Addr} {Q : VK} (r : Rp H1 d v fp) (ok : (sortsetD d).ok) (q : ∀ l, H1 l = none → ∀ H2, Ex H1 H2 → H2 l = some (.lst ((usort (toIs d)).map V.int)) → Q (.ref l) H2) {K : PySem.W.Frag} {w : World} :
    rSetL K w [v] H1 fun x H2 => rSortedSet w [x] H2 Q := by
  obtain ⟨pp, rfl, hp⟩ := r.ints ok.1
  have hl : (toIs d).length < 64 := by show ((toL d).map toI).length < 64; rw [List.length_map]; exact ok.2
  refine ⟨pp, toIs d, rfl, SqL.of hp, Nat.lt_of_lt_of_le (Nat.succ_lt_succ hl) (by decide), fun l n hn hc => ?_⟩
  refine ⟨l, _, n, rfl, upd_same, by omega, fun ms p up hm _ hf => ?_⟩
  have e : ms = usort (toIs d) := up_uniq up usort_up fun z => by rw [hm z, usort_mem]; simp
  subst e
  have e1 : Ex H1 (upd H1 l (SetO w l (fun j => decide (j ∈ toIs d)) n)) := Ex.new hn
  have e2 : Ex (upd H1 l (SetO w l (fun j => decide (j ∈ toIs d)) n)) (upd (upd H1 l (SetO w l (fun j => decide (j ∈ toIs d)) n)) p (.lst ((usort (toIs d)).map V.int))) := Ex.new hf
  exact q p ((e1.free hf)) _ (e1.trans e2) upd_same
theorem dp_sortset {a : Expr} {f : PF} (hc : X.calm = true) (hg : Gl X "sorted") (hm : X.mg "sorted" = none) (hg2 : Gl X "set") (hm2 : X.mg "set" = none) (ha : DP X c1 a f)
    (hs : starEach [a] X.env = (false, eval a X.env) :: starEach [] X.env := by rfl)
    (hs2 : starEach [.Call (.Name "set" p2) [a] [] pos2] X.env = (false, eval (.Call (.Name "set" p2) [a] [] pos2) X.env) :: starEach [] X.env := by rfl) :
    DP X c (.Call (.Name "sorted" p) [.Call (.Name "set" p2) [a] [] pos2] [] pos) (p1 sortsetD f) := by
  refine pe_imp (pe_callB (cr_sortedSet hc) hg hm (by decide +kernel) (pa_cons (pe_callTy (cr_setL hc) hg2 hm2 (by decide +kernel) (pa_cons ha pa_nil hs) (he := hs) (hpl := by rfl)) pa_nil hs2) (he := hs2) (hpl := by rfl)) fun σ H Q h => ?_
  obtain ⟨δ, N, F, hS, hn, ok, q⟩ := h
  refine ⟨δ, N, F, hS, hn, ok.1, fun v H1 fp e1 r1 k1 => ?_⟩
  refine sortset_rd (F := F) (H := H) r1 ok.2 fun l hl H2 e2 h2 => ?_
  refine q _ H2 [l] (e1.trans e2) ⟨l, _, [], rfl, h2, RpL.of_ints _, rfl⟩ (Cl.frs_ ⟨by simp, fun z hz => ?_⟩)
  rw [List.mem_singleton.mp hz]; exact e1.free hl
def w1 (h : D → PV) (w : WE) : WE := fun δ N Q E => w δ N (fun d N1 => (h d).ok ∧ Q (h d).val N1) E
theorem de_sortset {a : Expr} {w : WE} (hc : X.calm = true) (hg : Gl X "sorted") (hm : X.mg "sorted" = none) (hg2 : Gl X "set") (hm2 : X.mg "set" = none) (ha : DE X E a w)
    (hs : starEach [a] X.env = (false, eval a X.env) :: starEach [] X.env := by rfl)
    (hs2 : starEach [.Call (.Name "set" p2) [a] [] pos2] X.env = (false, eval (.Call (.Name "set" p2) [a] [] pos2) X.env) :: starEach [] X.env := by rfl) :
    DE X E (.Call (.Name "sorted" p) [.Call (.Name "set" p2) [a] [] pos2] [] pos) (w1 sortsetD w) := by
  refine pe_imp (pe_callB (cr_sortedSet hc) hg hm (by decide +kernel) (pa_cons (pe_callTy (cr_setL hc) hg2 hm2 (by decide +kernel) (pa_cons ha pa_nil hs) (he := hs) (hpl := by rfl)) pa_nil hs2) (he := hs2) (hpl := by rfl)) fun σ H Q h => ?_
  obtain ⟨δ, N, F, P, Q', E', o, q', q, qe⟩ := h
  refine ⟨δ, N, F, P, _, E', o, q', fun v H1 F1 P1 d N1 fp t1 o1 r1 k1 q1 => ?_, qe⟩
  refine sortset_rd (F := F1) (H := H1) r1 q1.1 fun l hl H2 e2 h2 => ?_
  have r2 : Rp H2 (.lst ((usort (toIs d)).map D.int)) (.ref l) [l] := ⟨l, _, [], rfl, h2, RpL.of_ints _, rfl⟩
  obtain ⟨o2, t2⟩ := cln_grow o1 e2 (Cl.frs_ (c := .cln) ⟨by simp, fun z hz => by rw [List.mem_singleton.mp hz]; exact hl⟩) (Rp.there _ _ _ r2)
  exact q _ H2 _ P1 _ N1 [l] (t1.trans t2) o2 r2 (fun p hp => .inr hp) q1.2
end
end DL
set_option maxHeartbeats 4000000
namespace DL
open PySem L2
def lcW (G : GF) (wt : WT) (we : WE) (δ0 : Loc) (a : Addr) (Q : D → Nm → Prop) : List D → Nm → Prop
  | [], N => Q (.ref a) N
  | d :: ds, N => (G d δ0).ok ∧ wt (G d δ0).loc N (fun b N2 => if b = true then we (G d δ0).loc N2 (fun y N3 => lf y ∧ ∃ xs, N3 a = some ⟨true, .lst xs⟩ ∧ xs.length < SZ ∧ lcW G wt we δ0 a Q ds (updN N3 a ⟨true, .lst (xs ++ [y])⟩)) E9
      else lcW G wt we δ0 a Q ds N2) E9
def wLc (wi : WA) (G : GF) (wt : WT) (we : WE) (vs : List Nat) : WE := fun δ N Q E => wi δ N (fun items N1 => ∀ a, N1 a = none → lcW G wt we (wipeD δ vs) a Q items (updN N1 a ⟨true, .lst []⟩)) E
theorem lcE_rd {E : XK} {vs0 : List Nat} {wi : WA} {sl : List Nat} {G : GF} {wt : WT} {we : WE} (hsl : ∀ i ∈ sl, i ∈ vs0) (σ : St) (H : Hp) (Q : VK) (h : tDE E (wLc wi G wt we vs0) σ H Q) :
    tLc (tIE E wi) (tG sl G) (tDT E0 wt) (tDE E0 we) vs0 σ H Q := by
  obtain ⟨δ, N, F, P, Q', E', o, q', q, qe⟩ := h
  refine ⟨δ, N, F, P, _, E', o, q', fun J H1 F1 P1 items N1 fs t1 o1 wk kf q1 => ?_, qe⟩
  intro D hD
  obtain ⟨hND, oD, tD⟩ := o1.alloc (Ex.new (o := .lst []) hD) (d := .lst []) (a := D) (fp := [D]) ⟨D, [], [], rfl, upd_same, RpL.nil, rfl⟩ (by simp) (by simp) (by simp [hD])
  have q2 := q1 D hND
  have ow : Ok (wipeD δ vs0) (updN N1 D ⟨true, .lst []⟩) F1 (fun z => P1 z ∨ z ∈ [D]) (wipe σ vs0) (upd H1 D (.lst [])) := ⟨oD.wf, oD.sr.wipe vs0⟩
  refine ⟨fun i m H3 => m = items.length - i ∧ i ≤ items.length ∧ ∃ N3 F3 P3, Tr F1 P1 H1 F3 P3 H3 ∧ Ok (wipeD δ vs0) N3 F3 P3 (wipe σ vs0) H3 ∧ lcW G wt we (wipeD δ vs0) D Q' (items.drop i) N3,
    ⟨items.length, by simp, Nat.zero_le _, _, _, _, tD, ow, q2⟩, ?_⟩
  rintro i m H3 ⟨rfl, hi', N3, F3, P3, t3, o3, q3⟩
  obtain ⟨wgo, wstop⟩ := wk i H3 (o1.kp t3 kf)
  by_cases hlt : i < items.length
  · obtain ⟨d, hd⟩ : ∃ d, items[i]? = some d := ⟨items[i], by simp [hlt]⟩
    have edrop : items.drop i = d :: items.drop (i + 1) := by
      rw [List.drop_eq_getElem_cons hlt]
      congr 1
      have := List.getElem?_eq_getElem hlt
      rw [hd] at this; exact (Option.some.inj this).symm
    rw [edrop] at q3
    obtain ⟨og, qb⟩ := q3
    obtain ⟨go, yl⟩ := wgo d hd
    refine .inr ⟨go, fun H' => ∃ N3 F3 P3, Tr F1 P1 H1 F3 P3 H' ∧ Ok (wipeD δ vs0) N3 F3 P3 (wipe σ vs0) H' ∧ lcW G wt we (wipeD δ vs0) D Q' (items.drop (i + 1)) N3,
      fun H' hh => ⟨items.length - (i + 1), by omega, rfl, hlt, hh⟩, fun x H' y => ?_⟩
    obtain ⟨e4, f, rx, fsub⟩ := yl x H' y
    obtain ⟨o4, t4⟩ := o3.ex e4
    refine ⟨wipeD δ vs0, F3, d, f, o4.sr, rx, fun p hp => t3.fr p (kf p (fsub p hp)), og, fun σ2 s2 hl2 ks => ⟨?_, ?_⟩⟩
    · rw [wipe_eq hl2 ks hsl, wipe_wipe]
    refine ⟨_, N3, F3, P3, _, E9, ⟨o4.wf, s2⟩, qb, fun b H5 F5 P5 N5 t5 o5 q5 => ?_, fun x cls dd H' F' P' N' t w r z => z.elim⟩
    cases b with
    | false =>
      refine (if_neg Bool.false_ne_true).mpr ⟨N5, F5, P5, (t3.trans t4).trans t5, o4.after t5 o5.wf, ?_⟩
      simpa using q5
    | true =>
      refine (if_pos rfl).mpr ?_
      simp only [if_true] at q5
      refine ⟨_, N5, F5, P5, _, E9, o5, q5, fun y H6 F6 P6 dy N6 fy t6 o6 ry ky q6 => ?_, fun x cls dd H' F' P' N' t w r z => z.elim⟩
      obtain ⟨hlf, xs, hN6, hz, q7⟩ := q6
      have zz := Rp.lf _ _ _ ry hlf
      subst zz
      have o7 : Ok (wipeD δ vs0) N6 F6 P6 (wipe σ vs0) H6 := o4.after (t5.trans t6) o6.wf
      obtain ⟨fp1, rr, _⟩ := o7.nr _ _ hN6
      obtain ⟨p, vs, f', e1, hp, rl, rfl⟩ := rr
      cases e1
      refine ⟨vs, hp, Nat.lt_of_lt_of_le (by rw [← rl.length]; exact hz) (sz (Nat.le_refl _)), ?_⟩
      obtain ⟨P', o', t'⟩ := o7.writeL (π := []) (xs := xs) (ys := xs ++ [dy]) (ws := vs ++ [y]) (g := []) (Ex.refl _) hN6 .nil hp (by simp) List.nodup_nil fun f r nd ng =>
        ⟨f, by have := RpL.append r (RpL.one ry); rw [List.append_nil] at this; exact this, nd, fun q hq => .inl hq⟩
      exact ⟨_, F6, P', (((t3.trans t4).trans t5).trans t6).trans t', o', q7⟩
  · have ei : i = items.length := by omega
    subst ei
    rw [List.drop_length] at q3
    refine .inl ⟨wstop (Nat.le_refl _), q (.ref D) H3 F3 P3 (.ref D) N3 [] (t1.trans t3) (o1.after t3 o3.wf) ⟨rfl, rfl⟩ (by simp) q3⟩
section
variable {X : Cx} {E : XK} {c c1 : Cl} {pos p p2 pos2 : Pos} {tg iter elt : Expr} {ifs : List Expr} {scope : Scope} {own : List (Str × Nat)} {wi : WA} {sl : List Nat} {G : GF} {wt : WT} {we : WE} {rc : Bool}
def wYes : WT := fun _ N Q _ => Q true N
theorem pts_imp {X : Cx} {es : List Expr} {t t' : TT} (h : PTs X es t) (k : ∀ σ H Q, t' σ H Q → t σ H Q) : PTs X es t' := ⟨fun pins s σ H Q I q => h.run pins s σ H Q I (k σ H Q q)⟩
theorem de_lc (hc : X.calm = true) (hN : X.N.Nodup) (hi : DIE X E tg iter wi) (ok : BlkOk X.N X.env.scope scope own) (hsl : ∀ i ∈ sl, i ∈ own.map (·.2))
    (hg : ∀ (s : Shared) (H : Hp) (C : Addr) (cl : List (Str × Addr)) (fp : List Addr), DG (X.blk s H scope (compEnvC scope cl C X.env) fp) tg sl G)
    (ht : ∀ (s : Shared) (H : Hp) (C : Addr) (cl : List (Str × Addr)) (fp : List Addr), PTs (X.blk s H scope (compEnvC scope cl C X.env) fp) ifs (tDT E0 wt))
    (he : ∀ (s : Shared) (H : Hp) (C : Addr) (cl : List (Str × Addr)) (fp : List Addr), DE (X.blk s H scope (compEnvC scope cl C X.env) fp) E0 elt we) (hs : ∀ x, foldedSetIterable iter X.env x = pure x := by intro _; rfl) :
    DE X E (.ListComp elt [⟨tg, iter, ifs, 0⟩] scope pos) (wLc wi G wt we (own.map (·.2))) := pe_imp (pe_lc hc hN hi ok hg ht he hs) (lcE_rd hsl)
theorem ds_setLcE_ {i : Nat} {y : Str} {py : Pos} {spos : Pos} {te : TE} (h : PS X (.Assign [.Name y py] (.ListComp elt [⟨tg, iter, ifs, 0⟩] scope pos) spos) (tAsg te (gName i)))
    {w : WE} (hk : ∀ σ H Q, tDE E w σ H Q → te σ H Q) : DS X E rc (.Assign [.Name y py] (.ListComp elt [⟨tg, iter, ifs, 0⟩] scope pos) spos) (sSet i w) := ps_imp h fun D σ H h => by
  obtain ⟨δ, N, F, P, K, o, q, e⟩ := h
  exact hk σ H _ ⟨δ, N, F, P, _, K.ex, o, q, fun v H1 F1 P1 d N1 fp t1 o1 r1 k1 q1 => e.nx _ H1 F1 P1 _ N1 t1 ⟨o1.wf, o1.sr.set r1 k1⟩ q1, e.ex⟩
def w1r (h : D → PV) (w : WE) : WE := fun δ N Q E => w δ N (fun d N1 => (h (drf N1 d)).ok ∧ Q (h (drf N1 d)).val N1) E
theorem Ok.rd {δ : Loc} {N : Nm} {F P : Addr → Prop} {σ : St} {H : Hp} {d : D} {v : V} {fp : List Addr} (o : Ok δ N F P σ H) (r : Rp H d v fp) : ∃ fq, Rp H (drf N d) v fq := by
  cases d with
  | ref a =>
    cases hN : N a with
    | none => exact ⟨fp, by simp only [drf, hN]; exact r⟩
    | some cc =>
      obtain ⟨fq, hq, _⟩ := o.nr a cc hN
      have ev : v = .ref a := r.1
      subst ev
      exact ⟨fq, by simp only [drf, hN]; exact hq⟩
  | _ => exact ⟨fp, r⟩
theorem de_sortsetR {a : Expr} {w : WE} (hc : X.calm = true) (hg : Gl X "sorted") (hm : X.mg "sorted" = none) (hg2 : Gl X "set") (hm2 : X.mg "set" = none) (ha : DE X E a w)
    (hs : starEach [a] X.env = (false, eval a X.env) :: starEach [] X.env := by rfl)
    (hs2 : starEach [.Call (.Name "set" p2) [a] [] pos2] X.env = (false, eval (.Call (.Name "set" p2) [a] [] pos2) X.env) :: starEach [] X.env := by rfl) :
    DE X E (.Call (.Name "sorted" p) [.Call (.Name "set" p2) [a] [] pos2] [] pos) (w1r sortsetD w) := by
  refine pe_imp (pe_callB (cr_sortedSet hc) hg hm (by decide +kernel) (pa_cons (pe_callTy (cr_setL hc) hg2 hm2 (by decide +kernel) (pa_cons ha pa_nil hs) (he := hs) (hpl := by rfl)) pa_nil hs2) (he := hs2) (hpl := by rfl)) fun σ H Q h => ?_
  obtain ⟨δ, N, F, P, Q', E', o, q', q, qe⟩ := h
  refine ⟨δ, N, F, P, _, E', o, q', fun v H1 F1 P1 d N1 fp t1 o1 r1 k1 q1 => ?_, qe⟩
  obtain ⟨fq, r1'⟩ := o1.rd r1
  refine sortset_rd (F := F1) (H := H1) r1' q1.1 fun l hl H2 e2 h2 => ?_
  have r2 : Rp H2 (.lst ((usort (toIs (drf N1 d))).map DL.D.int)) (.ref l) [l] := ⟨l, _, [], rfl, h2, RpL.of_ints _, rfl⟩
  obtain ⟨o2, t2⟩ := cln_grow o1 e2 (Cl.frs_ (c := .cln) ⟨by simp, fun z hz => by rw [List.mem_singleton.mp hz]; exact hl⟩) (Rp.there _ _ _ r2)
  exact q _ H2 _ P1 _ N1 [l] (t1.trans t2) o2 r2 (fun p hp => .inr hp) q1.2
def sSetMS (i : Nat) (h : D → PV) (w : WE) : WS := fun K δ N => w δ N (fun d N1 => (h (drf N1 d)).ok ∧ ∀ a, N1 a = none → K.nx (δ.set i (some (.ref a))) (updN N1 a ⟨true, (h (drf N1 d)).val⟩)) K.ex
theorem ds_setMS {i : Nat} {y : Str} {a : Expr} {w : WE} {pos' pos3 : Pos} (hN : X.N.Nodup) (hi : X.N[i]? = some y) (hx : L2.Loc X.env.scope y) (hc : X.calm = true) (hg : Gl X "sorted") (hm : X.mg "sorted" = none) (hg2 : Gl X "set") (hm2 : X.mg "set" = none) (ha : DE X E a w)
    (hs : starEach [a] X.env = (false, eval a X.env) :: starEach [] X.env := by rfl)
    (hs2 : starEach [.Call (.Name "set" p2) [a] [] pos2] X.env = (false, eval (.Call (.Name "set" p2) [a] [] pos2) X.env) :: starEach [] X.env := by rfl)
    (hsw : swapsWith (.Call (.Name "sorted" p) [.Call (.Name "set" p2) [a] [] pos2] [] pos) (some (.Name y pos')) pos3.line X.env = pure false := by rfl)
    (hf : X.fn y = true ∨ X.env.scope.names.lookup y = some .local := by first | exact .inl rfl | exact .inr rfl | assumption) : DS X E rc (.Assign [.Name y pos'] (.Call (.Name "sorted" p) [.Call (.Name "set" p2) [a] [] pos2] [] pos) pos3) (sSetMS i sortsetD w) := by
  refine ps_imp (ps_set hN hi hx (pe_callB (cr_sortedSet hc) hg hm (by decide +kernel) (pa_cons (pe_callTy (cr_setL hc) hg2 hm2 (by decide +kernel) (pa_cons ha pa_nil hs) (he := hs) (hpl := by rfl)) pa_nil hs2) (he := hs2) (hpl := by rfl)) hsw hf) fun D σ H h => ?_
  obtain ⟨δ, N, F, P, K, o, q, e⟩ := h
  refine ⟨δ, N, F, P, _, K.ex, o, q, fun v H1 F1 P1 d N1 fp t1 o1 r1 k1 q1 => ?_, e.ex⟩
  obtain ⟨fq, r1'⟩ := o1.rd r1
  refine sortset_rd (F := F1) (H := H1) (Q := fun x H2 => gName i x σ H2 D.nx) r1' q1.1 fun l hl H2 e2 h2 => ?_
  have r2 : Rp H2 (.lst ((usort (toIs (drf N1 d))).map DL.D.int)) (.ref l) [l] := ⟨l, _, [], rfl, h2, RpL.of_ints _, rfl⟩
  obtain ⟨hn, o2, t2⟩ := o1.alloc e2 r2 (by simp) (by simp) (by simp [hl])
  exact e.nx _ H2 F1 _ _ _ (t1.trans t2) ⟨o2.wf, o2.sr.set (d := .ref l) (fp := []) ⟨rfl, rfl⟩ (by simp)⟩ (q1.2 l hn)
end
end DL
set_option maxHeartbeats 4000000
namespace DL
open PySem L2
section
variable {X : Cx} {E : XK} {c c1 c2 : Cl} {pos p p2 pos2 : Pos} {tg : Expr}
theorem dtse_nil : PTs X [] (tDT E wYes) := ⟨fun pins s σ H Q I h => by
  obtain ⟨δ, N, F, P, Q', E', o, q', q, qe⟩ := h
  exact pts_nil.run pins s σ H Q I (q true H F P N Tr.refl o q')⟩
theorem dtse_one {e : Expr} {w : WT} (h : DTE X E e w) : PTs X [e] (tDT E w) := pts_one h
def wIL (w : WE) : WA := fun δ N Q E => w δ N (fun d N1 => IsL d ∧ Q (toL d) N1) E
def wIU (w : WE) : WA := fun δ N Q E => w δ N (fun d N1 => IsU d ∧ Q (toL d) N1) E
theorem die_list {e : Expr} {w : WE} (h : DE X E e w) : DIE X E tg e (wIL w) := by
  refine pi_imp (pi_list h) fun σ H R h => ?_
  obtain ⟨δ, N, F, P, Q', E', o, q', q, qe⟩ := h
  refine ⟨δ, N, F, P, _, E', o, q', fun v H1 F1 P1 d N1 fp t1 o1 r1 k1 q1 => ?_, qe⟩
  obtain ⟨pp, vs, f', rfl, hp, rl, rfl⟩ := r1.lst_ q1.1
  refine ⟨pp, rfl, ⟨vs, SqL.of hp⟩, q _ H1 F1 P1 _ N1 (pp :: f') t1 o1 (fun i H2 kp => ⟨fun d hd => ?_, fun hl => ?_⟩) k1 q1.2⟩
  · have rl2 := rl.kp kp fun z hz => by simp [hz]
    have hp2 : H2 pp = some (.lst vs) := by rw [kp.cell pp (by simp)]; exact hp
    obtain ⟨u, fu, h1, h2, h3, h4⟩ := rl2.get hd
    refine ⟨⟨vs, u, SqL.of hp2, h1⟩, fun x H' y => ?_⟩
    obtain ⟨e', y⟩ := y
    subst e'
    have := y vs (SqL.of hp2)
    rw [h1] at this; cases this
    exact ⟨Ex.refl _, fu, h2, fun z hz => by simp [h3 z hz]⟩
  · have hp2 : H2 pp = some (.lst vs) := by rw [kp.cell pp (by simp)]; exact hp
    exact ⟨vs, SqL.of hp2, get_none rl hl⟩
theorem die_tup {e : Expr} {w : WE} (h : DE X E e w) : DIE X E tg e (wIU w) := by
  refine pi_imp (pi_tup h) fun σ H R h => ?_
  obtain ⟨δ, N, F, P, Q', E', o, q', q, qe⟩ := h
  refine ⟨δ, N, F, P, _, E', o, q', fun v H1 F1 P1 d N1 fp t1 o1 r1 k1 q1 => ?_, qe⟩
  obtain ⟨pp, vs, rfl, hp, rl⟩ := r1.tup_ q1.1
  refine ⟨pp, rfl, ⟨vs, SqT.of hp⟩, q _ H1 F1 P1 _ N1 fp t1 o1 (fun i H2 kp => ⟨fun d hd => ?_, fun hl => ?_⟩) k1 q1.2⟩
  · have rl2 := rl.kp kp fun z hz => hz
    have hp2 : H2 pp = some (.tup vs) := kp.tup _ _ hp
    obtain ⟨u, fu, h1, h2, h3, h4⟩ := rl2.get hd
    refine ⟨⟨vs, u, SqT.of hp2, h1⟩, fun x H' y => ?_⟩
    obtain ⟨e', y⟩ := y
    subst e'
    have := y vs (SqT.of hp2)
    rw [h1] at this; cases this
    exact ⟨Ex.refl _, fu, h2, h3⟩
  · exact ⟨vs, SqT.of (kp.tup _ _ hp), get_none rl hl⟩
theorem de_cb1 {a : Expr} {w : WE} {hf : D → PV} {r : List V → Hp → VK → Prop} {e : Expr} (k : ∀ {t : TA}, PA X [a] t → PE X e (tCB r t)) (ha : DE X E a w)
    (hr : ∀ (F : Addr → Prop) (H1 : Hp) (d : D) (v : V) (fp : List Addr) (Q : VK), Rp H1 d v fp → (∀ p ∈ fp, F p) → (hf d).ok → (∀ u H' fp, Ex H1 H' → Rp H' (hf d).val u fp → Cl.cln.ok F H1 fp → Q u H') → r [v] H1 Q)
    (hs : starEach [a] X.env = (false, eval a X.env) :: starEach [] X.env := by rfl) : DE X E e (w1 hf w) := by
  refine pe_imp (k (pa_cons ha pa_nil hs)) fun σ H Q h => ?_
  obtain ⟨δ, N, F, P, Q', E', o, q', q, qe⟩ := h
  refine ⟨δ, N, F, P, _, E', o, q', fun v H1 F1 P1 d N1 fp t1 o1 r1 k1 q1 => ?_, qe⟩
  refine hr F1 H1 d v fp Q r1 k1 q1.1 fun u H2 fq e2 r2 k2 => ?_
  obtain ⟨o2, t2⟩ := cln_grow o1 e2 k2 (Rp.there _ _ _ r2)
  exact q u H2 _ P1 _ N1 fq (t1.trans t2) o2 r2 (fun p hp => .inr hp) q1.2
theorem de_int1 {a : Expr} {w : WE} (hg : Gl X "int") (hm : X.mg "int" = none) (ha : DE X E a w) (hs : starEach [a] X.env = (false, eval a X.env) :: starEach [] X.env := by rfl) : DE X E (.Call (.Name "int" p) [a] [] pos) (w1 intD w) :=
  de_cb1 (hf := intD) (fun h => pe_callTy call_int1 hg hm (by decide +kernel) h (he := hs) (hpl := by rfl)) ha (fun F H1 d v fp Q r k ok q => by
    cases d <;> first | exact ok.elim | skip
    · obtain ⟨rfl, rfl⟩ := r
      exact .inr ⟨_, rfl, q _ H1 [] (Ex.refl _) ⟨rfl, rfl⟩ Cl.nil⟩
    · obtain ⟨rfl, rfl⟩ := r
      exact .inl ⟨_, rfl, q _ H1 [] (Ex.refl _) ⟨rfl, rfl⟩ Cl.nil⟩) hs
theorem de_tuple {a : Expr} {w : WE} (hg : Gl X "tuple") (hm : X.mg "tuple" = none) (ha : DE X E a w) (hs : starEach [a] X.env = (false, eval a X.env) :: starEach [] X.env := by rfl) : DE X E (.Call (.Name "tuple" p) [a] [] pos) (w1 tupD w) :=
  de_cb1 (hf := tupD) (fun h => pe_callTy call_tuple_of hg hm (by decide +kernel) h (he := hs) (hpl := by rfl)) ha (fun F H1 d v fp Q r k ok q => by
    obtain ⟨p, vs, f, rfl, hp, rl, rfl⟩ := r.lst_ ok
    exact ⟨p, vs, rfl, .inl ⟨SqL.of hp, fun l hl => q _ _ f (Ex.new hl) ⟨l, vs, rfl, upd_same, rl.ex (Ex.new hl)⟩ (fun z hz => .inl (k z (by simp [hz])))⟩⟩) hs
theorem de_list {a : Expr} {w : WE} (hg : Gl X "list") (hm : X.mg "list" = none) (ha : DE X E a w) (hs : starEach [a] X.env = (false, eval a X.env) :: starEach [] X.env := by rfl) : DE X E (.Call (.Name "list" p) [a] [] pos) (w1 lstD w) :=
  de_cb1 (hf := lstD) (fun h => pe_callTy call_list_of hg hm (by decide +kernel) h (he := hs) (hpl := by rfl)) ha (fun F H1 d v fp Q r k ok q => by
    obtain ⟨p, vs, f, rfl, hp, rl, hs, hn⟩ := r.seq_ X.K ok.1
    exact ⟨p, vs, rfl, hp, fun l hl => new_lst (c := .cln) (F := F) (Ex.refl _) rl (fun z hz => Or.inl (k z (hs z hz))) hl q⟩) hs
theorem de_len {a : Expr} {w : WE} (hg : Gl X "len") (hm : X.mg "len" = none) (ha : DE X E a w) (hs : starEach [a] X.env = (false, eval a X.env) :: starEach [] X.env := by rfl) : DE X E (.Call (.Name "len" p) [a] [] pos) (w1 lenD w) :=
  de_cb1 (hf := lenD) (fun h => pe_callB call_len hg hm boot_len h (he := hs) (hpl := by rfl)) ha (fun F H1 d v fp Q r k ok q => by
    cases d <;> first | (exact ok.elim) | skip
    · rename_i s
      obtain ⟨rfl, rfl⟩ := r
      exact ⟨_, s.length, rfl, ⟨sz ok, rfl⟩, q _ H1 [] (Ex.refl _) ⟨rfl, rfl⟩ Cl.nil⟩
    · obtain ⟨p, vs, rfl, hp, rl⟩ := r
      refine ⟨_, vs.length, rfl, .inr ⟨vs, SqT.of hp, rfl⟩, ?_⟩
      rw [← rl.length]; exact q _ H1 [] (Ex.refl _) ⟨rfl, rfl⟩ Cl.nil
    · obtain ⟨p, vs, f, rfl, hp, rl, rfl⟩ := r
      refine ⟨_, vs.length, rfl, .inl ⟨vs, SqL.of hp, rfl⟩, ?_⟩
      rw [← rl.length]; exact q _ H1 [] (Ex.refl _) ⟨rfl, rfl⟩ Cl.nil) hs
theorem opd_cat : OpD rCat catL := fun F H x y v w fa fb Q rx ry ka kb ok q => by
  obtain ⟨p, vs, f1, rfl, hp, rl, rfl⟩ := rx.lst_ ok.1
  obtain ⟨p', vs', f2, rfl, hp', rl', rfl⟩ := ry.lst_ ok.2.1
  refine ⟨p, p', vs, vs', rfl, rfl, hp, hp', sz (by rw [← rl.length, ← rl'.length]; exact ok.2.2), fun l hl => ?_⟩
  exact new_lst (c := .cln) (F := F) (Ex.refl _) (rl.append rl') (fun z hz => Or.inl ((List.mem_append.mp hz).elim (fun h => ka z (by simp [h])) fun h => kb z (by simp [h]))) hl q
theorem de_cat {a b : Expr} {w u : WE} (ha : DE X E a w) (hb : DE X E b u) : DE X E (.BinOp a .Add b pos) (w2 catL w u) := de_bin op_cat opd_cat ha hb
def wSl (w : WE) (lo hi : SF) : WE := fun δ N Q E => w δ N (fun d N1 => (lo δ N1).1 ∧ (hi δ N1).1 ∧ IsL d ∧ Q (.lst (cutD (toL d) (lo δ N1).2 (hi δ N1).2)) N1) E
def wSlU (w : WE) (lo hi : SF) : WE := fun δ N Q E => w δ N (fun d N1 => (lo δ N1).1 ∧ (hi δ N1).1 ∧ IsU d ∧ Q (.tup (cutD (toL d) (lo δ N1).2 (hi δ N1).2)) N1) E
theorem de_sl {a : Expr} {l h : Option Expr} {w : WE} {lo hi : SF} {p2} (ha : DE X E a w) (hl : PO X l (tO lo)) (hh : PO X h (tO hi)) : DE X E (.Subscript a (.Slice l h none p2) pos) (wSl w lo hi) := by
  refine pe_imp (pe_slice sl_list ha hl hh) fun σ H Q h => ?_
  obtain ⟨δ, N, F, P, Q', E', o, q', q, qe⟩ := h
  refine ⟨δ, N, F, P, _, E', o, q', fun v H1 F1 P1 d N1 fp t1 o1 r1 k1 q1 => ?_, qe⟩
  obtain ⟨b1, b2, b3, q2⟩ := q1
  refine ⟨δ, N1, F1, o1.sr, o1.nr, b1, fun H2 e2 => ⟨δ, N1, F1, o1.sr.ex e2, o1.nr.ex e2, b2, fun H3 e3 => ?_⟩⟩
  obtain ⟨p, vs, f', rfl, hp, rl, rfl⟩ := ((r1.ex e2).ex e3).lst_ b3
  refine ⟨p, vs, rfl, SqL.of hp, fun l hl => ?_⟩
  obtain ⟨f2, r2, s2, n2⟩ := rl.cut (lo δ N1).2 (hi δ N1).2
  obtain ⟨o2, t2⟩ := o1.grow ((e2.trans e3).trans (Ex.new (o := .lst (cutV vs (lo δ N1).2 (hi δ N1).2)) hl)) (fun z => z = l) fun z hz => by subst hz; exact ⟨.inr ((e2.trans e3).free hl), _, upd_same⟩
  exact q _ _ _ P1 (.lst (cutD (toL d) (lo δ N1).2 (hi δ N1).2)) N1 (l :: f2) (t1.trans t2) o2 ⟨l, _, f2, rfl, upd_same, r2.ex (Ex.new hl), rfl⟩ (fun z hz => (List.mem_cons.mp hz).elim (fun e => .inr e) fun hz => .inl (k1 z (by simp [s2 z hz]))) q2
theorem de_slU {a : Expr} {l h : Option Expr} {w : WE} {lo hi : SF} {p2} (ha : DE X E a w) (hl : PO X l (tO lo)) (hh : PO X h (tO hi)) : DE X E (.Subscript a (.Slice l h none p2) pos) (wSlU w lo hi) := by
  refine pe_imp (pe_slice sl_tupA ha hl hh) fun σ H Q h => ?_
  obtain ⟨δ, N, F, P, Q', E', o, q', q, qe⟩ := h
  refine ⟨δ, N, F, P, _, E', o, q', fun v H1 F1 P1 d N1 fp t1 o1 r1 k1 q1 => ?_, qe⟩
  obtain ⟨b1, b2, b3, q2⟩ := q1
  refine ⟨δ, N1, F1, o1.sr, o1.nr, b1, fun H2 e2 => ⟨δ, N1, F1, o1.sr.ex e2, o1.nr.ex e2, b2, fun H3 e3 => ?_⟩⟩
  obtain ⟨p, vs, rfl, hp, rl⟩ := ((r1.ex e2).ex e3).tup_ b3
  obtain ⟨f2, r2, s2, n2⟩ := rl.cut (lo δ N1).2 (hi δ N1).2
  refine ⟨p, vs, rfl, SqT.of hp, fun hw => ?_, fun _ l hl => ?_⟩
  · rw [cutV_whole hw] at r2
    obtain ⟨o2, t2⟩ := o1.ex (e2.trans e3)
    exact q _ H3 F1 P1 (.tup (cutD (toL d) (lo δ N1).2 (hi δ N1).2)) N1 f2 (t1.trans t2) o2 ⟨p, vs, rfl, hp, r2⟩ (fun z hz => k1 z (s2 z hz)) q2
  · obtain ⟨o2, t2⟩ := o1.ex ((e2.trans e3).trans (Ex.new (o := .tup (cutV vs (lo δ N1).2 (hi δ N1).2)) hl))
    exact q _ _ F1 P1 (.tup (cutD (toL d) (lo δ N1).2 (hi δ N1).2)) N1 f2 (t1.trans t2) o2 ⟨l, _, rfl, upd_same, r2.ex (Ex.new hl)⟩ (fun z hz => k1 z (s2 z hz)) q2
def lrD (d : D) : PV := ⟨IsI d ∧ 0 ≤ toI d ∧ toI d ≤ 16777216, .lst ((rng 0 (toI d).toNat).map DL.D.int)⟩
theorem rg_rng (n : Nat) : rgV 0 (n : Int) = (rng 0 n).map V.int := by
  unfold rgV
  apply List.ext_getElem?
  intro i
  rw [List.getElem?_map, List.getElem?_map]
  by_cases h : i < n
  · rw [rng_get 0 n i h, List.getElem?_range (by omega)]; rfl
  · rw [List.getElem?_eq_none (by simp; omega), List.getElem?_eq_none (by rw [rng_length]; omega)]; rfl
theorem dp_listrange {a : Expr} {f : PF} (hc : X.calm = true) (hg : Gl X "list") (hm : X.mg "list" = none) (hg2 : Gl X "range") (hm2 : X.mg "range" = none) (ha : DP X c1 a f)
    (hs : starEach [a] X.env = (false, eval a X.env) :: starEach [] X.env := by rfl)
    (hs2 : starEach [.Call (.Name "range" p2) [a] [] pos2] X.env = (false, eval (.Call (.Name "range" p2) [a] [] pos2) X.env) :: starEach [] X.env := by rfl) :
    DP X c (.Call (.Name "list" p) [.Call (.Name "range" p2) [a] [] pos2] [] pos) (p1 lrD f) := by
  refine pe_imp (pe_listRg hc hg hm (prg_1 hg2 hm2 ha hs) hs2) fun σ H Q h => ?_
  obtain ⟨δ, N, F, hS, hn, ok, q⟩ := h
  refine ⟨δ, N, F, hS, hn, ok.1, fun v H1 fp e1 r1 k1 => ?_⟩
  obtain ⟨o1, o2, o3⟩ := ok.2
  refine ⟨_, r1.int_ o1, RgOk.of_le (by omega) o3 (by omega) o2, fun l hl => ?_⟩
  have e : toI (f δ N).val = ((toI (f δ N).val).toNat : Int) := by omega
  rw [e, rg_rng]
  exact new_lst (c := c) (F := F) e1 (RpL.of_ints _) Cl.nil hl fun u H' fp e r k => q u H' fp (e1.trans e) r k
def rGtI (K : PySem.W.Frag) : R2 := fun x y H Q => ∃ (p q : Addr) (ms ns : List Int), x = .ref p ∧ y = .ref q ∧ SqL K H p (ms.map V.int) ∧ SqL K H q (ns.map V.int) ∧ Q (.bl (decide (ns < ms))) H
theorem dpAll_ints {K : PySem.W.Frag} {H : Hp} : ∀ ns : List Int, DpAll K H (ns.map V.int) (ns.map PyData.int)
  | [] => .nil
  | n :: ns => .cons (.int n) (dpAll_ints ns)
theorem op_gtI (hu : X.A.units + 64 < cLine) : OpR X (compareOp .Gt) (rGtI X.K) := by
  intro pins s σ H x y v u Q I rx ry h
  obtain ⟨p, q, ms, ns, rfl, rfl, h1, h2, k⟩ := h
  obtain ⟨as, r1⟩ := Dp.reads I (.list (ms.map .int)) _ _ (.lst h1 (dpAll_ints ms)) rx
  obtain ⟨bs, r2⟩ := Dp.reads I (.list (ns.map .int)) _ _ (.lst h2 (dpAll_ints ns)) ry
  have hd := depth_ints ms
  refine PySem.W.gt_data r1 r2 (by simp [PySem.W.alike, alikeAll_ints]) (fun z => nomatch z) ?_ (fin_bl I k ?_)
  · have : (PyData.list (ms.map .int)).depth ≤ 2 := by simp [PyData.depth]; omega
    have := Nat.min_le_left (PyData.list (ms.map .int)).depth (PyData.list (ns.map .int)).depth
    omega
  · rw [PySem.W.dataLt_list]; exact (PySem.W.dataLt_ints ns ms).symm
def cGtQ (x y : D) : TV := ⟨Ints x ∧ Ints y, decide (toIs y < toIs x)⟩
theorem cmpd_gtQ {K : PySem.W.Frag} : CmpD (rGtI K) cGtQ := fun H x y v w fa fb Q rx ry ok q => by
  obtain ⟨p, rfl, hp⟩ := rx.ints ok.1
  obtain ⟨p', rfl, hp'⟩ := ry.ints ok.2
  exact ⟨p, p', _, _, rfl, rfl, SqL.of hp, SqL.of hp', q⟩
theorem dp_gtQ {a b : Expr} {f g : PF} (hu : X.A.units + 64 < cLine) (ha : DP X c1 a f) (hb : DP X c2 b g) : DP X c (.Compare a [.Gt] [b] pos) (pc2 cGtQ f g) :=
  dp_cmp (hf := cGtQ) (op_gtI hu) ha hb (nomark _) fun H2 x y v w fa fb Q rx ry ok q => cmpd_gtQ H2 x y v w fa fb Q rx ry ok q
theorem dt_gtQ {a b : Expr} {f g : PF} (hu : X.A.units + 64 < cLine) (ha : DP X c1 a f) (hb : DP X c2 b g) : DT X (.Compare a [.Gt] [b] pos) (tc2 cGtQ f g) :=
  dt_cmp (hf := cGtQ) (op_gtI hu) ha hb (nomark _) fun H2 x y v w fa fb Q rx ry ok q => cmpd_gtQ H2 x y v w fa fb Q rx ry ok q
end
end DL
set_option maxHeartbeats 4000000
namespace DL
open PySem L2
abbrev rInt1 : List V → Hp → VK → Prop := fun xs H Q => (∃ i, xs = [.int i] ∧ Q (.int i) H) ∨ ∃ k, xs = [.bl k] ∧ Q (.int (if k then 1 else 0)) H
abbrev tInt1 (t : TE) : TE := tCB rInt1 (tCons t tNil)
def t_mixW (K : PySem.W.Frag) : TS := tSeq (tAsg (tVar 1) (gName 2))
  (tSeq (tFor (iList K (tVar 0)) (gName 3) (tAsg (tOp rMo (tInt1 (tOp rAd (tOp rAd (tOp rMu (tVar 2) (tC (.int 48271))) (tOp rMo (tInt1 (tVar 3)) (tC (.int 2147483629)))) (tC (.int 1)))) (tC (.int 2147483647))) (gName 2)))
  (tRet (tLst (tCons (tVar 2) (tCons (tCB (rLo K) (tCons (tVar 0) tNil)) (tCons (tC (.int 0)) tNil))))))
theorem r_mixW {K : PySem.W.Frag} {N : List Str} (hN : N.length = 4) (vs : List V) (H : Hp) (Q : VK) (E : XK) (h : spMix K vs H Q E) : t_mixW K { nx := fun _ H' => Q .non H', rt := Q } (start N vs) H := by
  obtain ⟨a, ns, m, rfl, h0, h1, hs, q⟩ := h
  have e0 : start N [.ref a, .int m] = [some (.ref a), some (.int m), none, none] := by
    show [some (V.ref a), some (V.int m)] ++ List.replicate (N.length - 2) none = _
    rw [hN]; rfl
  rw [e0]
  refine ⟨_, rfl, ?_⟩
  show tSeq _ _ _ [some (.ref a), some (.int m), some (.int m), none] H
  refine ⟨_, rfl, a, rfl, ⟨_, hs⟩, ?_⟩
  refine for_list (xs := ns.map V.int) (fun i σ H' => H' = H ∧ ∃ (m' : Int) (c : Option V), 0 ≤ m' ∧ m' < MX ∧ σ = [some (.ref a), some (.int m), some (.int m'), c]) ⟨rfl, m, none, h0, h1, rfl⟩ ?_ ?_ ?_
  · rintro i σ H' _ ⟨rfl, _⟩; exact hs
  · rintro i x σ H' hx ⟨rfl, m', c, g0, g1, rfl⟩
    rw [List.getElem?_map] at hx
    obtain ⟨z, hz, rfl⟩ := Option.map_eq_some_iff.mp hx
    show tAsg _ _ _ [some (.ref a), some (.int m), some (.int m'), some (.int z)] H'
    unfold MX at *
    refine ⟨_, rfl, _, _, rfl, rfl, .inl ⟨by omega, by omega⟩, _, rfl, .inl ⟨_, rfl, _, _, rfl, rfl, (by decide : (0 : Int) < 2147483629), _, _, rfl, rfl, _, _, rfl, rfl, .inl ⟨_, rfl, _, _, rfl, rfl, (by decide : (0 : Int) < 2147483647), ?_⟩⟩⟩
    exact ⟨rfl, _, _, Int.emod_nonneg _ (by decide), Int.emod_lt_of_pos _ (by decide), rfl⟩
  · rintro σ H' ⟨rfl, m', c, g0, g1, rfl⟩
    refine ⟨_, rfl, _, rfl, a, _, rfl, .inl hs, fun qq hq => ?_⟩
    refine ⟨(by decide : 3 ≤ sizeLine), fun p hp => ?_⟩
    refine q m' p qq g0 g1 (fun z => ?_) hq ?_
    · subst z; rw [upd_same] at hp; cases hp
    · cases e : H' p with
      | none => rfl
      | some o =>
        have : p ≠ qq := fun z => by subst z; rw [hq] at e; cases e
        rw [upd_ne this, e] at hp; cases hp
end DL
set_option maxHeartbeats 4000000
namespace DL
open PySem L2
section
variable {X : Cx} {E : XK} {c c1 c2 : Cl} {pos p : Pos} {rc : Bool}
def gTL (n : Nat) (Gs : GFs) : GF := fun d δ => ⟨IsL d ∧ (toL d).length = n ∧ (Gs (toL d) δ).ok, (Gs (toL d) δ).loc⟩
theorem dg_lst {es : List Expr} {k : Nat} {sl : List Nat} {Gs : GFs} {n : Nat} (hc : X.calm = true) (h : DGs X es sl Gs) (hn : (assignEach es X.env).length = n := by rfl) (hst : (assignEach es X.env).findIdx? (·.1) = none := by rfl) :
    DG X (.Tuple es k pos) sl (gTL n Gs) := by
  refine pg_imp (pg_lst hc h hn hst) fun v σ H Q h => ?_
  obtain ⟨δ, F, d, fp, hs, r, hF, ok, q⟩ := h
  obtain ⟨p, vs, f', rfl, hp, rl, rfl⟩ := r.lst_ ok.1
  exact ⟨p, vs, rfl, SqL.of hp, by rw [← rl.length]; exact ok.2.1, δ, F, _, f', hs, rl, fun z hz => hF z (by simp [hz]), ok.2.2, q⟩
def sSetMT (i : Nat) (f : PF) : WS := fun K δ N => (f δ N).ok ∧ ∃ d1 d2, (f δ N).val = .tup [d1, d2] ∧ IsC d1 ∧ IsC d2 ∧ ∀ a b, a ≠ b → N a = none → N b = none → K.nx (δ.set i (some (.tup [.ref a, .ref b]))) (updN (updN N a ⟨true, d1⟩) b ⟨true, d2⟩)
theorem ds_setMT {i : Nat} {y : Str} {e : Expr} {f : PF} {pos' : Pos} (hN : X.N.Nodup) (hi : X.N[i]? = some y) (hx : L2.Loc X.env.scope y) (he : DP X .frs e f) (hs : swapsWith e (some (.Name y pos')) pos.line X.env = pure false := by rfl)
    (hf : X.fn y = true ∨ X.env.scope.names.lookup y = some .local := by first | exact .inl rfl | exact .inr rfl | assumption) : DS X E rc (.Assign [.Name y pos'] e pos) (sSetMT i f) := ps_imp (ps_set hN hi hx he hs hf) fun D σ H h => by
  obtain ⟨δ, N, F, P, K, o, ⟨ok, d1, d2, ev, k1, k2, q⟩, e⟩ := h
  refine ⟨δ, N, F, o.sr, o.nr, ok, fun v H1 fp e1 r1 kk => ?_⟩
  rw [ev] at r1
  obtain ⟨t, vs, rfl, ht, rl⟩ := r1
  obtain ⟨v1, vr, f1, f', rfl, ra, rb, rfl⟩ := rl
  obtain ⟨v2, vr2, f2, g2, rfl, rb, rn, rfl⟩ := rb
  obtain ⟨rfl, rfl⟩ := rn
  rw [List.append_nil] at kk
  obtain ⟨nd, new⟩ := kk
  obtain ⟨nd1, nd2, dj⟩ := List.nodup_append.mp nd
  obtain ⟨a, rfl, ha⟩ := ra.cell k1
  obtain ⟨b, rfl, hb⟩ := rb.cell k2
  have hab : a ≠ b := fun z => dj a ha b hb z
  obtain ⟨h1, o1, t1⟩ := o.alloc e1 ra ha nd1 fun q hq => new q (by simp [hq])
  have f2new : ∀ q ∈ f2, H q = none := fun q hq => new q (by simp [hq])
  obtain ⟨fpm, w⟩ := o1.wf
  have hNb : N b = none := by
    cases z : N b with
    | none => rfl
    | some cc =>
      obtain ⟨fq, hq, hbq⟩ := o.nr b cc z
      obtain ⟨ob, hob, _⟩ := Rp.there _ _ _ hq b hbq
      rw [f2new b hb] at hob; cases hob
  obtain ⟨fpm0, w0⟩ := o.wf
  have hold : ∀ q ∈ f2, ∀ b' cc, N b' = some cc → q ∉ fpm0 b' := fun q hq b' cc hn z => by
    obtain ⟨ob, ho, _⟩ := Rp.there _ _ _ (w0.cell b' cc hn).1 q z
    rw [f2new q hq] at ho; cases ho
  have hold1 : ∀ q ∈ f1, ∀ b' cc, N b' = some cc → q ∉ fpm0 b' := fun q hq b' cc hn z => by
    obtain ⟨ob, ho, _⟩ := Rp.there _ _ _ (w0.cell b' cc hn).1 q z
    rw [new q (by simp [hq])] at ho; cases ho
  have w1 : Wf N F P H1 fpm0 := ⟨fun a c h => ⟨(w0.cell a c h).1.ex e1, (w0.cell a c h).2⟩, w0.own, w0.sep, fun p h => ⟨(w0.fr p h).1, let ⟨_, ob, ho⟩ := w0.fr p h; ⟨ob, e1 p ob ho⟩⟩, fun p h => let ⟨ob, h1, h2⟩ := w0.pr p h; ⟨ob, e1 p ob h1, h2⟩⟩
  have nF : ∀ q, H q = none → ¬ F q := fun q hq z => by obtain ⟨_, ob, ho⟩ := w0.fr q z; rw [hq] at ho; cases ho
  obtain ⟨_, w2⟩ := w1.alloc ra ha nd1 (fun q hq => nF q (new q (by simp [hq]))) hold1
  obtain ⟨_, w3⟩ := w2.alloc rb hb nd2 (fun q hq => nF q (f2new q hq)) fun q hq b' cc hn z => by
    by_cases hz : b' = a
    · subst hz
      rw [if_pos rfl] at z
      exact dj q z q hq rfl
    · rw [updN_ne hz] at hn
      rw [if_neg hz] at z
      exact hold q hq b' cc hn z
  have t3 : Tr F P H F (fun q => (P q ∨ q ∈ f1) ∨ q ∈ f2) H1 := ⟨fun _ h => h, fun p o h _ => e1 p o h, fun p o h => ⟨o, e1 p o h⟩, fun p h => by
    rcases h with (h | h) | h
    · exact .inl h
    · exact .inr (new p (by simp [h]))
    · exact .inr (f2new p h), fun _ h => .inl h⟩
  refine e.nx _ H1 F _ _ _ t3 ⟨⟨_, w3⟩, ?_⟩ (q a b hab h1 hNb)
  exact (o.sr.ex e1).set (d := .tup [.ref a, .ref b]) (fp := []) ⟨t, _, rfl, ht, ⟨_, _, [], [], rfl, ⟨rfl, rfl⟩, ⟨_, _, [], [], rfl, ⟨rfl, rfl⟩, RpL.nil, rfl⟩, rfl⟩⟩ (by simp)
end
end DL
set_option maxHeartbeats 4000000
namespace DL
open PySem L2
mutual
def rd (N : Nm) : D → D
  | .ref a => match N a with
    | some c => c.d
    | none => .ref a
  | .tup ds => .tup (rds N ds)
  | d => d
def rds (N : Nm) : List D → List D
  | [] => []
  | d :: ds => rd N d :: rds N ds
end
mutual
theorem Rp.rd {N : Nm} {H : Hp} (n : NRep N H) : ∀ (d : D) (v : V) (fp : List Addr), Rp H d v fp → ∃ fq, Rp H (DL.rd N d) v fq
  | .ref a, v, fp, r => by
    cases h : N a with
    | none => exact ⟨fp, by simp only [DL.rd, h]; exact r⟩
    | some c =>
      obtain ⟨fq, hq, _⟩ := n a c h
      have ev : v = .ref a := r.1
      subst ev
      exact ⟨fq, by simp only [DL.rd, h]; exact hq⟩
  | .tup ds, v, fp, r => by
    obtain ⟨p, vs, rfl, hp, rl⟩ := r
    obtain ⟨fq, rq⟩ := RpL.rds n ds vs fp rl
    exact ⟨fq, by simp only [DL.rd]; exact ⟨p, vs, rfl, hp, rq⟩⟩
  | .non, v, fp, r => ⟨fp, r⟩
  | .bl _, v, fp, r => ⟨fp, r⟩
  | .int _, v, fp, r => ⟨fp, r⟩
  | .str _, v, fp, r => ⟨fp, r⟩
  | .lst _, v, fp, r => ⟨fp, r⟩
  | .dic _ _, v, fp, r => ⟨fp, r⟩
  | .obj _ _ _ _, v, fp, r => ⟨fp, r⟩
  | .tab _, v, fp, r => ⟨fp, r⟩
  | .xdc _ _, v, fp, r => ⟨fp, r⟩
  | .fdic _ _, v, fp, r => ⟨fp, r⟩
theorem RpL.rds {N : Nm} {H : Hp} (n : NRep N H) : ∀ (ds : List D) (vs : List V) (fp : List Addr), RpL H ds vs fp → ∃ fq, RpL H (DL.rds N ds) vs fq
  | [], vs, fp, r => ⟨fp, r⟩
  | d :: ds, vs, fp, r => by
    obtain ⟨v, vr, f, g, rfl, h1, h2, rfl⟩ := r
    obtain ⟨f', r1⟩ := Rp.rd n d v f h1
    obtain ⟨g', r2⟩ := RpL.rds n ds vr g h2
    exact ⟨f' ++ g', v, vr, f', g', rfl, r1, r2, rfl⟩
end
def pRd (f : PF) : PF := fun δ N => ⟨(f δ N).ok, rd N (f δ N).val⟩
theorem dp_rd {X : Cx} {c : Cl} {e : Expr} {f : PF} (h : DP X c e f) : DP X .any e (pRd f) := by
  refine pe_imp h fun σ H Q h => ?_
  obtain ⟨δ, N, F, hs, hn, ok, q⟩ := h
  refine ⟨δ, N, F, hs, hn, ok, fun v H' fp e r k => ?_⟩
  obtain ⟨fq, rq⟩ := Rp.rd (hn.ex e) _ _ _ r
  exact q v H' fq e rq trivial
theorem rd_pair {N : Nm} {a b : Addr} {c d : Cell} (h1 : N a = some c) (h2 : N b = some d) : rd N (.tup [.ref a, .ref b]) = .tup [c.d, d.d] := by
  simp only [rd, rds, h1, h2]
theorem dp_fr {X : Cx} {c : Cl} {e : Expr} {f : PF} (h : DP X .frs e f) : DP X c e f := by
  refine pe_imp h fun σ H Q h => ?_
  obtain ⟨δ, N, F, hs, hn, ok, q⟩ := h
  exact ⟨δ, N, F, hs, hn, ok, fun v H' fp e r k => q v H' fp e r (Cl.frs_ k)⟩
end DL
set_option maxHeartbeats 4000000
namespace DL
open PySem L2
section
variable {X : Cx} {E : XK} {c c1 c2 : Cl} {pos p : Pos} {rc : Bool}
theorem Ok.alloc2 {δ : Loc} {N : Nm} {F P : Addr → Prop} {σ : St} {H H1 : Hp} {d1 d2 : D} {a b : Addr} {f1 f2 : List Addr} (o : Ok δ N F P σ H) (e : Ex H H1) (ra : Rp H1 d1 (.ref a) f1) (ha : a ∈ f1) (rb : Rp H1 d2 (.ref b) f2) (hb : b ∈ f2)
    (nd : (f1 ++ f2).Nodup) (new : ∀ q ∈ f1 ++ f2, H q = none) : a ≠ b ∧ N a = none ∧ N b = none ∧ Ok δ (updN (updN N a ⟨true, d1⟩) b ⟨true, d2⟩) F (fun q => (P q ∨ q ∈ f1) ∨ q ∈ f2) σ H1 ∧ Tr F P H F (fun q => (P q ∨ q ∈ f1) ∨ q ∈ f2) H1 := by
  obtain ⟨nd1, nd2, dj⟩ := List.nodup_append.mp nd
  have hab : a ≠ b := fun z => dj a ha b hb z
  have n1 : ∀ q ∈ f1, H q = none := fun q hq => new q (by simp [hq])
  have n2 : ∀ q ∈ f2, H q = none := fun q hq => new q (by simp [hq])
  obtain ⟨h1, _, _⟩ := o.alloc e ra ha nd1 n1
  obtain ⟨h2, _, _⟩ := o.alloc e rb hb nd2 n2
  obtain ⟨fpm0, w0⟩ := o.wf
  have old : ∀ f : List Addr, (∀ q ∈ f, H q = none) → ∀ q ∈ f, ∀ b' cc, N b' = some cc → q ∉ fpm0 b' := fun f hf q hq b' cc hn z => by
    obtain ⟨ob, ho, _⟩ := Rp.there _ _ _ (w0.cell b' cc hn).1 q z
    rw [hf q hq] at ho; cases ho
  have w1 : Wf N F P H1 fpm0 := ⟨fun a c h => ⟨(w0.cell a c h).1.ex e, (w0.cell a c h).2⟩, w0.own, w0.sep, fun p h => ⟨(w0.fr p h).1, let ⟨_, ob, ho⟩ := w0.fr p h; ⟨ob, e p ob ho⟩⟩, fun p h => let ⟨ob, h1, h2⟩ := w0.pr p h; ⟨ob, e p ob h1, h2⟩⟩
  have nF : ∀ q, H q = none → ¬ F q := fun q hq z => by obtain ⟨_, ob, ho⟩ := w0.fr q z; rw [hq] at ho; cases ho
  obtain ⟨_, w2⟩ := w1.alloc ra ha nd1 (fun q hq => nF q (n1 q hq)) (old f1 n1)
  obtain ⟨_, w3⟩ := w2.alloc rb hb nd2 (fun q hq => nF q (n2 q hq)) fun q hq b' cc hn z => by
    by_cases hz : b' = a
    · subst hz
      rw [if_pos rfl] at z
      exact dj q z q hq rfl
    · rw [updN_ne hz] at hn
      rw [if_neg hz] at z
      exact old f2 n2 q hq b' cc hn z
  refine ⟨hab, h1, h2, ⟨⟨_, w3⟩, o.sr.ex e⟩, fun _ h => h, fun p o h _ => e p o h, fun p o h => ⟨o, e p o h⟩, fun p h => ?_, fun _ h => .inl h⟩
  rcases h with (h | h) | h
  · exact .inl h
  · exact .inr (n1 p h)
  · exact .inr (n2 p h)
def sSetMN (i : Nat) (f : PF) : WS := fun K δ N => (f δ N).ok ∧ ∃ d, (f δ N).val = .lst [d] ∧ IsC d ∧ ∀ a b, a ≠ b → N a = none → N b = none → K.nx (δ.set i (some (.ref a))) (updN (updN N b ⟨true, d⟩) a ⟨true, .lst [.ref b]⟩)
theorem ds_setMN {i : Nat} {y : Str} {e : Expr} {f : PF} {pos' : Pos} (hN : X.N.Nodup) (hi : X.N[i]? = some y) (hx : L2.Loc X.env.scope y) (he : DP X .frs e f) (hs : swapsWith e (some (.Name y pos')) pos.line X.env = pure false := by rfl)
    (hf : X.fn y = true ∨ X.env.scope.names.lookup y = some .local := by first | exact .inl rfl | exact .inr rfl | assumption) : DS X E rc (.Assign [.Name y pos'] e pos) (sSetMN i f) := ps_imp (ps_set hN hi hx he hs hf) fun D σ H h => by
  obtain ⟨δ, N, F, P, K, o, ⟨ok, d, ev, kc, q⟩, e⟩ := h
  refine ⟨δ, N, F, o.sr, o.nr, ok, fun v H1 fp e1 r1 kk => ?_⟩
  rw [ev] at r1
  obtain ⟨a, vs, f', rfl, hp, rl, rfl⟩ := r1
  obtain ⟨v1, vr, f1, g, rfl, rb, rn, rfl⟩ := rl
  obtain ⟨rfl, rfl⟩ := rn
  rw [List.append_nil] at kk
  obtain ⟨b, rfl, hb⟩ := rb.cell kc
  obtain ⟨hba, hNb, hNa, o2, t2⟩ := o.alloc2 (a := b) (b := a) (f1 := f1) (f2 := [a]) (d2 := .lst [.ref b]) e1 rb hb ⟨a, _, [], rfl, hp, ⟨_, _, [], [], rfl, ⟨rfl, rfl⟩, RpL.nil, rfl⟩, rfl⟩ (by simp)
    (List.nodup_append.mpr ⟨(List.nodup_cons.mp kk.1).2, by simp, fun x hx y hy z => by rw [List.mem_singleton.mp hy] at z; subst z; exact (List.nodup_cons.mp kk.1).1 hx⟩) (fun z hz => kk.2 z (by rcases List.mem_append.mp hz with hz | hz <;> simp_all))
  exact e.nx _ H1 F _ _ _ t2 ⟨o2.wf, o2.sr.set (d := .ref a) (fp := []) ⟨rfl, rfl⟩ (by simp)⟩ (q a b (fun z => hba z.symm) hNa hNb)
def sAppN (pl : PLF) (f : PF) : WS := fun K δ N => (pl δ N).ok ∧ (f δ N).ok ∧ IsC (f δ N).val ∧ ∃ t xs, N (pl δ N).a = some ⟨true, t⟩ ∧ sub t (pl δ N).π = some (.lst xs) ∧ xs.length < SZ ∧
  ∀ b, b ≠ (pl δ N).a → N b = none → K.nx δ (updN (updN N b ⟨true, (f δ N).val⟩) (pl δ N).a ⟨true, put t (pl δ N).π (.lst (xs ++ [.ref b]))⟩)
theorem ds_appN {e a : Expr} {pl : PLF} {f : PF} {apos ppos : Pos} (hp : PLc X e pl) (ha : DP X .frs a f) (hs : swapsWith (.Call (.Attribute e "append" apos) [a] [] ppos) none pos.line X.env = pure false := by rfl)
    (hbm : PE X (.Call (.Attribute e "append" apos) [a] [] ppos) (tBM X.K "list" rAppend (tPl pl) (tCons (tP .frs f) tNil))) : DS X E rc (.Expr (.Call (.Attribute e "append" apos) [a] [] ppos) pos) (sAppN pl f) := ps_imp (ps_expr hbm hs) fun D σ H h => by
  obtain ⟨δ, N, F, P, K, o, ⟨o1, o2, kc, t, xs, hN, hsub, hz, q⟩, e⟩ := h
  refine ⟨δ, N, F, P, o, _, _, o1, hN, hsub, fun u H1 e1 at1 => ?_⟩
  obtain ⟨p, vs, f0, rfl, hp, rl⟩ := at1.lst_ o hN e1
  refine ⟨.inl ⟨rfl, _, SqL.of hp⟩, δ, N, F, o.sr.ex e1, o.nr.ex e1, o2, fun v H2 fq e2 r2 k2 => ?_⟩
  have hp2 := e2 _ _ hp
  refine ⟨p, vs, v, rfl, rfl, hp2, Nat.lt_of_lt_of_le (by rw [← rl.length]; exact hz) (sz (Nat.le_refl _)), ?_⟩
  obtain ⟨b, rfl, hb⟩ := r2.cell kc
  obtain ⟨hNb, ob, tb⟩ := o.alloc (e1.trans e2) r2 hb k2.1 fun q hq => e1.free (k2.2 q hq)
  have hba : b ≠ (pl δ N).a := fun z => by rw [z, hN] at hNb; cases hNb
  have hN2 : updN N b ⟨true, (f δ N).val⟩ (pl δ N).a = some ⟨true, t⟩ := by rw [updN_ne (fun z => hba z.symm)]; exact hN
  obtain ⟨P', o', t'⟩ := ob.writeL (ys := xs ++ [.ref b]) (ws := vs ++ [.ref b]) (g := []) (Ex.refl _) hN2 (at1.ex e2) hp2 (by simp) List.nodup_nil fun f r nd ng => by
    refine ⟨f, by have := RpL.append r (RpL.one (d := .ref b) (v := .ref b) (f := []) ⟨rfl, rfl⟩); rw [List.append_nil] at this; exact this, nd, fun q hq => .inl hq⟩
  exact e.nx σ _ F P' δ _ (tb.trans t') o' (q b hba hNb)
end
end DL
set_option maxHeartbeats 4000000
namespace DL
open PySem L2
def isKey : D → Prop | .int _ => True | .str _ => True | _ => False
def toK : D → Key | .int i => .inl i | .str s => .inr s | _ => .inl 0
def IsDic : D → Prop | .dic _ _ => True | _ => False
def toKs : D → List Key | .dic ks _ => ks | _ => []
theorem Rp.key_ {H : Hp} {d : D} {v : V} {fp : List Addr} (h : Rp H d v fp) (k : isKey d) : v = kV (toK d) := by
  cases d <;> first | exact h.1 | exact k.elim
theorem IsDic.eq {d : D} (h : IsDic d) : d = .dic (toKs d) (kids d) := by cases d <;> first | rfl | exact h.elim
theorem Rp.dic_ {H : Hp} {d : D} {v : V} {fp : List Addr} (h : Rp H d v fp) (k : IsDic d) : ∃ p vs f, v = .ref p ∧ H p = some (.dK ((toKs d).zip vs)) ∧ RpL H (kids d) vs f ∧ (toKs d).length = vs.length ∧ fp = p :: f := by
  rw [k.eq] at h; exact h
def getK (ks : List Key) (xs : List D) (k : Key) : Option D := (idxOf_ k ks).bind fun n => xs[n]?
theorem valV_zip : ∀ {ks : List Key} {vs : List V} {k : Key}, valV (ks.zip vs) k = (idxOf_ k ks).bind fun n => vs[n]?
  | [], _, _ => rfl
  | k' :: ks, [], k => by
    have : (k' :: ks).zip ([] : List V) = [] := rfl
    rw [this]
    cases idxOf_ k (k' :: ks) <;> rfl
  | k' :: ks, v :: vs, k => by
    rw [List.zip_cons_cons]
    unfold idxOf_
    by_cases e : k' = k
    · rw [if_pos e, valV_pos (p := (k', v)) e]; rfl
    · rw [if_neg e, valV_neg (p := (k', v)) e, valV_zip]
      cases idxOf_ k ks <;> rfl
theorem getK_rd {H : Hp} {ks : List Key} {ds : List D} {vs : List V} {f : List Addr} {k : Key} (rl : RpL H ds vs f) :
    match getK ks ds k with
    | some d => ∃ v fv, valV (ks.zip vs) k = some v ∧ Rp H d v fv ∧ (∀ p ∈ fv, p ∈ f) ∧ (f.Nodup → fv.Nodup)
    | none => valV (ks.zip vs) k = none := by
  rw [valV_zip]
  unfold getK
  cases e : idxOf_ k ks with
  | none => rfl
  | some n =>
    show match ds[n]? with | some d => _ | none => _
    cases e2 : ds[n]? with
    | none =>
      have : vs[n]? = none := List.getElem?_eq_none (by rw [← rl.length]; exact List.getElem?_eq_none_iff.mp e2)
      exact this
    | some d =>
      obtain ⟨v, fv, h1, h2, h3, h4⟩ := rl.get e2
      exact ⟨v, fv, h1, h2, h3, h4⟩
theorem hu1 {n : Nat} (h : n + 64 < cLine) : n + 1 < cLine := by omega
section
variable {X : Cx} {E : XK} {c c1 c2 : Cl} {pos p p2 pos2 : Pos} {rc : Bool}
def dgetD (x y : D) : PV := ⟨IsDic x ∧ isKey y ∧ (getK (toKs x) (kids x) (toK y)).isSome = true, (getK (toKs x) (kids x) (toK y)).getD .non⟩
theorem dp_dget {a b : Expr} {f g : PF} (hu : X.A.units + 64 < cLine) (ha : DP X c a f) (hb : DP X c1 b g) (hs : NoSl b := by exact fun _ _ => rfl) : DP X c (.Subscript a b pos) (DL.p2 dgetD f g) := by
  refine pe_imp (pe_dget (hu1 hu) ha hb hs) fun σ H Q h => ?_
  obtain ⟨δ, N, F, hS, hn, ⟨o1, o2, o3, o4, o5⟩, q⟩ := h
  refine ⟨δ, N, F, hS, hn, o1, fun v H1 fa e1 r1 k1 => ⟨δ, N, F, hS.ex e1, hn.ex e1, o2, fun w H2 fb e2 r2 k2 => ?_⟩⟩
  obtain ⟨d, ed⟩ := Option.isSome_iff_exists.mp o5
  obtain ⟨pp, vs, f', rfl, hp, rl, hl, rfl⟩ := (r1.ex e2).dic_ o3
  have hw := r2.key_ o4
  subst hw
  have z := getK_rd (ks := toKs (f δ N).val) (k := toK (g δ N).val) rl
  rw [ed] at z
  obtain ⟨u, fu, h1, h2, h3, h4⟩ := z
  refine ⟨pp, u, rfl, by rw [← h1]; exact DGet.k hp, q u H2 fu (e1.trans e2) ?_ (Cl.sub k1 (fun z hz => by simp [h3 z hz]) fun n => h4 (List.nodup_cons.mp n).2)⟩
  simp only [DL.p2, dgetD, ed]; exact h2
def dinT (neg : Bool) (x y : D) : TV := ⟨isKey x ∧ IsDic y, if neg = true then !(getK (toKs y) (kids y) (toK x)).isSome else (getK (toKs y) (kids y) (toK x)).isSome⟩
theorem getK_some {H : Hp} {ks : List Key} {ds : List D} {vs : List V} {f : List Addr} {k : Key} (rl : RpL H ds vs f) : (valV (ks.zip vs) k).isSome = (getK ks ds k).isSome := by
  have z := getK_rd (ks := ks) (k := k) rl
  cases e : getK ks ds k with
  | none => rw [e] at z; rw [z]; rfl
  | some d => rw [e] at z; obtain ⟨u, fu, h1, _⟩ := z; rw [h1]; rfl
theorem dp_din {a b : Expr} {f g : PF} (hu : X.A.units + 64 < cLine) (ha : DP X c1 a f) (hb : DP X c2 b g) (hm : behindInMarks .In b = false := by rfl) : DP X c (.Compare a [.In] [b] pos) (pc2 (dinT false) f g) := by
  refine pe_imp (pe_cmp (pc_din (hu1 hu) ha hb) hm) fun σ H Q h => ?_
  obtain ⟨δ, N, F, hs, hn, ⟨o1, o2, o3, o4⟩, q⟩ := h
  refine ⟨δ, N, F, hs, hn, o1, fun v H1 fa e1 r1 k1 => ⟨δ, N, F, hs.ex e1, hn.ex e1, o2, fun w H2 fb e2 r2 k2 => ?_⟩⟩
  obtain ⟨pp, vs, f', rfl, hp, rl, hl, rfl⟩ := r2.dic_ o4
  have hw := r1.key_ o3
  subst hw
  refine ⟨pp, _, rfl, DGet.k hp, ?_⟩
  rw [getK_some rl]
  exact q _ H2 [] (e1.trans e2) ⟨rfl, rfl⟩ Cl.nil
theorem dp_dnotIn {a b : Expr} {f g : PF} (hu : X.A.units + 64 < cLine) (ha : DP X c1 a f) (hb : DP X c2 b g) (hm : behindInMarks .NotIn b = false := by rfl) : DP X c (.Compare a [.NotIn] [b] pos) (pc2 (dinT true) f g) := by
  refine pe_imp (pe_cmp (pc_dnotin (hu1 hu) ha hb) hm) fun σ H Q h => ?_
  obtain ⟨δ, N, F, hs, hn, ⟨o1, o2, o3, o4⟩, q⟩ := h
  refine ⟨δ, N, F, hs, hn, o1, fun v H1 fa e1 r1 k1 => ⟨δ, N, F, hs.ex e1, hn.ex e1, o2, fun w H2 fb e2 r2 k2 => ?_⟩⟩
  obtain ⟨pp, vs, f', rfl, hp, rl, hl, rfl⟩ := r2.dic_ o4
  have hw := r1.key_ o3
  subst hw
  refine ⟨pp, _, rfl, DGet.k hp, ?_⟩
  rw [getK_some rl]
  exact q _ H2 [] (e1.trans e2) ⟨rfl, rfl⟩ Cl.nil
theorem dt_din {a b : Expr} {f g : PF} (hu : X.A.units + 64 < cLine) (ha : DP X c1 a f) (hb : DP X c2 b g) (hm : behindInMarks .In b = false := by rfl) : DT X (.Compare a [.In] [b] pos) (tc2 (dinT false) f g) := by
  refine pt_imp (pt_cmp (pc_din (hu1 hu) ha hb) hm) fun σ H Q h => ?_
  obtain ⟨δ, N, F, hs, hn, ⟨o1, o2, o3, o4⟩, q⟩ := h
  refine ⟨δ, N, F, hs, hn, o1, fun v H1 fa e1 r1 k1 => ⟨δ, N, F, hs.ex e1, hn.ex e1, o2, fun w H2 fb e2 r2 k2 => ?_⟩⟩
  obtain ⟨pp, vs, f', rfl, hp, rl, hl, rfl⟩ := r2.dic_ o4
  have hw := r1.key_ o3
  subst hw
  refine ⟨pp, _, rfl, DGet.k hp, _, rfl, ?_⟩
  rw [getK_some rl]
  exact q H2 (e1.trans e2)
theorem dt_dnotIn {a b : Expr} {f g : PF} (hu : X.A.units + 64 < cLine) (ha : DP X c1 a f) (hb : DP X c2 b g) (hm : behindInMarks .NotIn b = false := by rfl) : DT X (.Compare a [.NotIn] [b] pos) (tc2 (dinT true) f g) := by
  refine pt_imp (pt_cmp (pc_dnotin (hu1 hu) ha hb) hm) fun σ H Q h => ?_
  obtain ⟨δ, N, F, hs, hn, ⟨o1, o2, o3, o4⟩, q⟩ := h
  refine ⟨δ, N, F, hs, hn, o1, fun v H1 fa e1 r1 k1 => ⟨δ, N, F, hs.ex e1, hn.ex e1, o2, fun w H2 fb e2 r2 k2 => ?_⟩⟩
  obtain ⟨pp, vs, f', rfl, hp, rl, hl, rfl⟩ := r2.dic_ o4
  have hw := r1.key_ o3
  subst hw
  refine ⟨pp, _, rfl, DGet.k hp, _, rfl, ?_⟩
  rw [getK_some rl]
  exact q H2 (e1.trans e2)

def pK (x : D) : Key := toK ((toL x).getD 0 .non)
def pV (x : D) : D := (toL x).getD 1 .non
def IsPair (x : D) : Prop := ∃ k v, x = .tup [k, v] ∧ isKey k
def dictD (d : D) : PV := ⟨IsL d ∧ (∀ x ∈ toL d, IsPair x) ∧ ((toL d).map pK).Nodup, .dic ((toL d).map pK) ((toL d).map pV)⟩
theorem mergeK_nodup : ∀ {more kvs : List (Key × V)}, ((kvs ++ more).map (·.1)).Nodup → mergeK kvs more = kvs ++ more
  | [], kvs, _ => by simp [mergeK]
  | kv :: more, kvs, h => by
    have e : putK kvs kv.1 kv.2 = kvs ++ [kv] := by
      unfold putK
      rw [if_neg]
      intro z
      rw [List.any_eq_true] at z
      obtain ⟨x, hx, ex⟩ := z
      have ex := of_decide_eq_true ex
      rw [List.map_append, List.nodup_append] at h
      exact h.2.2 x.1 (List.mem_map.mpr ⟨x, hx, rfl⟩) kv.1 (by simp) ex
    show mergeK (putK kvs kv.1 kv.2) more = _
    rw [e, mergeK_nodup (by rw [List.append_assoc]; exact h), List.append_assoc]; rfl
theorem pairs_rd {K : PySem.W.Frag} {H : Hp} : ∀ {ds : List D} {vs : List V} {f : List Addr}, RpL H ds vs f → (∀ x ∈ ds, IsPair x) →
    ∃ (ps : List Addr) (ws : List V), vs = ps.map V.ref ∧ Paired (fun p kv => SqT K H p [kV kv.1, kv.2]) ps ((ds.map pK).zip ws) ∧ RpL H (ds.map pV) ws f ∧ (ds.map pK).length = ws.length
  | [], vs, f, h, _ => by obtain ⟨rfl, rfl⟩ := h; exact ⟨[], [], rfl, .nil, RpL.nil, rfl⟩
  | d :: ds, vs, f, h, hp => by
    obtain ⟨v, vr, f1, f2, rfl, h1, h2, rfl⟩ := h
    obtain ⟨k, x, rfl, hk⟩ := hp d (by simp)
    obtain ⟨ps, ws, rfl, a2, a3, a4⟩ := pairs_rd (K := K) h2 fun y hy => hp y (by simp [hy])
    obtain ⟨pp, us, rfl, hpp, rl⟩ := h1
    obtain ⟨v1, u1, g1, g2, rfl, r1, r2, rfl⟩ := rl
    obtain ⟨v2, u2, g3, g4, rfl, r3, r4, rfl⟩ := r2
    obtain ⟨rfl, rfl⟩ := r4
    have hv1 := r1.key_ hk
    have hg1 : g1 = [] := by cases k <;> first | exact r1.2 | exact hk.elim
    subst hv1 hg1
    refine ⟨pp :: ps, v2 :: ws, rfl, ?_, ?_, by simpa using a4⟩
    · exact .cons (SqT.of hpp) a2
    · refine ⟨v2, ws, g3, f2, rfl, r3, a3, by simp⟩
theorem zip_fst {α β : Type} : ∀ {as : List α} {bs : List β}, as.length = bs.length → (as.zip bs).map (·.1) = as
  | [], [], _ => rfl
  | [], _ :: _, h => by simp at h
  | _ :: _, [], h => by simp at h
  | a :: as, b :: bs, h => by simp [zip_fst (as := as) (bs := bs) (by simpa using h)]
theorem dp_dict {a : Expr} {f : PF} (hc : X.calm = true) (hg : Gl X "dict") (hm : X.mg "dict" = none) (ha : DP X c a f) (hs : starEach [a] X.env = (false, eval a X.env) :: starEach [] X.env := by rfl) : DP X c (.Call (.Name "dict" p) [a] [] pos) (p1 dictD f) :=
  cb1 (hf := dictD) (fun h => pe_callTy (call_dictP hc) hg hm (by decide +kernel) h (he := hs) (hpl := by rfl)) ha (fun F H H1 d v fp Q e1 r k ok q => by
    obtain ⟨o1, o2, o3⟩ := ok
    obtain ⟨pp, vs, f', rfl, hp, rl, rfl⟩ := r.lst_ o1
    obtain ⟨ps, ws, rfl, a2, a3, a4⟩ := pairs_rd (K := X.K) rl o2
    refine ⟨pp, ps, _, rfl, SqL.of hp, a2, fun l hl => ?_⟩
    have hmg : mergeK [] (((toL d).map pK).zip ws) = ((toL d).map pK).zip ws := by
      rw [mergeK_nodup]; · rfl
      rw [List.nil_append, zip_fst a4]; exact o3
    rw [hmg]
    have k2 := Cl.sub (f := f') k (fun q hq => by simp [hq]) fun n => (List.nodup_cons.mp n).2
    exact q _ _ (l :: f') (Ex.new hl) ⟨l, ws, f', rfl, upd_same, a3.ex (Ex.new hl), a4, rfl⟩ (Cl.cons e1 k2 (fun q' hq => let ⟨o, ho, _⟩ := RpL.there _ _ _ rl q' hq; ⟨o, ho⟩) hl)) hs
def toN : Key → Int | .inl i => i | _ => 0
def sortdD (d : D) : PV := ⟨IsDic d ∧ (∀ k ∈ toKs d, ∃ i, k = .inl i) ∧ (toKs d).length < 64, .lst ((sortI ((toKs d).map toN)).map D.int)⟩
theorem dp_sortedD {a : Expr} {f : PF} (hc : X.calm = true) (hg : Gl X "sorted") (hm : X.mg "sorted" = none) (ha : DP X c1 a f) (hs : starEach [a] X.env = (false, eval a X.env) :: starEach [] X.env := by rfl) : DP X c (.Call (.Name "sorted" p) [a] [] pos) (p1 sortdD f) :=
  cb1 (hf := sortdD) (fun h => pe_callB (call_sortedDI hc) hg hm (by decide +kernel) h (he := hs) (hpl := by rfl)) ha (fun F H H1 d v fp Q e1 r k ok q => by
    obtain ⟨o1, o2, o3⟩ := ok
    obtain ⟨pp, vs, f', rfl, hp, rl, hl, rfl⟩ := r.dic_ o1
    have e : ∀ ks : List Key, (∀ k ∈ ks, ∃ i, k = .inl i) → ks = (ks.map toN).map Sum.inl := by
      intro ks; induction ks with
      | nil => intro _; rfl
      | cons k ks ih =>
        intro h
        obtain ⟨i, rfl⟩ := h k (by simp)
        rw [List.map_cons, List.map_cons, ← ih fun x hx => h x (by simp [hx])]; rfl
    refine ⟨pp, _, (toKs d).map toN, rfl, .inl hp, by rw [zip_fst hl]; exact e _ o2, by rw [List.length_map]; exact o3, fun ys l h1 h2 hl => ?_⟩
    rw [sortI_of h1 h2]
    exact new_lst (c := c) (F := F) e1 (RpL.of_ints _) Cl.nil hl q) hs
def lensetD (d : D) : PV := ⟨Ints d ∧ (toIs d).Nodup ∧ (toL d).length ≤ 4000, .int (toL d).length⟩
theorem dp_lenset {a : Expr} {f : PF} (hc : X.calm = true) (hg : Gl X "len") (hm : X.mg "len" = none) (hg2 : Gl X "set") (hm2 : X.mg "set" = none) (ha : DP X c1 a f) (na : starEach [a] X.env = (false, eval a X.env) :: starEach [] X.env := by rfl) :
    DP X c (.Call (.Name "len" p) [.Call (.Name "set" p2) [a] [] pos2] [] pos) (p1 lensetD f) := by
  refine pe_imp (RZ.pe_lenSetI hg hm hg2 hm2 ha hc na) fun σ H Q h => ?_
  obtain ⟨δ, N, F, hS, hn, ok, q⟩ := h
  refine ⟨δ, N, F, hS, hn, ok.1, fun v H1 fp e1 r1 k1 => ?_⟩
  obtain ⟨o1, o2, o3⟩ := ok.2
  obtain ⟨pp, rfl, hp⟩ := r1.ints o1
  have hl : (toIs (f δ N).val).length = (toL (f δ N).val).length := by unfold toIs; rw [List.length_map]
  refine ⟨pp, _, rfl, SqL.of hp, o2, by rw [hl]; exact o3, ?_⟩
  rw [hl]
  exact q _ H1 [] e1 ⟨rfl, rfl⟩ Cl.nil
def rSumT (K : PySem.W.Frag) : List V → Hp → VK → Prop := fun vs H Q => ∃ (a : Addr) (ns : List Int), vs = [V.ref a] ∧ SqT K H a (ns.map V.int) ∧ Q (.int ns.sum) H
open PyProof.Rows in
theorem cr_sumT (hc : X.calm = true) : CallR X (.builtin "sum") (rSumT X.K) := by
  intro pins s σ H vs us Q I r h
  obtain ⟨a, ns, rfl, hs, q⟩ := h
  obtain ⟨its, rv, hl, _⟩ := I.tuple hs
  rw [Vals.ref1 r]
  have hi := rv.ints
  obtain ⟨xs, hx⟩ := hi.allInts.items
  have hn : numsOf its.toArray.toList = ns := by rw [show its.toArray.toList = its from rfl, hi.numsOf]
  rw [hx] at hl hn
  rw [nums_intItems] at hn
  refine PySem.W.ktm_sumG (I.ok.hd hc) hl fun h' tk t' hk => ?_
  rw [preSum_eq, List.take_of_length_le (by simp), hn]
  exact ⟨.int _, H, I.kept hk, ⟨_, rfl⟩, q⟩
def sumTD (d : D) : PV := ⟨UInts d, .int (toIs d).sum⟩
theorem dp_sumT {a : Expr} {f : PF} (hc : X.calm = true) (hg : Gl X "sum") (hm : X.mg "sum" = none) (ha : DP X c1 a f) (hs : starEach [a] X.env = (false, eval a X.env) :: starEach [] X.env := by rfl) : DP X c (.Call (.Name "sum" p) [a] [] pos) (p1 sumTD f) :=
  cb1 (hf := sumTD) (fun h => pe_callB (cr_sumT hc) hg hm (by decide +kernel) h (he := hs) (hpl := by rfl)) ha (fun F H H1 d v fp Q e1 r k ok q => by
    have r2 := r
    rw [UInts.eq ok] at r2
    obtain ⟨pp, vs, rfl, hp, rl⟩ := r2
    obtain ⟨ev, _⟩ := rl.ints_ (fun d hd => by obtain ⟨i, _, rfl⟩ := List.mem_map.mp hd; trivial)
    rw [toI_ints] at ev
    subst ev
    exact ⟨pp, _, rfl, SqT.of hp, q _ H1 [] (Ex.refl _) ⟨rfl, rfl⟩ Cl.nil⟩) hs
def rGtD (K : PySem.W.Frag) : R2 := fun x y H Q => ∃ (d e : PyData), Dp K H x d ∧ Dp K H y e ∧ PySem.W.alike d e = true ∧ d ≠ .none ∧ d.depth ≤ 60 ∧ Q (.bl (PySem.W.dataLt e d)) H
theorem op_gtD (hu : X.A.units + 64 < cLine) : OpR X (compareOp .Gt) (rGtD X.K) := by
  intro pins s σ H x y v u Q I rx ry h
  obtain ⟨d, e, h1, h2, ha, hn, hd, k⟩ := h
  obtain ⟨as, r1⟩ := Dp.reads I d _ _ h1 rx
  obtain ⟨bs, r2⟩ := Dp.reads I e _ _ h2 ry
  refine PySem.W.gt_data r1 r2 ha hn ?_ (fin_bl I k rfl)
  have := Nat.min_le_left d.depth e.depth
  omega
def cGtD (x y : D) : TV := ⟨okD 8 x ∧ okD 8 y ∧ PySem.W.alike (toPy x) (toPy y) = true ∧ toPy x ≠ .none, PySem.W.dataLt (toPy y) (toPy x)⟩
theorem cmpd_gtD {K : PySem.W.Frag} : CmpD (rGtD K) cGtD := fun H x y v w fa fb Q rx ry ok q => by
  obtain ⟨o1, o2, o3, o4⟩ := ok
  have := (okD.lay 8 x o1).2
  exact ⟨toPy x, toPy y, Rp.dp 8 _ _ _ rx o1, Rp.dp 8 _ _ _ ry o2, o3, o4, by omega, q⟩
theorem dp_gtD {a b : Expr} {f g : PF} (hu : X.A.units + 64 < cLine) (ha : DP X c1 a f) (hb : DP X c2 b g) : DP X c (.Compare a [.Gt] [b] pos) (pc2 cGtD f g) :=
  dp_cmp (hf := cGtD) (op_gtD hu) ha hb (nomark _) fun H2 x y v w fa fb Q rx ry ok q => cmpd_gtD H2 x y v w fa fb Q rx ry ok q
theorem dt_gtD {a b : Expr} {f g : PF} (hu : X.A.units + 64 < cLine) (ha : DP X c1 a f) (hb : DP X c2 b g) : DT X (.Compare a [.Gt] [b] pos) (tc2 cGtD f g) :=
  dt_cmp (hf := cGtD) (op_gtD hu) ha hb (nomark _) fun H2 x y v w fa fb Q rx ry ok q => cmpd_gtD H2 x y v w fa fb Q rx ry ok q
theorem opd_catU {K : PySem.W.Frag} : OpD (rCatA K) catU := fun F H x y v w fa fb Q rx ry ka kb ok q => by
  obtain ⟨p, vs, rfl, hp, rl⟩ := rx.tup_ ok.1
  obtain ⟨p', vs', rfl, hp', rl'⟩ := ry.tup_ ok.2.1
  have kk : Cl.cln.ok F H (fa ++ fb) := fun z hz => Or.inl ((List.mem_append.mp hz).elim (ka z) (kb z))
  refine ⟨p, p', vs, vs', rfl, rfl, SqT.of hp, SqT.of hp', sz (by rw [← rl.length, ← rl'.length]; exact ok.2.2), fun ev => ?_, fun _ ew => ?_, fun _ _ l hl => ?_⟩
  · subst ev
    have z := rl.length
    have z2 : toL x = [] := List.eq_nil_of_length_eq_zero z
    have zz := rl; rw [z2] at zz
    have z3 : fa = [] := zz.2
    subst z3
    refine q _ H fb (Ex.refl _) ⟨p', vs', rfl, hp', ?_⟩ (by simpa using kk)
    show RpL H (toL x ++ toL y) vs' fb
    rw [z2]; exact rl'
  · subst ew
    have z2 : toL y = [] := List.eq_nil_of_length_eq_zero rl'.length
    have zz := rl'; rw [z2] at zz
    have z3 : fb = [] := zz.2
    subst z3
    refine q _ H fa (Ex.refl _) ⟨p, vs, rfl, hp, ?_⟩ (by simpa using kk)
    show RpL H (toL x ++ toL y) vs fa
    rw [z2, List.append_nil]; exact rl
  · exact q _ _ (fa ++ fb) (Ex.new hl) ⟨l, _, rfl, upd_same, (rl.append rl').ex (Ex.new hl)⟩ kk
theorem de_catU {a b : Expr} {w u : WE} (ha : DE X E a w) (hb : DE X E b u) : DE X E (.BinOp a .Add b pos) (w2 catU w u) := de_bin op_catA opd_catU ha hb
def sPar1 (i j : Nat) (f : PF) (w : WE) : WS := fun K δ N => (f δ N).ok ∧ IsC (f δ N).val ∧ ∀ a, N a = none → w δ (updN N a ⟨true, (f δ N).val⟩) (fun d N2 => i < δ.length ∧ j < δ.length ∧ K.nx ((δ.set i (some (.ref a))).set j (some d)) N2) K.ex
theorem ds_par1 {i j : Nat} {y z : Str} {a b : Expr} {f : PF} {w : WE} {px py pt : Pos} {kt k2 pt2} (hc : X.calm = true) (hN : X.N.Nodup) (hi : X.N[i]? = some y) (hj : X.N[j]? = some z)
    (hx : L2.Loc X.env.scope y) (hy : L2.Loc X.env.scope z) (ha : DP X .frs a f) (hb : DE X E b w)
    (hs : swapsWithSole [.Tuple [.Name y px, .Name z py] kt pt] (.Tuple [a, b] k2 pt2) pos.line X.env = pure false := by rfl) (hw : swappedStores [.Tuple [.Name y px, .Name z py] kt pt] (.Tuple [a, b] k2 pt2) X.env = pure none := by rfl)
    (h1 : (assignEach [.Tuple [.Name y px, .Name z py] kt pt] X.env).map (·.2) = [assign (.Tuple [.Name y px, .Name z py] kt pt) X.env] := by rfl)
    (hsa : starEach [a, b] X.env = (false, eval a X.env) :: starEach [b] X.env := by rfl) (hsb : starEach [b] X.env = (false, eval b X.env) :: starEach [] X.env := by rfl)
    (hga : (assignEach [.Name y px, .Name z py] X.env).map (·.2) = assign (.Name y px) X.env :: (assignEach [.Name z py] X.env).map (·.2) := by rfl) (hgb : (assignEach [.Name z py] X.env).map (·.2) = assign (.Name z py) X.env :: (assignEach [] X.env).map (·.2) := by rfl)
    (hn2 : (assignEach [.Name y px, .Name z py] X.env).length = 2 := by rfl) (hst : (assignEach [.Name y px, .Name z py] X.env).findIdx? (·.1) = none := by rfl)
    (hf1 : X.fn y = true ∨ X.env.scope.names.lookup y = some .local := by first | exact .inl rfl | exact .inr rfl | assumption) (hf2 : X.fn z = true ∨ X.env.scope.names.lookup z = some .local := by first | exact .inl rfl | exact .inr rfl | assumption) :
    DS X E rc (.Assign [.Tuple [.Name y px, .Name z py] kt pt] (.Tuple [a, b] k2 pt2) pos) (sPar1 i j f w) :=
  ps_imp (ps_asg (pe_tup (pa_cons ha (pa_cons hb pa_nil hsb) hsa)) (pg_tup hc (pgs_cons (pg_name hN hi hx hf1) (pgs_cons (pg_name hN hj hy hf2) pgs_nil hgb) hga) hn2 hst) hs hw h1) fun D σ H h => by
  obtain ⟨δ, N, F, P, K, o, ⟨ok, kc, q⟩, e⟩ := h
  refine ⟨δ, N, F, o.sr, o.nr, ok, fun v H1 fp e1 r1 k1 => ?_⟩
  obtain ⟨A, rfl, hA⟩ := r1.cell kc
  obtain ⟨hNA, o1, t1⟩ := o.alloc e1 r1 hA k1.1 k1.2
  refine ⟨δ, _, F, _, _, K.ex, o1, q A hNA, fun u H2 F2 P2 d N2 fq t2 o2 r2 k2 q2 => ?_, e.ex.tr t1⟩
  refine ⟨sz (show 2 ≤ SZ by decide), fun pt hp => ?_⟩
  obtain ⟨o3, t3⟩ := o2.ex (Ex.new (o := .tup [.ref A, u]) hp)
  refine ⟨pt, [.ref A, u], rfl, SqT.of upd_same, rfl, _, _, rfl, _, _, rfl, rfl, ?_⟩
  exact e.nx _ _ F2 P2 _ _ ((t1.trans t2).trans t3) ⟨o3.wf, (o3.sr.set (d := .ref A) (fp := []) ⟨rfl, rfl⟩ (by simp)).set (r2.ex (Ex.new hp)) k2⟩ q2.2.2
end
end DL
set_option maxHeartbeats 4000000
namespace DL
open PySem L2
def remN (N : Nm) (a : Addr) : Nm := fun b => if b = a then none else N b
theorem remN_same {N : Nm} {a : Addr} : remN N a a = none := by unfold remN; rw [if_pos rfl]
theorem remN_ne {N : Nm} {a b : Addr} (h : b ≠ a) : remN N a b = N b := by unfold remN; rw [if_neg h]
theorem Ok.freeze {δ : Loc} {N : Nm} {F P : Addr → Prop} {σ : St} {H : Hp} {a : Addr} {d : D} (o : Ok δ N F P σ H) (hN : N a = some ⟨true, d⟩) :
    ∃ F' P' fp, Ok δ (remN N a) F' P' σ H ∧ Tr F P H F' P' H ∧ Rp H d (.ref a) fp ∧ ∀ p ∈ fp, F' p := by
  obtain ⟨fpm, w⟩ := o.wf
  obtain ⟨r, ha⟩ := w.cell a _ hN
  obtain ⟨nd, own⟩ := w.own a _ hN rfl
  have rem : ∀ {b c}, remN N a b = some c → N b = some c ∧ b ≠ a := fun {b c} h => by
    by_cases z : b = a
    · subst z; rw [remN_same] at h; cases h
    · rw [remN_ne z] at h; exact ⟨h, z⟩
  refine ⟨fun p => F p ∨ p ∈ fpm a, fun p => P p ∧ p ∉ fpm a, fpm a, ⟨⟨fpm, fun b c h => w.cell b c (rem h).1, fun b c h hw => ⟨(w.own b c (rem h).1 hw).1, fun p hp => ⟨(w.own b c (rem h).1 hw).2 p hp, w.sep b a c _ (rem h).2 (rem h).1 hw hN p hp⟩⟩, fun b b' c e hne h hw h' => w.sep b b' c e hne (rem h).1 hw (rem h').1, fun p h => ?_, fun p h => w.pr p h.1⟩, ⟨o.sr.len, fun p h => ?_, fun i d q => ?_⟩⟩, ⟨fun p h => .inl h, fun p ob h _ => h, fun p ob h => ⟨ob, h⟩, fun p h => .inl h.1, fun p h => h.imp id fun z => .inl (own p z)⟩, r, fun p hp => .inr hp⟩
  · rcases h with h | h
    · exact ⟨fun z => (w.fr p h).1 z.1, (w.fr p h).2⟩
    · obtain ⟨ob, ho, _⟩ := Rp.there _ _ _ r p h
      exact ⟨fun z => z.2 h, ob, ho⟩
  · rcases h with h | h
    · exact (w.fr p h).2
    · obtain ⟨ob, ho, _⟩ := Rp.there _ _ _ r p h
      exact ⟨ob, ho⟩
  · obtain ⟨v, fp, h1, h2, h3⟩ := o.sr.at_ i d q
    exact ⟨v, fp, h1, h2, fun p hp => .inl (h3 p hp)⟩
section
variable {X : Cx} {E : XK} {pos p : Pos}
def sRetZ (i : Nat) : WS := fun K δ N => lk δ i = some (.ref (rA (lk δ i))) ∧ ∃ d, N (rA (lk δ i)) = some ⟨true, d⟩ ∧ K.rt d (remN N (rA (lk δ i)))
theorem ds_retZ {x : Str} (i : Nat) (hN : X.N[i]? = some x := by rfl) (hv : Vis X.env.scope x := by first | exact Or.inl rfl | exact Or.inr (Or.inl rfl) | exact Or.inr (Or.inr rfl)) (hd : (x == ("__debug__" : Str)) = false := by decide)
    (hcd : (x == ("__classdict__" : Str)) = false := by decide) : DS X E false (.Return (some (.Name x p)) pos) (sRetZ i) := ps_imp (ps_ret (pe_var hN hv hd hcd)) fun D σ H h => by
  obtain ⟨δ, N, F, P, K, o, ⟨o1, d, hNa, q⟩, e⟩ := h
  obtain ⟨v, fp, h1, h2, h3⟩ := o.sr.at_ i _ (lk_get o1)
  have ev : v = .ref (rA (lk δ i)) := h2.1
  subst ev
  obtain ⟨F', P', fp', o', t', r', k'⟩ := o.freeze hNa
  exact ⟨_, h1, e.rt _ H F' P' d _ fp' t' o'.wf r' (by unfold RtC; rw [if_neg Bool.false_ne_true]; exact k') q⟩
end
end DL
set_option maxHeartbeats 4000000
namespace DL
open PySem L2
section
variable {X : Cx} {E : XK} {pos p : Pos} {rc : Bool} {tg iter elt : Expr} {ifs : List Expr} {scope : Scope}
def sSetZ (i : Nat) (w : WE) : WS := fun K δ N => w δ N (fun d N1 => ∃ a t, d = .ref a ∧ N1 a = some ⟨true, t⟩ ∧ K.nx (δ.set i (some t)) (remN N1 a)) K.ex
theorem setZ_rd {i : Nat} {w : WE} {D : Ends} {σ : St} {H : Hp} (h : tDS E rc (sSetZ i w) D σ H) : tDE E w σ H fun v H' => gName i v σ H' D.nx := by
  obtain ⟨δ, N, F, P, K, o, q, e⟩ := h
  refine ⟨δ, N, F, P, _, K.ex, o, q, fun v H1 F1 P1 d N1 fp t1 o1 r1 k1 q1 => ?_, e.ex⟩
  obtain ⟨a, t, rfl, hN, q2⟩ := q1
  obtain ⟨F2, P2, fq, o2, t2, r2, k2⟩ := o1.freeze hN
  have ev : v = .ref a := r1.1
  subst ev
  exact e.nx _ H1 F2 P2 _ _ (t1.trans t2) ⟨o2.wf, o2.sr.set r2 k2⟩ q2
theorem ds_setLcZ_ {i : Nat} {y : Str} {py : Pos} {spos : Pos} {te : TE} (h : PS X (.Assign [.Name y py] (.ListComp elt [⟨tg, iter, ifs, 0⟩] scope pos) spos) (tAsg te (gName i)))
    {w : WE} (hk : ∀ σ H Q, tDE E w σ H Q → te σ H Q) : DS X E rc (.Assign [.Name y py] (.ListComp elt [⟨tg, iter, ifs, 0⟩] scope pos) spos) (sSetZ i w) := ps_imp h fun D σ H h => hk σ H _ (setZ_rd h)
theorem ds_setZ {i : Nat} {y : Str} {e : Expr} {w : WE} {pos' : Pos} (hN : X.N.Nodup) (hi : X.N[i]? = some y) (hx : L2.Loc X.env.scope y) (he : DE X E e w) (hs : swapsWith e (some (.Name y pos')) pos.line X.env = pure false := by rfl)
    (hf : X.fn y = true ∨ X.env.scope.names.lookup y = some .local := by first | exact .inl rfl | exact .inr rfl | assumption) : DS X E rc (.Assign [.Name y pos'] e pos) (sSetZ i w) := ps_imp (ps_set hN hi hx he hs hf) fun D σ H h => setZ_rd h
variable {a b : Expr} {w u : WE}
theorem de_min2 (hc : X.calm = true) (hg : Gl X "min") (hm : X.mg "min" = none) (ha : DE X E a w) (hb : DE X E b u) (hs : starEach [a, b] X.env = (false, eval a X.env) :: starEach [b] X.env := by rfl) (hs2 : starEach [b] X.env = (false, eval b X.env) :: starEach [] X.env := by rfl)
    (hpl : (backTo pos (starEach [b] X.env)).any (·.1) = false := by rfl) : DE X E (.Call (.Name "min" p) [a, b] [] pos) (w2 bMin2 w u) := by
  refine pe_imp (pe_callB (call_min2 hc) hg hm (by decide +kernel) (pa_cons ha (pa_cons hb pa_nil hs2) hs) (he := hs) (hpl := hpl)) fun σ H Q h => ?_
  obtain ⟨δ, N, F, P, Q', E', o, q', q, qe⟩ := h
  refine ⟨δ, N, F, P, _, E', o, q', fun v H1 F1 P1 d N1 fp t1 o1 r1 k1 q1 => ⟨δ, N1, F1, P1, _, E', o1, q1, fun v2 H2 F2 P2 d2 N2 fq t2 o2 r2 k2 q2 => ?_, qe.tr t1⟩, qe⟩
  obtain ⟨⟨o3, o4, _⟩, q3⟩ := q2
  have e := (o1.keep t2 r1 k1).int_ o3; have e' := r2.int_ o4
  subst e e'
  refine ⟨_, _, rfl, ?_⟩
  have z : (if toI d2 < toI d then toI d2 else toI d) = min (toI d) (toI d2) := by split <;> omega
  rw [z]
  exact q _ H2 F2 P2 (.int (min (toI d) (toI d2))) N2 [] (t1.trans t2) o2 ⟨rfl, rfl⟩ (by simp) q3
theorem de_max2 (hc : X.calm = true) (hg : Gl X "max") (hm : X.mg "max" = none) (ha : DE X E a w) (hb : DE X E b u) (hs : starEach [a, b] X.env = (false, eval a X.env) :: starEach [b] X.env := by rfl) (hs2 : starEach [b] X.env = (false, eval b X.env) :: starEach [] X.env := by rfl)
    (hpl : (backTo pos (starEach [b] X.env)).any (·.1) = false := by rfl) : DE X E (.Call (.Name "max" p) [a, b] [] pos) (w2 bMax2 w u) := by
  refine pe_imp (pe_callB (call_max2 hc) hg hm (by decide +kernel) (pa_cons ha (pa_cons hb pa_nil hs2) hs) (he := hs) (hpl := hpl)) fun σ H Q h => ?_
  obtain ⟨δ, N, F, P, Q', E', o, q', q, qe⟩ := h
  refine ⟨δ, N, F, P, _, E', o, q', fun v H1 F1 P1 d N1 fp t1 o1 r1 k1 q1 => ⟨δ, N1, F1, P1, _, E', o1, q1, fun v2 H2 F2 P2 d2 N2 fq t2 o2 r2 k2 q2 => ?_, qe.tr t1⟩, qe⟩
  obtain ⟨⟨o3, o4, _⟩, q3⟩ := q2
  have e := (o1.keep t2 r1 k1).int_ o3; have e' := r2.int_ o4
  subst e e'
  refine ⟨_, _, rfl, ?_⟩
  have z : (if toI d2 > toI d then toI d2 else toI d) = max (toI d) (toI d2) := by split <;> omega
  rw [z]
  exact q _ H2 F2 P2 (.int (max (toI d) (toI d2))) N2 [] (t1.trans t2) o2 ⟨rfl, rfl⟩ (by simp) q3
end
end DL
set_option maxHeartbeats 4000000
namespace DL
open PySem L2
section
variable {K : EndD} {δ δ' : Loc} {N : Nm} {i j n : Nat} {f g : PF} {t : TF} {u w : WS} {d : D} {b : Bool}
theorem st_set (d : D) (h : (f δ N).ok ∧ (f δ N).val = d) (e : δ.set i (some d) = δ') (k : w K δ' N) : sSeq (sSet i (wP f)) w K δ N := ⟨h.1, by subst e; rw [h.2]; exact k⟩
theorem st_set1 (d : D) (h : (f δ N).ok ∧ (f δ N).val = d) (e : δ.set i (some d) = δ') (k : K.nx δ' N) : sSet i (wP f) K δ N := ⟨h.1, by subst e; show K.nx (δ.set i (some (f δ N).val)) N; rw [h.2]; exact k⟩
theorem st_asg {G : GF} (d : D) (h : (f δ N).ok ∧ (f δ N).val = d) (hg : (G d δ).ok ∧ (G d δ).loc = δ') (k : w K δ' N) : sSeq (sAsg (wP f) G) w K δ N := ⟨h.1, by rw [h.2]; exact ⟨hg.1, by rw [hg.2]; exact k⟩⟩
theorem st_if (b : Bool) (h : (t δ N).ok ∧ (t δ N).b = b) {a c : WS} (k : if b = true then a { K with nx := w K } δ N else c { K with nx := w K } δ N) : sSeq (sIf (wT t) a c) w K δ N := ⟨h.1, by rw [h.2]; exact k⟩
theorem st_if1 (b : Bool) (h : (t δ N).ok ∧ (t δ N).b = b) {a c : WS} (k : if b = true then a K δ N else c K δ N) : sIf (wT t) a c K δ N := ⟨h.1, by rw [h.2]; exact k⟩
theorem st_ifF (h : (t δ N).ok ∧ (t δ N).b = false) {a : WS} (k : w K δ N) : sSeq (sIf (wT t) a sNext) w K δ N := st_if false h ((if_neg Bool.false_ne_true).mpr k)
theorem st_ifF1 (h : (t δ N).ok ∧ (t δ N).b = false) {a : WS} (k : K.nx δ N) : sIf (wT t) a sNext K δ N := st_if1 false h ((if_neg Bool.false_ne_true).mpr k)
theorem st_ifT1 (h : (t δ N).ok ∧ (t δ N).b = true) {a c : WS} (k : a K δ N) : sIf (wT t) a c K δ N := st_if1 true h ((if_pos rfl).mpr k)
theorem st_ifT (h : (t δ N).ok ∧ (t δ N).b = true) {a c : WS} (k : a { K with nx := w K } δ N) : sSeq (sIf (wT t) a c) w K δ N := st_if true h ((if_pos rfl).mpr k)
theorem st_ifE (h : (t δ N).ok ∧ (t δ N).b = false) {a c : WS} (k : c { K with nx := w K } δ N) : sSeq (sIf (wT t) a c) w K δ N := st_if false h ((if_neg Bool.false_ne_true).mpr k)
theorem st_ifE1 (h : (t δ N).ok ∧ (t δ N).b = false) {a c : WS} (k : c K δ N) : sIf (wT t) a c K δ N := st_if1 false h ((if_neg Bool.false_ne_true).mpr k)
theorem st_for {fi : AF} {G : GF} (items : List D) (h : (fi δ N).ok ∧ (fi δ N).vals = items) (k : loopD G u { K with nx := w K } items δ N) : sSeq (sFor (wA fi) G u) w K δ N := ⟨h.1, by rw [h.2]; exact k⟩
theorem st_for1 {fi : AF} {G : GF} (items : List D) (h : (fi δ N).ok ∧ (fi δ N).vals = items) (k : loopD G u K items δ N) : sFor (wA fi) G u K δ N := ⟨h.1, by rw [h.2]; exact k⟩
theorem st_setM (d : D) (h : (f δ N).ok ∧ (f δ N).val = d) (hc : IsC d) (k : ∀ a, N a = none → w K (δ.set i (some (.ref a))) (updN N a ⟨true, d⟩)) : sSeq (sSetM i f) w K δ N := ⟨h.1, by rw [h.2]; exact hc, fun a ha => by rw [h.2]; exact k a ha⟩
theorem st_app {pl : PLF} {a : Addr} {π : Pth} {t0 : D} {xs : List D} (d : D) (h : (f δ N).ok ∧ (f δ N).val = d) (hp : (pl δ N).ok ∧ (pl δ N).a = a ∧ (pl δ N).π = π) (hN : N a = some ⟨true, t0⟩) (hs : sub t0 π = some (.lst xs)) (hz : xs.length < SZ) (k : w K δ (updN N a ⟨true, put t0 π (.lst (xs ++ [d]))⟩)) : sSeq (sApp pl f) w K δ N := by
  obtain ⟨h1, rfl⟩ := h
  obtain ⟨p1, rfl, rfl⟩ := hp
  exact ⟨p1, h1, t0, xs, hN, hs, hz, k⟩
theorem st_app1 {pl : PLF} {a : Addr} {π : Pth} {t0 : D} {xs : List D} (d : D) (h : (f δ N).ok ∧ (f δ N).val = d) (hp : (pl δ N).ok ∧ (pl δ N).a = a ∧ (pl δ N).π = π) (hN : N a = some ⟨true, t0⟩) (hs : sub t0 π = some (.lst xs)) (hz : xs.length < SZ) (k : K.nx δ (updN N a ⟨true, put t0 π (.lst (xs ++ [d]))⟩)) : sApp pl f K δ N := by
  obtain ⟨h1, rfl⟩ := h
  obtain ⟨p1, rfl, rfl⟩ := hp
  exact ⟨p1, h1, t0, xs, hN, hs, hz, k⟩
theorem st_ret {w : WE} (h : w δ N (fun d N1 => K.rt d N1) K.ex) : sRet w K δ N := h
end
theorem gC_cons {G : GF} {Gs : GFs} {d : D} {dr : List D} {δ : Loc} : gC G Gs (d :: dr) δ = ⟨(G d δ).ok ∧ (Gs dr (G d δ).loc).ok, (Gs dr (G d δ).loc).loc⟩ := rfl
theorem and_rfl {p : Prop} {α : Type} {a : α} (h : p) : p ∧ a = a := ⟨h, rfl⟩
end DL
set_option maxHeartbeats 4000000
namespace DL
open PySem L2
section
variable {K : EndD} {δ δ' : Loc} {N : Nm} {i j n : Nat} {f g : PF} {t : TF} {u : WS} {w : WE} {d : D} {b : Bool}
theorem st_setE (P : D → Nm → Prop) (hw : ∀ Q : D → Nm → Prop, (∀ d N1, P d N1 → Q d N1) → w δ N Q K.ex) (k : ∀ d N1, P d N1 → u K (δ.set i (some d)) N1) : sSeq (sSet i w) u K δ N := hw _ k
theorem st_setZ (P : D → Nm → Prop) (hw : ∀ Q : D → Nm → Prop, (∀ a t N1, N1 a = some ⟨true, t⟩ → P t (remN N1 a) → Q (.ref a) N1) → w δ N Q K.ex) (k : ∀ t N1, P t N1 → u K (δ.set i (some t)) N1) : sSeq (sSetZ i w) u K δ N :=
  hw _ fun a t N1 h1 h2 => ⟨a, t, rfl, h1, k t _ h2⟩
theorem st_par1 (P : Addr → D → Nm → Prop) (d : D) (h : (f δ N).ok ∧ (f δ N).val = d) (hc : IsC d) (hw : ∀ a, N a = none → ∀ Q : D → Nm → Prop, (∀ d2 N2, P a d2 N2 → Q d2 N2) → w δ (updN N a ⟨true, d⟩) Q K.ex) (hl : i < δ.length ∧ j < δ.length)
    (k : ∀ a d2 N2, P a d2 N2 → u K ((δ.set i (some (.ref a))).set j (some d2)) N2) : sSeq (sPar1 i j f w) u K δ N := by
  obtain ⟨h1, rfl⟩ := h
  exact ⟨h1, hc, fun a ha => hw a ha _ fun d2 N2 hp => ⟨hl.1, hl.2, k a d2 N2 hp⟩⟩
theorem st_asgE {G : GF} (P : D → Nm → Prop) (hw : ∀ Q : D → Nm → Prop, (∀ d N1, P d N1 → Q d N1) → w δ N Q K.ex) (k : ∀ d N1, P d N1 → (G d δ).ok ∧ u K (G d δ).loc N1) : sSeq (sAsg w G) u K δ N := hw _ k
theorem st_setM1 (d : D) (h : (f δ N).ok ∧ (f δ N).val = d) (hc : IsC d) (k : ∀ a, N a = none → K.nx (δ.set i (some (.ref a))) (updN N a ⟨true, d⟩)) : sSetM i f K δ N := ⟨h.1, by rw [h.2]; exact hc, fun a ha => by rw [h.2]; exact k a ha⟩
end
end DL
set_option maxHeartbeats 4000000
namespace DL
open PySem L2
section
variable {X : Cx} {E : XK} {c c1 c2 c3 : Cl} {pos p : Pos} {rc : Bool}
def strD (d : D) : PV := ⟨IsI d ∧ (toI d).natAbs.log2 < 1920, .str (Str.ofString (toString (toI d)))⟩
theorem dp_strI {a : Expr} {f : PF} (hg : Gl X "str") (hm : X.mg "str" = none) (ha : DP X c1 a f) (hs : starEach [a] X.env = (false, eval a X.env) :: starEach [] X.env := by rfl) : DP X c (.Call (.Name "str" p) [a] [] pos) (p1 strD f) :=
  cb1 (hf := strD) (fun h => pe_callTy (T := "str") call_str_int hg hm (by decide +kernel) h (he := hs) (hpl := by rfl)) ha (fun F H H1 d v fp Q e1 r k ok q => by
    have e := r.int_ ok.1
    subst e
    exact ⟨_, rfl, ok.2, q _ H1 [] (Ex.refl _) ⟨rfl, rfl⟩ Cl.nil⟩) hs
def intSD (d : D) : PV := ⟨IsS d ∧ (PySem.intText? (toS d)).isSome = true ∧ (toS d).length ≤ 640, .int ((PySem.intText? (toS d)).getD 0)⟩
theorem dp_intS {a : Expr} {f : PF} (hg : Gl X "int") (hm : X.mg "int" = none) (ha : DP X c1 a f) (hs : starEach [a] X.env = (false, eval a X.env) :: starEach [] X.env := by rfl) : DP X c (.Call (.Name "int" p) [a] [] pos) (p1 intSD f) :=
  cb1 (hf := intSD) (fun h => pe_callTy (T := "int") call_int_str hg hm (by decide +kernel) h (he := hs) (hpl := by rfl)) ha (fun F H H1 d v fp Q e1 r k ok q => by
    obtain ⟨o1, o2, o3⟩ := ok
    have e := r.str_ o1
    subst e
    obtain ⟨n, hn⟩ := Option.isSome_iff_exists.mp o2
    exact ⟨_, n, rfl, hn, o3, q _ H1 [] (Ex.refl _) ⟨by rw [hn]; rfl, rfl⟩ Cl.nil⟩) hs
theorem RpL.strs_ {H : Hp} : ∀ {ds : List D} {vs : List V} {fp : List Addr}, RpL H ds vs fp → (∀ d ∈ ds, IsS d) → vs = (ds.map toS).map V.str ∧ fp = []
  | [], _, _, h, _ => h
  | d :: ds, vs, fp, h, k => by
    obtain ⟨v, vr, f, g, rfl, h1, h2, rfl⟩ := h
    have hd := k d (by simp)
    have e1 := h1.str_ hd
    rw [hd.eq] at h1
    obtain ⟨e3, e4⟩ := RpL.strs_ h2 fun e he => k e (by simp [he])
    subst e1 e3
    exact ⟨rfl, by rw [h1.2, e4]; rfl⟩
theorem RpL.of_strs {H : Hp} : ∀ (ns : List Str), RpL H (ns.map D.str) (ns.map V.str) []
  | [] => RpL.nil
  | n :: ns => ⟨_, _, [], [], rfl, ⟨rfl, rfl⟩, RpL.of_strs ns, rfl⟩
def joinD (x y : D) : PV := ⟨IsS x ∧ IsL y ∧ (∀ d ∈ toL y, IsS d) ∧ ((((toL y).map toS).map (·.length)).sum + ((toL y).map toS).length * (toS x).length ≤ SZ), .str (Txt.join (toS x) ((toL y).map toS))⟩
theorem dp_join {o e : Expr} {f g : PF} {apos : Pos} (ho : DP X c1 o f) (he : DP X c2 e g) (hs : starEach [e] X.env = [(false, eval e X.env)] := by rfl) (hbase : attributeBase o "join" X.env (eval o X.env) = eval o X.env := by rfl) (hline : (apos.endLine == pos.line) = true := by rfl) :
    DP X c (.Call (.Attribute o "join" apos) [e] [] pos) (p2 joinD f g) := by
  refine pe_imp (pe_join ho he hs hbase hline) fun σ H Q h => ?_
  obtain ⟨δ, N, F, hS, hn, ⟨o1, o2, o3, o4, o5, o6⟩, q⟩ := h
  refine ⟨δ, N, F, hS, hn, o1, fun v H1 fp e1 r1 k1 => ?_⟩
  have ev := r1.str_ o3
  subst ev
  refine ⟨⟨_, rfl⟩, δ, N, F, hS.ex e1, hn.ex e1, o2, fun w H2 fp2 e2 r2 k2 => ?_⟩
  obtain ⟨p, vs, f', rfl, hp, rl, rfl⟩ := r2.lst_ o4
  obtain ⟨rfl, _⟩ := rl.strs_ o5
  exact ⟨_, p, _, rfl, rfl, .inl (SqL.of hp), Nat.le_trans o6 (by decide), q _ H2 [] (e1.trans e2) ⟨rfl, rfl⟩ Cl.nil⟩
def splitD (x y : D) : PV := ⟨IsS x ∧ IsS y ∧ ((toS y).length == 0) = false ∧ (toS x).length + 2 ≤ SZ, .lst ((Txt.split (toS x) (toS y)).map D.str)⟩
theorem dp_split {o e : Expr} {f g : PF} {apos : Pos} (ho : DP X c1 o f) (he : DP X c2 e g) (hs : starEach [e] X.env = [(false, eval e X.env)] := by rfl) (hbase : attributeBase o "split" X.env (eval o X.env) = eval o X.env := by rfl) (hline : (apos.endLine == pos.line) = true := by rfl) :
    DP X c (.Call (.Attribute o "split" apos) [e] [] pos) (p2 splitD f g) := by
  refine pe_imp (pe_split ho he hs hbase hline) fun σ H Q h => ?_
  obtain ⟨δ, N, F, hS, hn, ⟨o1, o2, o3, o4, o5, o6⟩, q⟩ := h
  refine ⟨δ, N, F, hS, hn, o1, fun v H1 fp e1 r1 k1 => ?_⟩
  have ev := r1.str_ o3
  subst ev
  refine ⟨⟨_, rfl⟩, δ, N, F, hS.ex e1, hn.ex e1, o2, fun w H2 fp2 e2 r2 k2 => ?_⟩
  have ew := r2.str_ o4
  subst ew
  refine ⟨_, _, rfl, rfl, o5, Nat.le_trans o6 (sz (Nat.le_refl _)), fun p hp => ?_⟩
  exact q _ _ [p] ((e1.trans e2).trans (Ex.new hp)) ⟨p, _, [], rfl, upd_same, RpL.of_strs _, rfl⟩ (Cl.cons (e1.trans e2) Cl.nil (by simp) hp)
def ixS (x y : D) : PV := ⟨IsS x ∧ IsI y ∧ (toS x).length ≤ SZ ∧ (atI (toS x).cps.toList (toI y)).isSome = true, .str ⟨#[(atI (toS x).cps.toList (toI y)).getD 0]⟩⟩
theorem dp_ixS {a b : Expr} {f g : PF} (ha : DP X c1 a f) (hb : DP X c2 b g) (hs : PlainIx b := by exact fun _ _ => rfl) : DP X c (.Subscript a b pos) (p2 ixS f g) := by
  refine pe_imp (pe_ix ix_str ha hb hs) fun σ H Q h => ?_
  obtain ⟨δ, N, F, hS, hn, ⟨o1, o2, o3, o4, o5, o6⟩, q⟩ := h
  refine ⟨δ, N, F, hS, hn, o1, fun v H1 fp e1 r1 k1 => ⟨δ, N, F, hS.ex e1, hn.ex e1, o2, fun w H2 fp2 e2 r2 k2 => ?_⟩⟩
  have ev := r1.str_ o3
  have ew := r2.int_ o4
  subst ev ew
  obtain ⟨cc, hc⟩ := Option.isSome_iff_exists.mp o6
  exact ⟨_, _, cc, rfl, rfl, Nat.le_trans o5 (sz (Nat.le_refl _)), hc, q _ H2 [] (e1.trans e2) ⟨by rw [hc]; rfl, rfl⟩ Cl.nil⟩
def sgn (x : D) : Nat := ((toS x).cps.toList.head?).getD 0
def sinT (neg : Bool) (x y : D) : TV := ⟨x = .str ⟨#[sgn x]⟩ ∧ IsS y, if neg = true then !decide (sgn x ∈ (toS y).cps.toList) else decide (sgn x ∈ (toS y).cps.toList)⟩
theorem dt_notInS {a b : Expr} {f g : PF} (ha : DP X c1 a f) (hb : DP X c2 b g) (hm : behindInMarks .NotIn b = false := by rfl) : DT X (.Compare a [.NotIn] [b] pos) (tc2 (sinT true) f g) :=
  dt_cmp (hf := sinT true) op_notIn_sign ha hb hm fun H2 x y v w fa fb Q rx ry ok q => by
    obtain ⟨o1, o2⟩ := ok
    have e := ry.str_ o2
    subst e
    refine ⟨sgn x, _, ?_, rfl, q⟩
    rw [o1] at rx
    exact rx.1
theorem dt_inS {a b : Expr} {f g : PF} (ha : DP X c1 a f) (hb : DP X c2 b g) (hm : behindInMarks .In b = false := by rfl) : DT X (.Compare a [.In] [b] pos) (tc2 (sinT false) f g) :=
  dt_cmp (hf := sinT false) op_in_sign ha hb hm fun H2 x y v w fa fb Q rx ry ok q => by
    obtain ⟨o1, o2⟩ := ok
    have e := ry.str_ o2
    subst e
    refine ⟨sgn x, _, ?_, rfl, q⟩
    rw [o1] at rx
    exact rx.1
def signs (s : Str) : List D := s.cps.toList.map fun n => .str ⟨#[n]⟩
def iS (f : PF) : AF := fun δ N => ⟨(f δ N).ok ∧ IsS (f δ N).val, signs (toS (f δ N).val)⟩
theorem di_str {tg e : Expr} {f : PF} (h : DP X c1 e f) : DI X c tg e (iS f) := by
  refine pi_imp (pi_str h) fun σ H R h => ?_
  obtain ⟨δ, N, F, hs, hn, ok, q⟩ := h
  refine ⟨δ, N, F, hs, hn, ok.1, fun v H1 fp e1 r1 k1 => ⟨_, r1.str_ ok.2, ?_⟩⟩
  refine q _ H1 [] e1 (by simp) Cl.nil fun i H2 kp => ⟨fun d hd => ?_, fun hl => ?_⟩
  · show i < _ ∧ _
    unfold iS signs at hd
    rw [List.getElem?_map] at hd
    obtain ⟨n, hn, rfl⟩ := Option.map_eq_some_iff.mp hd
    have hn : (toS (f δ N).val).cps[i]? = some n := by simpa using hn
    refine ⟨(Array.getElem?_eq_some_iff.mp hn).1, fun x H' y => ?_⟩
    obtain ⟨rfl, cc, hc, rfl⟩ := y
    rw [hn] at hc; cases hc
    exact ⟨Ex.refl _, [], ⟨rfl, rfl⟩, fun p hp => hp⟩
  · show _ ≤ i
    have : (signs (toS (f δ N).val)).length ≤ i := hl
    simpa [signs] using this
def enu : Nat → List D → List D
  | _, [] => []
  | n, d :: ds => .tup [.int (n : Int), d] :: enu (n + 1) ds
theorem enu_get : ∀ {ds : List D} {n i : Nat}, (enu n ds)[i]? = ds[i]?.map fun d => D.tup [.int ((n + i : Nat) : Int), d]
  | [], n, i => by simp [enu]
  | d :: ds, n, 0 => by simp [enu]
  | d :: ds, n, i + 1 => by
    rw [enu, List.getElem?_cons_succ, List.getElem?_cons_succ, enu_get]
    have : n + 1 + i = n + (i + 1) := by omega
    rw [this]
theorem enu_length : ∀ {ds : List D} {n : Nat}, (enu n ds).length = ds.length
  | [], _ => rfl
  | d :: ds, n => by rw [enu, List.length_cons, List.length_cons, enu_length]
def iE (f : PF) : AF := fun δ N => ⟨(f δ N).ok ∧ IsL (f δ N).val, enu 0 (toL (f δ N).val)⟩
theorem di_enum {e : Expr} {f : PF} {elts : List Expr} {kk : Nat} {tpos : Pos} (hg : Gl X "enumerate") (hm : X.mg "enumerate" = none) (h : DP X c e f) (hs : starEach [e] X.env = (false, eval e X.env) :: starEach [] X.env := by rfl) (hs' : starEach [e] X.env = [(false, eval e X.env)] := by rfl) :
    DI X c (.Tuple elts kk tpos) (.Call (.Name "enumerate" p) [e] [] pos) (iE f) := by
  refine pi_imp (pi_enum hg hm (pa_cons h pa_nil hs) hs') fun σ H R h => ?_
  obtain ⟨δ, N, F, hS, hn, ok, q⟩ := h
  refine ⟨δ, N, F, hS, hn, ok.1, fun v H1 fp e1 r1 k1 => ?_⟩
  have tr := Rp.there _ _ _ r1
  obtain ⟨p, vs, f', rfl, hp, rl, rfl⟩ := r1.lst_ ok.2
  refine ⟨p, vs, rfl, SqL.of hp, q _ H1 (p :: f') e1 tr k1 fun i H2 kp => ⟨fun d hd => ?_, fun hl => ?_⟩⟩
  · have rl2 := rl.kp kp fun z hz => by simp [hz]
    have hp2 : H2 p = some (.lst vs) := by rw [kp.cell p (by simp)]; exact hp
    unfold iE at hd
    rw [enu_get] at hd
    obtain ⟨d0, hd0, rfl⟩ := Option.map_eq_some_iff.mp hd
    obtain ⟨u, fu, h1, h2, h3, h4⟩ := rl2.get hd0
    refine ⟨⟨vs, u, SqL.of hp2, h1⟩, fun x H' y => ?_⟩
    obtain ⟨T, x', rfl, hT, rfl, y⟩ := y
    have := y vs (SqL.of hp2)
    rw [h1] at this; cases this
    refine ⟨Ex.new hT, fu, ⟨T, _, rfl, upd_same, ?_⟩, fun z hz => by simp [h3 z hz]⟩
    exact ⟨_, _, [], fu, rfl, ⟨by rw [Nat.zero_add], rfl⟩, RpL.one (h2.ex (Ex.new hT)), rfl⟩
  · have hp2 : H2 p = some (.lst vs) := by rw [kp.cell p (by simp)]; exact hp
    unfold iE at hl
    rw [enu_length] at hl
    exact ⟨vs, SqL.of hp2, get_none rl hl⟩
def sAppC (f g : PF) : WS := fun K δ N => (f δ N).ok ∧ (g δ N).ok ∧ IsL (f δ N).val ∧ (toL (f δ N).val).length < SZ ∧ K.nx δ N
theorem ds_appC {e a : Expr} {f g : PF} {apos ppos : Pos} (hs : swapsWith (.Call (.Attribute e "append" apos) [a] [] ppos) none pos.line X.env = pure false := by rfl)
    (hbm : PE X (.Call (.Attribute e "append" apos) [a] [] ppos) (tBM X.K "list" rAppend (tP .frs f) (tCons (tP .frs g) tNil))) : DS X E rc (.Expr (.Call (.Attribute e "append" apos) [a] [] ppos) pos) (sAppC f g) := ps_imp (ps_expr hbm hs) fun D σ H h => by
  obtain ⟨δ, N, F, P, K, o, ⟨o1, o2, o3, hz, q⟩, e⟩ := h
  refine ⟨δ, N, F, o.sr, o.nr, o1, fun u H1 fp e1 r1 k1 => ?_⟩
  obtain ⟨p, vs, f0, rfl, hp, rl, rfl⟩ := r1.lst_ o3
  refine ⟨.inl ⟨rfl, _, SqL.of hp⟩, δ, N, F, o.sr.ex e1, o.nr.ex e1, o2, fun v H2 fq e2 r2 k2 => ?_⟩
  refine ⟨p, vs, v, rfl, rfl, e2 _ _ hp, Nat.lt_of_lt_of_le (by rw [← rl.length]; exact hz) (sz (Nat.le_refl _)), ?_⟩
  have hnew : H p = none := k1.2 p (by simp)
  have ex : Ex H (upd H2 p (.lst (vs ++ [v]))) := fun a ob h => by
    have : a ≠ p := fun z => by rw [z, hnew] at h; cases h
    rw [upd_ne this]; exact e2 _ _ (e1 _ _ h)
  obtain ⟨o', t'⟩ := o.ex ex
  exact e.nx σ _ F P δ N t' o' q
end
end DL
set_option maxHeartbeats 4000000
namespace DL
open PySem L2
structure HasM (P : Program) (w : World) (K : PySem.W.Frag) (mg : Str → Option Value) (base : Heap) (C : Addr) (m : Str) (k : Nat) (ps : List Str) (sp : Sp) : Prop where
  ex : ∃ f fd, FnOk P w K mg base (L2.CX P w) k f fd ps sp ∧ Meth K C m f ∧ Binds K fd ps []
abbrev HasMX (X : Cx) (C : Addr) (m : Str) (k : Nat) (ps : List Str) (sp : Sp) : Prop := HasM X.prog X.w X.K X.mg X.base C m k ps sp
def IsOb (C : Addr) (m : Str) : D → Prop
  | .obj C' _ ns _ => C' = C ∧ m ∉ ns
  | _ => False
theorem lookup_not : ∀ {ns : List Str} {vs : List V} {f : Str}, f ∉ ns → (ns.zip vs).lookup f = none
  | [], _, _, _ => rfl
  | m :: ns, [], f, _ => rfl
  | m :: ns, y :: vs, f, h => by
    rw [List.mem_cons, not_or] at h
    have : (f == m) = false := by simpa using h.1
    simp only [List.zip_cons_cons, List.lookup, this]
    exact lookup_not h.2
theorem Rp.ob {H : Hp} {C : Addr} {m : Str} {d : D} {v : V} {fp : List Addr} (r : Rp H d v fp) (h : IsOb C m d) : ∃ a dx fs, v = .ref a ∧ H a = some (.ins C dx fs) ∧ fs.lookup m = none := by
  cases d <;> first | exact h.elim | skip
  obtain ⟨p, vs, f, rfl, hp, rl, hl, rfl⟩ := r
  obtain ⟨rfl, hm⟩ := h
  exact ⟨p, _, _, rfl, hp, lookup_not hm⟩
def fldD (C : Addr) (f : Str) : D → PV
  | .obj C' _ ns xs => ⟨C' = C ∧ ((idxOf_ f ns).bind fun n => xs[n]?).isSome = true, ((idxOf_ f ns).bind fun n => xs[n]?).getD .non⟩
  | _ => ⟨False, .non⟩
section
variable {X : Cx} {E : XK} {c c1 c2 c3 : Cl} {pos p pos' : Pos} {rc : Bool} {C : Addr}
theorem dp_fld {e : Expr} {f : PF} {x : Str} (hC : Cls X.K C) (hn : NoAttr X.K C x) (h : DP X c e f) (hb : attributeBase e x X.env (eval e X.env) = eval e X.env := by rfl) : DP X c (.Attribute e x pos) (p1 (fldD C x) f) := by
  refine pe_imp (pe_fld h hb) fun σ H Q h => ?_
  obtain ⟨δ, N, F, hs, hN, ⟨o1, o2⟩, q⟩ := h
  refine ⟨δ, N, F, hs, hN, o1, fun v H1 fp e1 r1 k1 => ?_⟩
  simp only [p1] at q o2
  generalize (f δ N).val = d at r1 o2 q
  cases d <;> first | exact o2.elim | skip
  obtain ⟨p, vs, f', rfl, hp, rl, hl, rfl⟩ := r1
  obtain ⟨rfl, hi⟩ := o2
  simp only [fldD] at hi q
  rename_i C' dx ns xs
  cases e2 : idxOf_ x ns with
  | none => rw [e2] at hi; simp at hi
  | some n =>
    rw [e2] at hi q
    cases e3 : xs[n]? with
    | none => simp [e3] at hi
    | some d =>
      obtain ⟨u, fu, g1, g2, g3, g4⟩ := rl.get e3
      refine ⟨p, _, dx, _, u, rfl, hp, hC, hn, lookup_zip e2 g1, q u H1 fu e1 (by simpa [e3] using g2) ?_⟩
      exact Cl.sub k1 (fun z hz => by simp [g3 z hz]) fun nd => g4 (List.nodup_cons.mp nd).2
def pMeth (C : Addr) (m : Str) (n : Nat) (φ : List D → Nm → PV) (fo : PF) (fa : AF) : PF := fun δ N =>
  ⟨(fo δ N).ok ∧ IsOb C m (fo δ N).val ∧ (fa δ N).ok ∧ (fa δ N).vals.length + 1 = n ∧ (φ ((fo δ N).val :: (fa δ N).vals) N).ok, (φ ((fo δ N).val :: (fa δ N).vals) N).val⟩
theorem dp_meth {o e : Expr} {es : List Expr} {m : Str} {apos : Pos} {pl : Sem Bool} {fo : PF} {fa : AF} {k n : Nat} {ps : List Str} {φ : List D → Nm → PV} (hC : Cls X.K C) (h : HasMX X C m k ps (spP n φ)) (hr : Room k X.A) (ho : DP X c1 o fo) (ha : DA X .any (e :: es) fa)
    (hst : starEach (e :: es) X.env = (false, eval e X.env) :: starEach es X.env := by rfl) (hpl : (backTo pos (starEach es X.env)).any (·.1) = false := by rfl)
    (ht : eval (.Call (.Attribute o m apos) (e :: es) [] pos) X.env = (do
      let ov ← eval o X.env
      standAt apos.atName
      let (f, first) ← holding [ov] (getMethod ov m pl)
      callWith pos f first (backTo pos (starEach (e :: es) X.env)) (backToKw pos (keywordEach [] X.env))) := by rfl) : DP X c (.Call (.Attribute o m apos) (e :: es) [] pos) (pMeth C m n φ fo fa) := by
  obtain ⟨f', fd, Fn, hm, hb⟩ := h.ex
  refine pe_imp (pe_meth ho hC hm Fn hr hb .nil passL ha hst hpl ht) fun σ H Q h => ?_
  obtain ⟨δ, N, F, hs, hn, ⟨o1, o2, o3, o4, o5⟩, q⟩ := h
  refine ⟨δ, N, F, hs, hn, o1, fun v H1 fp e1 r1 k1 => ?_⟩
  obtain ⟨a, dx, fs, rfl, h1, h2⟩ := r1.ob o2
  refine ⟨a, dx, fs, rfl, h1, h2, δ, N, F, hs.ex e1, hn.ex e1, o3, fun vs H2 fq e2 r2 k2 => ?_⟩
  show spP n φ (.ref a :: (vs ++ [])) H2 Q E0
  rw [List.append_nil]
  exact ⟨_, N, fp ++ fq, RpL.cons (r1.ex e2) r2, hn.ex (e1.trans e2), by simpa using o4, o5, fun v H' fr e3 r3 k3 => q v H' fr ((e1.trans e2).trans e3) r3 (Cl.frs_ ⟨k3.1, fun p hp => (e1.trans e2).free (k3.2 p hp)⟩)⟩
theorem dp_meth0 {o : Expr} {m : Str} {apos : Pos} {pl : Sem Bool} {fo : PF} {k : Nat} {ps : List Str} {φ : List D → Nm → PV} (hC : Cls X.K C) (h : HasMX X C m k ps (spP 1 φ)) (hr : Room k X.A) (ho : DP X c1 o fo)
    (ht : eval (.Call (.Attribute o m apos) [] [] pos) X.env = (do
      let ov ← eval o X.env
      standAt apos.atName
      let (f, first) ← holding [ov] (getMethod ov m pl)
      callWith pos f first (backTo pos (starEach [] X.env)) (backToKw pos (keywordEach [] X.env))) := by rfl) : DP X c (.Call (.Attribute o m apos) [] [] pos) (pMeth C m 1 φ fo aNil) := by
  obtain ⟨f', fd, Fn, hm, hb⟩ := h.ex
  refine pe_imp (pe_meth0 ho hC hm Fn hr hb .nil passL ht) fun σ H Q h => ?_
  obtain ⟨δ, N, F, hs, hn, ⟨o1, o2, o3, o4, o5⟩, q⟩ := h
  refine ⟨δ, N, F, hs, hn, o1, fun v H1 fp e1 r1 k1 => ?_⟩
  obtain ⟨a, dx, fs, rfl, h1, h2⟩ := r1.ob o2
  refine ⟨a, dx, fs, rfl, h1, h2, ?_⟩
  show spP 1 φ [.ref a] H1 Q E0
  exact ⟨_, N, fp ++ [], RpL.cons r1 RpL.nil, hn.ex e1, rfl, o5, fun v H' fr e3 r3 k3 => q v H' fr (e1.trans e3) r3 (Cl.frs_ ⟨k3.1, fun p hp => e1.free (k3.2 p hp)⟩)⟩
def wMeth (C : Addr) (m : Str) (n : Nat) (sp : SpD) (w : WE) (u : WA) : WE := fun δ N Q E => w δ N (fun d N1 => (∃ a cc, d = .ref a ∧ N1 a = some cc ∧ IsOb C m cc.d) ∧ u δ N1 (fun ds N2 => ds.length + 1 = n ∧ sp (d :: ds) N2 Q E) E) E
theorem de_meth {o e : Expr} {es : List Expr} {m : Str} {apos : Pos} {pl : Sem Bool} {w : WE} {u : WA} {k n : Nat} {ps : List Str} {sp : SpD} (hC : Cls X.K C) (h : HasMX X C m k ps (spM n sp)) (hr : Room k X.A) (hx : Passes (L2.CX X.prog X.w) X E) (ho : DE X E o w) (ha : DAE X E (e :: es) u)
    (hst : starEach (e :: es) X.env = (false, eval e X.env) :: starEach es X.env := by rfl) (hpl : (backTo pos (starEach es X.env)).any (·.1) = false := by rfl)
    (ht : eval (.Call (.Attribute o m apos) (e :: es) [] pos) X.env = (do
      let ov ← eval o X.env
      standAt apos.atName
      let (f, first) ← holding [ov] (getMethod ov m pl)
      callWith pos f first (backTo pos (starEach (e :: es) X.env)) (backToKw pos (keywordEach [] X.env))) := by rfl) : DE X E (.Call (.Attribute o m apos) (e :: es) [] pos) (wMeth C m n sp w u) := by
  obtain ⟨f', fd, Fn, hm, hb⟩ := h.ex
  refine pe_imp (pe_meth ho hC hm Fn hr hb .nil hx ha hst hpl ht) fun σ H Q h => ?_
  obtain ⟨δ, N, F, P, Q', E', o, q', q, qe⟩ := h
  refine ⟨δ, N, F, P, _, E', o, q', fun v H1 F1 P1 d N1 fp t1 o1 r1 k1 q1 => ?_, qe⟩
  obtain ⟨⟨a, cc, rfl, hN1, hob⟩, q2⟩ := q1
  have ev : v = .ref a := r1.1
  subst ev
  obtain ⟨fp0, r0, _⟩ := o1.nr _ _ hN1
  obtain ⟨a', dx, fs, ea, h1, h2⟩ := r0.ob hob
  cases ea
  refine ⟨a, dx, fs, rfl, h1, h2, δ, N1, F1, P1, _, E', o1, q2, fun vs H2 F2 P2 ds N2 fq t2 o2 r2 k2 q3 => ?_, qe.tr t1⟩
  show spM n sp (.ref a :: (vs ++ [])) H2 Q E
  rw [List.append_nil]
  refine ⟨.ref a :: ds, N2, F2, P2, Q', E', [] ++ fq, by simpa using q3.1, o2.wf, RpL.cons ⟨rfl, rfl⟩ r2, by simpa using k2, q3.2, fun v H3 F3 P3 d N3 fr t3 w3 r3 k3 q4 => ?_, (qe.tr t1).tr t2⟩
  exact q v H3 F3 P3 d N3 fr ((t1.trans t2).trans t3) (o2.after t3 w3) r3 k3 q4
theorem de_meth0 {o : Expr} {m : Str} {apos : Pos} {pl : Sem Bool} {w : WE} {k : Nat} {ps : List Str} {sp : SpD} (hC : Cls X.K C) (h : HasMX X C m k ps (spM 1 sp)) (hr : Room k X.A) (hx : Passes (L2.CX X.prog X.w) X E) (ho : DE X E o w)
    (ht : eval (.Call (.Attribute o m apos) [] [] pos) X.env = (do
      let ov ← eval o X.env
      standAt apos.atName
      let (f, first) ← holding [ov] (getMethod ov m pl)
      callWith pos f first (backTo pos (starEach [] X.env)) (backToKw pos (keywordEach [] X.env))) := by rfl) : DE X E (.Call (.Attribute o m apos) [] [] pos) (wMeth C m 1 sp w wANil) := by
  obtain ⟨f', fd, Fn, hm, hb⟩ := h.ex
  refine pe_imp (pe_meth0 ho hC hm Fn hr hb .nil hx ht) fun σ H Q h => ?_
  obtain ⟨δ, N, F, P, Q', E', o, q', q, qe⟩ := h
  refine ⟨δ, N, F, P, _, E', o, q', fun v H1 F1 P1 d N1 fp t1 o1 r1 k1 q1 => ?_, qe⟩
  obtain ⟨⟨a, cc, rfl, hN1, hob⟩, q2⟩ := q1
  have ev : v = .ref a := r1.1
  subst ev
  obtain ⟨fp0, r0, _⟩ := o1.nr _ _ hN1
  obtain ⟨a', dx, fs, ea, h1, h2⟩ := r0.ob hob
  cases ea
  refine ⟨a, dx, fs, rfl, h1, h2, ?_⟩
  show spM 1 sp [.ref a] H1 Q E
  refine ⟨[.ref a], N1, F1, P1, Q', E', [] ++ [], rfl, o1.wf, RpL.cons ⟨rfl, rfl⟩ RpL.nil, by simp, q2.2, fun v H3 F3 P3 d N3 fr t3 w3 r3 k3 q4 => ?_, qe.tr t1⟩
  exact q v H3 F3 P3 d N3 fr (t1.trans t3) (o1.after t3 w3) r3 k3 q4
structure HasC (P : Program) (w : World) (K : PySem.W.Frag) (mg : Str → Option Value) (base : Heap) (C : Addr) (x : Str) (k : Nat) (ps : List Str) (sp : Sp) : Prop where
  ex : ∃ f fd, FnOk P w K mg base (L2.CX P w) k f fd ps sp ∧ Mk K C f ∧ mg x = some (.ref C) ∧ Binds K fd ps []
abbrev HasCX (X : Cx) (C : Addr) (x : Str) (k : Nat) (ps : List Str) (sp : Sp) : Prop := HasC X.prog X.w X.K X.mg X.base C x k ps sp
def wMake (C : Addr) (n : Nat) (sp : SpD) (u : WA) : WE := fun δ N Q E => u δ N (fun ds N1 => ds.length + 1 = n ∧ ∀ a dx, N1 a = none → sp (.ref a :: ds) (updN N1 a ⟨true, .obj C dx [] []⟩) (fun d N2 => d = .non ∧ Q (.ref a) N2) E) E
theorem de_make {e : Expr} {es : List Expr} {x : Str} {u : WA} {k n : Nat} {ps : List Str} {sp : SpD} (h : HasCX X C x k ps (spM n sp)) (hr : Room (k + 1) X.A) (hg : Gl X x) (hx : Passes (L2.CX X.prog X.w) X E) (ha : DAE X E (e :: es) u) (hdb : (x == ("__debug__" : Str)) = false := by decide)
    (he : starEach (e :: es) X.env = (false, eval e X.env) :: starEach es X.env := by rfl) (hpl : (backTo pos (starEach es X.env)).any (·.1) = false := by rfl) : DE X E (.Call (.Name x p) (e :: es) [] pos) (wMake C n sp u) := by
  obtain ⟨f', fd, Fn, M, hm, hb⟩ := h.ex
  refine pe_imp (pe_make M Fn hr hg hm hb .nil hx ha hdb he hpl) fun σ H Q h => ?_
  obtain ⟨δ, N, F, P, Q', E', o, q', q, qe⟩ := h
  refine ⟨δ, N, F, P, _, E', o, q', fun vs H1 F1 P1 ds N1 fp t1 o1 r1 k1 q1 => ?_, qe⟩
  intro a dx ha hdx hne
  have ex : Ex H1 (upd (upd H1 dx (.own a)) a (.ins C dx [])) := (Ex.new hdx).trans (Ex.new (by rw [upd_ne (fun z => hne z.symm)]; exact ha))
  obtain ⟨hNa, o2, t2⟩ := o1.alloc ex (d := .obj C dx [] []) (a := a) (fp := [a]) ⟨a, [], [], rfl, upd_same, RpL.nil, rfl, rfl⟩ (by simp) (by simp) (by simpa using ha)
  show spM n sp (.ref a :: (vs ++ [])) _ _ E
  rw [List.append_nil]
  refine ⟨.ref a :: ds, _, F1, _, _, E', [] ++ fp, by simpa using q1.1, o2.wf, RpL.cons ⟨rfl, rfl⟩ (r1.ex ex), by simpa using k1, q1.2 a dx hNa, fun v H3 F3 P3 d N3 fr t3 w3 r3 k3 q4 => ?_, (qe.tr t1).tr t2⟩
  obtain ⟨rfl, q5⟩ := q4
  exact ⟨r3.1, q _ H3 F3 P3 (.ref a) N3 [] ((t1.trans t2).trans t3) (o2.after t3 w3) ⟨rfl, rfl⟩ (by simp) q5⟩
def putX {α β : Type} [DecidableEq β] (f : β) (d : α) (ns : List β) (xs : List α) : List α := match idxOf_ f ns with
  | some n => xs.set n d
  | none => xs ++ [d]
def putNs {β : Type} [DecidableEq β] (f : β) (ns : List β) : List β := match idxOf_ f ns with
  | some _ => ns
  | none => ns ++ [f]
theorem idx_lt {β : Type} [DecidableEq β] {f : β} : ∀ {ns : List β} {n : Nat}, idxOf_ f ns = some n → n < ns.length
  | [], n, h => by simp [idxOf_] at h
  | m :: ns, n, h => by
    simp only [idxOf_] at h
    split at h
    · cases h; simp
    · cases e : idxOf_ f ns with
      | none => rw [e] at h; cases h
      | some k => rw [e] at h; cases h; have := idx_lt e; simp; omega
theorem putF_zip {f : Str} {y : V} : ∀ {ns : List Str} {vs : List V}, ns.length = vs.length → putF f y (ns.zip vs) = (putNs f ns).zip (putX f y ns vs)
  | [], [], _ => rfl
  | m :: ns, v :: vs, h => by
    have ih := putF_zip (f := f) (y := y) (ns := ns) (vs := vs) (by simpa using h)
    simp only [List.zip_cons_cons, putF]
    by_cases e : m = f
    · subst e
      rw [if_pos rfl]
      simp [putNs, putX, idxOf_]
    · rw [if_neg e, ih]
      unfold putNs putX
      simp only [idxOf_, if_neg e]
      cases idxOf_ f ns <;> simp
  | [], _ :: _, h => by simp at h
  | _ :: _, [], h => by simp at h
theorem putX_len {α β : Type} [DecidableEq β] {f : β} {d : α} {ns : List β} {xs : List α} (h : ns.length = xs.length) : (putNs f ns).length = (putX f d ns xs).length := by
  unfold putNs putX
  cases idxOf_ f ns <;> simp [h]
theorem RpL.put {H : Hp} {d : D} {v : V} {g : List Addr} (r : Rp H d v g) (gd : g.Nodup) : ∀ {n : Nat} {xs : List D} {vs : List V} {f : List Addr}, n < xs.length → RpL H xs vs f → f.Nodup → (∀ q ∈ f, q ∉ g) → ∃ f', RpL H (xs.set n d) (vs.set n v) f' ∧ f'.Nodup ∧ ∀ q ∈ f', q ∈ f ∨ q ∈ g
  | _, [], _, _, h, _, _, _ => by simp at h
  | 0, x :: xs, vs, f, _, h, nd, dj => by
    obtain ⟨u, vr, f1, f2, rfl, h1, h2, rfl⟩ := h
    obtain ⟨n1, n2, n3⟩ := List.nodup_append.mp nd
    refine ⟨g ++ f2, ⟨v, vr, g, f2, rfl, r, h2, rfl⟩, List.nodup_append.mpr ⟨gd, n2, fun a ha b hb z => ?_⟩, fun q hq => ?_⟩
    · subst z; exact dj a (by simp [hb]) ha
    · rcases List.mem_append.mp hq with k | k
      · exact .inr k
      · exact .inl (by simp [k])
  | n + 1, x :: xs, vs, f, hl, h, nd, dj => by
    obtain ⟨u, vr, f1, f2, rfl, h1, h2, rfl⟩ := h
    obtain ⟨n1, n2, n3⟩ := List.nodup_append.mp nd
    obtain ⟨f', a1, a2, a3⟩ := RpL.put r gd (n := n) (by simpa using hl) h2 n2 fun q hq => dj q (by simp [hq])
    refine ⟨f1 ++ f', ⟨u, vr.set n v, f1, f', rfl, h1, a1, rfl⟩, List.nodup_append.mpr ⟨n1, a2, fun a ha b hb z => ?_⟩, fun q hq => ?_⟩
    · subst z
      rcases a3 a hb with k | k
      · exact n3 a ha a k rfl
      · exact dj a (by simp [ha]) k
    · rcases List.mem_append.mp hq with k | k
      · exact .inl (by simp [k])
      · exact (a3 q k).imp (fun z => by simp [z]) id
theorem RpL.putF {β : Type} [DecidableEq β] {H : Hp} {d : D} {v : V} {g : List Addr} {f : β} {ns : List β} {xs : List D} {vs : List V} {f0 : List Addr} (r : Rp H d v g) (gd : g.Nodup) (hl : ns.length = xs.length) (h : RpL H xs vs f0) (nd : f0.Nodup) (dj : ∀ q ∈ f0, q ∉ g) :
    ∃ f', RpL H (putX f d ns xs) (putX f v ns vs) f' ∧ f'.Nodup ∧ ∀ q ∈ f', q ∈ f0 ∨ q ∈ g := by
  unfold putX
  cases e : idxOf_ f ns with
  | some n => exact RpL.put r gd (by have := idx_lt e; omega) h nd dj
  | none => exact ⟨f0 ++ g, RpL.append h (RpL.one r), List.nodup_append.mpr ⟨nd, gd, fun a ha b hb z => dj a ha (z ▸ hb)⟩, fun q hq => List.mem_append.mp hq⟩
def sFldS (C : Addr) (pl : PLF) (f : Str) (g : PF) : WS := fun K δ N => (g δ N).ok ∧ (pl δ N).ok ∧ ∃ t dx ns xs, N (pl δ N).a = some ⟨true, t⟩ ∧ sub t (pl δ N).π = some (.obj C dx ns xs) ∧ ns.length < 1000 ∧
  K.nx δ (updN N (pl δ N).a ⟨true, put t (pl δ N).π (.obj C dx (putNs f ns) (putX f (g δ N).val ns xs))⟩)
theorem ds_fldS {o value : Expr} {x : Str} {pl : PLF} {g : PF} (hC : Cls X.K C) (hn : NoAttr X.K C x) (hp : PLc X o pl) (hv : DP X .frs value g) (hs : swapsWith value (some (.Attribute o x pos')) pos.line X.env = pure false := by rfl) :
    DS X E rc (.Assign [.Attribute o x pos'] value pos) (sFldS C pl x g) := ps_imp (ps_fld hp hv hs) fun D σ H h => by
  obtain ⟨δ, N, F, P, K, o, ⟨o1, o2, t, dx, ns, xs, hN, hsub, hl, q⟩, e⟩ := h
  refine ⟨δ, N, F, o.sr, o.nr, o1, fun y H1 fy e1 r1 k1 => ?_⟩
  refine ⟨δ, N, F, P, (o.ex e1).1, _, _, o2, hN, hsub, fun u H2 e2 at2 => ?_⟩
  obtain ⟨fp, r, _⟩ := o.nr _ _ hN
  obtain ⟨f1, f0, f2, rs, _, _⟩ := at2.zip (r.ex (e1.trans e2))
  obtain ⟨p, vs, f', rfl, hp, rl, hlen, rfl⟩ := rs
  have hzl : (ns.zip vs).length < 1000 := by rw [List.length_zip]; omega
  refine ⟨p, C, dx, _, rfl, hp, hC, hn, hzl, ?_⟩
  rw [putF_zip hlen]
  have tC : IsC t := by
    cases hπ : (pl δ N).π with
    | nil => rw [hπ] at hsub; simp [sub] at hsub; subst hsub; trivial
    | cons st π =>
      rw [hπ] at hsub
      cases t <;> first | trivial | (simp [sub, stpIx] at hsub; done)
  have hlx : ns.length = xs.length := by rw [hlen, rl.length]
  have key : ∀ f, Rp H2 (.obj C dx ns xs) (.ref p) f → f.Nodup → (∀ q ∈ f, q ∉ fy) → ∃ f', Rp (upd H2 p (.ins C dx ((putNs x ns).zip (putX x y ns vs)))) (.obj C dx (putNs x ns) (putX x (g δ N).val ns xs)) (.ref p) f' ∧ f'.Nodup ∧ ∀ q ∈ f', q ∈ f ∨ q ∈ fy := by
    intro f r nd ng
    obtain ⟨q, vs', f0, e3, hq, rl', hl', rfl⟩ := r
    cases e3
    rw [hp] at hq
    have hz : ns.zip vs = ns.zip vs' := by
      have h1 := Option.some.inj hq
      injection h1
    have ev : vs = vs' := by
      have := congrArg (List.map (·.2)) hz
      rwa [zip_snd hlen, zip_snd hl'] at this
    subst ev
    obtain ⟨n1, n2⟩ := List.nodup_cons.mp nd
    obtain ⟨f'', r', nd', sb⟩ := RpL.putF (f := x) (r1.ex e2) k1.1 hlx rl' n2 fun q hq => ng q (by simp [hq])
    have pn : p ∉ f'' := fun z => by
      rcases sb p z with k | k
      · exact n1 k
      · exact ng p (by simp) k
    refine ⟨p :: f'', ⟨p, putX x y ns vs, f'', rfl, upd_same, RpL.keep (fun q vs z => by rw [upd_ne (fun k => by rw [k, hp] at z; cases z)]; exact z) _ _ _ r' fun q hq => upd_ne fun z => pn (z ▸ hq), putX_len hlen, rfl⟩, List.nodup_cons.mpr ⟨pn, nd'⟩, fun q hq => ?_⟩
    rcases List.mem_cons.mp hq with rfl | hq
    · exact .inl (by simp)
    · rcases sb q hq with k | k
      · exact .inl (by simp [k])
      · exact .inr k
  have hw := o.write (s := .obj C dx ns xs) (s' := .obj C dx (putNs x ns) (putX x (g δ N).val ns xs)) (o' := .ins C dx ((putNs x ns).zip (putX x y ns vs))) (g := fy) (e1.trans e2) hN at2 ⟨_, hp, fun _ z => by cases z⟩ (fun f r => r.isC trivial) k1.2 k1.1
    (fun f r nd ng => key f r nd ng) (fun z => by
      have at3 := at2
      rw [z] at at3
      cases at3; rfl) (fun f r => r.isC (put_isC (s := t) tC trivial)) (fun _ z => by cases z)
  exact e.nx σ _ F _ δ _ hw.2 hw.1 q
end
end DL
set_option maxHeartbeats 4000000
namespace DL
open PySem L2
theorem idx_mem {β : Type} [DecidableEq β] {k : β} : ∀ {ks : List β}, idxOf_ k ks = none ↔ k ∉ ks
  | [] => by simp [idxOf_]
  | m :: ks => by
    have ih := idx_mem (k := k) (ks := ks)
    simp only [idxOf_, List.mem_cons, not_or]
    by_cases e : m = k
    · subst e; simp
    · rw [if_neg e]
      cases h : idxOf_ k ks with
      | none => simp [ih.mp h]; exact fun z => e z.symm
      | some n =>
        have : k ∈ ks := by
          cases Classical.em (k ∈ ks) with
          | inl h => exact h
          | inr h2 => rw [ih.mpr h2] at h; cases h
        simp [this]
theorem zip_any {ks : List Key} {vs : List V} {k : Key} (h : ks.length = vs.length) : ((ks.zip vs).any fun kv => decide (kv.1 = k)) = true ↔ k ∈ ks := by
  induction ks generalizing vs with
  | nil => simp
  | cons m ks ih =>
    cases vs with
    | nil => simp at h
    | cons v vs =>
      have i := ih (vs := vs) (by simpa using h)
      simp only [List.zip_cons_cons, List.any_cons, Bool.or_eq_true, decide_eq_true_eq, List.mem_cons, i]
      exact ⟨fun z => z.imp Eq.symm id, fun z => z.imp Eq.symm id⟩
theorem zip_map_not {k : Key} {v : V} : ∀ {ks : List Key} {vs : List V}, k ∉ ks → (ks.zip vs).map (fun kv => if kv.1 = k then (kv.1, v) else kv) = ks.zip vs
  | [], _, _ => rfl
  | m :: ks, [], _ => rfl
  | m :: ks, w :: vs, h => by
    rw [List.mem_cons, not_or] at h
    rw [List.zip_cons_cons, List.map_cons, if_neg (fun z => h.1 z.symm), zip_map_not h.2]
theorem putK_zip {k : Key} {v : V} : ∀ {ks : List Key} {vs : List V}, ks.Nodup → ks.length = vs.length → putK (ks.zip vs) k v = (putNs k ks).zip (putX k v ks vs) := by
  intro ks vs nd hl
  unfold putK
  by_cases hm : k ∈ ks
  · rw [if_pos ((zip_any hl).mpr hm)]
    have : ∀ {ks : List Key} {vs : List V}, ks.Nodup → ks.length = vs.length → k ∈ ks → (ks.zip vs).map (fun kv => if kv.1 = k then (kv.1, v) else kv) = (putNs k ks).zip (putX k v ks vs) := by
      intro ks
      induction ks with
      | nil => intro vs _ _ h; simp at h
      | cons m ks ih =>
        intro vs nd hl h
        cases vs with
        | nil => simp at hl
        | cons w vs =>
          obtain ⟨n1, n2⟩ := List.nodup_cons.mp nd
          rw [List.zip_cons_cons, List.map_cons]
          by_cases e : m = k
          · subst e
            rw [if_pos rfl, zip_map_not n1]
            simp [putNs, putX, idxOf_]
          · have hk : k ∈ ks := by
              rcases List.mem_cons.mp h with z | z
              · exact absurd z.symm e
              · exact z
            rw [if_neg e, ih n2 (by simpa using hl) hk]
            unfold putNs putX
            simp only [idxOf_, if_neg e]
            cases h3 : idxOf_ k ks with
            | none => exact absurd hk (idx_mem.mp h3)
            | some n => simp
    exact this nd hl hm
  · have hn : ¬ ((ks.zip vs).any fun kv => decide (kv.1 = k)) = true := fun z => hm ((zip_any hl).mp z)
    rw [if_neg hn]
    unfold putNs putX
    rw [idx_mem.mpr hm]
    simp only
    rw [List.zip_append hl]; rfl
theorem dropK_not {k : Key} : ∀ {ks : List Key} {vs : List V}, k ∉ ks → dropK (ks.zip vs) k = ks.zip vs
  | [], _, _ => rfl
  | m :: ks, [], _ => rfl
  | m :: ks, w :: vs, h => by
    rw [List.mem_cons, not_or] at h
    have ih := dropK_not (vs := vs) h.2
    unfold dropK at ih ⊢
    rw [List.zip_cons_cons, List.filter_cons_of_pos (by simpa using fun z => h.1 z.symm), ih]
theorem dropK_zip {k : Key} : ∀ {ks : List Key} {vs : List V} {n : Nat}, ks.Nodup → ks.length = vs.length → idxOf_ k ks = some n → dropK (ks.zip vs) k = (ks.eraseIdx n).zip (vs.eraseIdx n)
  | [], _, n, _, _, h => by simp [idxOf_] at h
  | m :: ks, [], _, _, hl, _ => by simp at hl
  | m :: ks, w :: vs, n, nd, hl, h => by
    obtain ⟨n1, n2⟩ := List.nodup_cons.mp nd
    simp only [idxOf_] at h
    by_cases e : m = k
    · subst e
      rw [if_pos rfl] at h
      cases h
      have := dropK_not (vs := vs) n1
      unfold dropK at this ⊢
      rw [List.zip_cons_cons, List.filter_cons_of_neg (by simp), this]; rfl
    · rw [if_neg e] at h
      cases h2 : idxOf_ k ks with
      | none => rw [h2] at h; cases h
      | some j =>
        rw [h2] at h; cases h
        have ih := dropK_zip (vs := vs) n2 (by simpa using hl) h2
        unfold dropK at ih ⊢
        rw [List.zip_cons_cons, List.filter_cons_of_pos (by simpa using e), ih]
        simp
theorem RpL.eraseI {H : Hp} : ∀ {n : Nat} {xs : List D} {vs : List V} {f : List Addr}, RpL H xs vs f → f.Nodup → ∃ f', RpL H (xs.eraseIdx n) (vs.eraseIdx n) f' ∧ f'.Nodup ∧ ∀ q ∈ f', q ∈ f
  | n, [], vs, f, h, nd => ⟨f, by obtain ⟨rfl, rfl⟩ := h; cases n <;> exact RpL.nil, nd, fun q hq => hq⟩
  | 0, x :: xs, vs, f, h, nd => by
    obtain ⟨u, vr, f1, f2, rfl, h1, h2, rfl⟩ := h
    exact ⟨f2, h2, (List.nodup_append.mp nd).2.1, fun q hq => by simp [hq]⟩
  | n + 1, x :: xs, vs, f, h, nd => by
    obtain ⟨u, vr, f1, f2, rfl, h1, h2, rfl⟩ := h
    obtain ⟨n1, n2, n3⟩ := List.nodup_append.mp nd
    obtain ⟨f', a1, a2, a3⟩ := RpL.eraseI (n := n) h2 n2
    exact ⟨f1 ++ f', ⟨u, vr.eraseIdx n, f1, f', rfl, h1, a1, rfl⟩, List.nodup_append.mpr ⟨n1, a2, fun a ha b hb z => n3 a ha b (a3 b hb) z⟩, fun q hq => (List.mem_append.mp hq).elim (fun z => by simp [z]) fun z => by simp [a3 q z]⟩
theorem RpL.split {H : Hp} : ∀ {n : Nat} {xs : List D} {vs : List V} {f : List Addr}, RpL H xs vs f → ∃ f1 f2, f = f1 ++ f2 ∧ RpL H (xs.take n) (vs.take n) f1 ∧ RpL H (xs.drop n) (vs.drop n) f2
  | 0, xs, vs, f, h => ⟨[], f, rfl, RpL.nil, h⟩
  | n + 1, [], vs, f, h => by obtain ⟨rfl, rfl⟩ := h; exact ⟨[], [], rfl, RpL.nil, RpL.nil⟩
  | n + 1, x :: xs, vs, f, h => by
    obtain ⟨u, vr, g1, g2, rfl, h1, h2, rfl⟩ := h
    obtain ⟨f1, f2, rfl, a1, a2⟩ := RpL.split (n := n) h2
    exact ⟨g1 ++ f1, f2, by simp, ⟨u, vr.take n, g1, f1, rfl, h1, a1, rfl⟩, a2⟩
section
variable {X : Cx} {E : XK} {c c1 c2 c3 : Cl} {pos p pos' : Pos} {rc : Bool}
theorem isC_of_sub {t s : D} {π : Pth} (h : sub t π = some s) (k : IsC s) : IsC t := by
  cases π with
  | nil => simp [sub] at h; subst h; exact k
  | cons st π => cases t <;> first | trivial | (simp [sub, stpIx] at h; done)
theorem Ok.writeD {δ : Loc} {N : Nm} {F P : Addr → Prop} {σ : St} {H0 H : Hp} {a p : Addr} {t : D} {π : Pth} {ks ks' : List Key} {xs ys : List D} {vs ws : List V} {g : List Addr} (o : Ok δ N F P σ H0) (e : Ex H0 H) (hN : N a = some ⟨true, t⟩)
    (at_ : AtV H t (.ref a) π (.dic ks xs) (.ref p)) (hp : H p = some (.dK (ks.zip vs))) (hl : ks.length = vs.length) (hl' : ks'.length = ws.length) (gn : ∀ q ∈ g, H0 q = none) (gd : g.Nodup)
    (hr : ∀ f, RpL H xs vs f → f.Nodup → (∀ q ∈ f, q ∉ g) → ∃ f', RpL H ys ws f' ∧ f'.Nodup ∧ ∀ q ∈ f', q ∈ f ∨ q ∈ g) :
    ∃ P', Ok δ (updN N a ⟨true, put t π (.dic ks' ys)⟩) F P' σ (upd H p (.dK (ks'.zip ws))) ∧ Tr F P H0 F P' (upd H p (.dK (ks'.zip ws))) := by
  have tC : IsC t := isC_of_sub at_.sub_ trivial
  have key : ∀ f, Rp H (.dic ks xs) (.ref p) f → f.Nodup → (∀ q ∈ f, q ∉ g) → ∃ f', Rp (upd H p (.dK (ks'.zip ws))) (.dic ks' ys) (.ref p) f' ∧ f'.Nodup ∧ ∀ q ∈ f', q ∈ f ∨ q ∈ g := by
    intro f r nd ng
    obtain ⟨q, vs', f0, e1, hq, rl, hlv, rfl⟩ := r
    cases e1
    rw [hp] at hq
    have hz : ks.zip vs = ks.zip vs' := by
      have h1 := Option.some.inj hq
      injection h1
    have ev : vs = vs' := by
      have := congrArg (List.map (·.2)) hz
      rwa [zip_snd hl, zip_snd hlv] at this
    subst ev
    obtain ⟨n1, n2⟩ := List.nodup_cons.mp nd
    obtain ⟨f', r', nd', sb⟩ := hr f0 rl n2 fun q hq => ng q (by simp [hq])
    have pn : p ∉ f' := fun z => by
      rcases sb p z with k | k
      · exact n1 k
      · exact ng p (by simp) k
    refine ⟨p :: f', ⟨p, ws, f', rfl, upd_same, RpL.keep (fun q vs z => by rw [upd_ne (fun k => by rw [k, hp] at z; cases z)]; exact z) _ _ _ r' fun q hq => upd_ne fun z => pn (z ▸ hq), hl', rfl⟩, List.nodup_cons.mpr ⟨pn, nd'⟩, fun q hq => ?_⟩
    rcases List.mem_cons.mp hq with rfl | hq
    · exact .inl (by simp)
    · rcases sb q hq with k | k
      · exact .inl (by simp [k])
      · exact .inr k
  have hw := o.write (s := .dic ks xs) (s' := .dic ks' ys) (o' := .dK (ks'.zip ws)) (g := g) e hN at_ ⟨_, hp, fun _ z => by cases z⟩ (fun f r => r.isC trivial) gn gd (fun f r nd ng => key f r nd ng) (fun z => by subst z; cases at_; rfl) (fun f r => r.isC (put_isC (s := t) tC trivial)) (fun _ z => by cases z)
  exact ⟨_, hw.1, hw.2⟩
theorem kV_rp {H : Hp} {d : D} {v : V} {fp : List Addr} (r : Rp H d v fp) (k : isKey d) : v = kV (toK d) := by
  cases d <;> first | exact k.elim | skip
  · exact r.1
  · exact r.1
def sDPut_ (pl : PLF) (f g : PF) : WS := fun K δ N => (g δ N).ok ∧ (pl δ N).ok ∧ (f δ N).ok ∧ isKey (f δ N).val ∧ ∃ t ks xs, N (pl δ N).a = some ⟨true, t⟩ ∧ sub t (pl δ N).π = some (.dic ks xs) ∧ ks.Nodup ∧ ks.length < SZ ∧
  K.nx δ (updN N (pl δ N).a ⟨true, put t (pl δ N).π (.dic (putNs (toK (f δ N).val) ks) (putX (toK (f δ N).val) (g δ N).val ks xs))⟩)
theorem ds_dput {o i value : Expr} {pl : PLF} {f g : PF} (hu : X.A.units + 64 < cLine) (hp : PLc X o pl) (hi : DP X c1 i f) (hv : DP X .frs value g) (hs : swapsWith value (some (.Subscript o i pos')) pos.line X.env = pure false := by rfl) :
    DS X E rc (.Assign [.Subscript o i pos'] value pos) (sDPut_ pl f g) := ps_imp (ps_dput (hu1 hu) hp hi hv hs) fun D σ H h => by
  obtain ⟨δ, N, F, P, K, o, ⟨o1, o2, o3, o4, t, ks, xs, hN, hsub, nd, hz, q⟩, e⟩ := h
  refine ⟨δ, N, F, o.sr, o.nr, o1, fun y H1 fy e1 r1 k1 => ?_⟩
  refine ⟨δ, N, F, P, (o.ex e1).1, _, _, o2, hN, hsub, fun u H2 e2 at2 => ?_⟩
  refine ⟨δ, N, F, o.sr.ex (e1.trans e2), o.nr.ex (e1.trans e2), o3, fun kv H3 fk e3 r3 k3 => ?_⟩
  have e13 : Ex H H3 := (e1.trans e2).trans e3
  obtain ⟨fp, r, _⟩ := o.nr _ _ hN
  have at3 := at2.ex e3
  obtain ⟨f1, f0, f2, rs, _, _⟩ := at3.zip (r.ex e13)
  obtain ⟨p, vs, f', rfl, hp, rl, hlen, rfl⟩ := rs
  refine ⟨p, _, rfl, .inl ⟨ks.zip vs, toK (f δ N).val, hp, kV_rp r3 o4, ?_, rfl⟩, ?_⟩
  · rw [List.length_zip]
    exact Nat.lt_of_le_of_lt (Nat.min_le_left _ _) (Nat.lt_of_lt_of_le hz (sz (Nat.le_refl _)))
  rw [putK_zip nd hlen]
  obtain ⟨P', o', t'⟩ := o.writeD (ks' := putNs (toK (f δ N).val) ks) (ys := putX (toK (f δ N).val) (g δ N).val ks xs) (ws := putX (toK (f δ N).val) y ks vs) (g := fy) e13 hN at3 hp hlen (putX_len hlen) k1.2 k1.1 fun f0 r0 nd0 ng =>
    RpL.putF ((r1.ex e2).ex e3) k1.1 (by rw [hlen, rl.length]) r0 nd0 ng
  exact e.nx σ _ F P' δ _ t' o' q
def sIns (pl : PLF) (f g : PF) : WS := fun K δ N => (pl δ N).ok ∧ (f δ N).ok ∧ (g δ N).ok ∧ IsI (f δ N).val ∧ 0 ≤ toI (f δ N).val ∧ toI (f δ N).val < 2 ^ 62 ∧ ∃ t xs, N (pl δ N).a = some ⟨true, t⟩ ∧ sub t (pl δ N).π = some (.lst xs) ∧ xs.length < SZ ∧
  K.nx δ (updN N (pl δ N).a ⟨true, put t (pl δ N).π (.lst (xs.take (toI (f δ N).val).toNat ++ [(g δ N).val] ++ xs.drop (toI (f δ N).val).toNat))⟩)
theorem ds_ins {e a b : Expr} {pl : PLF} {f g : PF} {apos ppos : Pos} (hp : PLc X e pl) (ha : DP X c1 a f) (hb : DP X .frs b g) (hs : swapsWith (.Call (.Attribute e "insert" apos) [a, b] [] ppos) none pos.line X.env = pure false := by rfl)
    (hbm : PE X (.Call (.Attribute e "insert" apos) [a, b] [] ppos) (tBM X.K "list" (fun x vs H Q => ∃ (l : Addr) (xs : List V) (i : Int) (y : V), x = .ref l ∧ vs = [.int i, y] ∧ H l = some (.lst xs) ∧ xs.length < sizeLine ∧ 0 ≤ i ∧ i < 2 ^ 63 ∧
    Q .non (upd H l (.lst (xs.take i.toNat ++ [y] ++ xs.drop i.toNat)))) (tPl pl) (tCons (tP c1 f) (tCons (tP .frs g) tNil)))) : DS X E rc (.Expr (.Call (.Attribute e "insert" apos) [a, b] [] ppos) pos) (sIns pl f g) := ps_imp (ps_expr hbm hs) fun D σ H h => by
  obtain ⟨δ, N, F, P, K, o, ⟨o1, o2, o3, o4, i0, i1, t, xs, hN, hsub, hz, q⟩, e⟩ := h
  refine ⟨δ, N, F, P, o, _, _, o1, hN, hsub, fun u H1 e1 at1 => ?_⟩
  obtain ⟨p, vs, f0, rfl, hp, rl⟩ := at1.lst_ o hN e1
  refine ⟨.inl ⟨rfl, _, SqL.of hp⟩, δ, N, F, o.sr.ex e1, o.nr.ex e1, o2, fun v H2 fq e2 r2 k2 => ?_⟩
  refine ⟨δ, N, F, o.sr.ex (e1.trans e2), o.nr.ex (e1.trans e2), o3, fun y H3 fy e3 r3 k3 => ?_⟩
  have e13 : Ex H H3 := (e1.trans e2).trans e3
  have hp3 := e3 _ _ (e2 _ _ hp)
  have ev := r2.int_ o4
  subst ev
  refine ⟨p, vs, _, y, rfl, rfl, hp3, Nat.lt_of_lt_of_le (by rw [← rl.length]; exact hz) (sz (Nat.le_refl _)), i0, by omega, ?_⟩
  generalize hj : (toI (f δ N).val).toNat = jj at q ⊢
  obtain ⟨P', o', t'⟩ := o.writeL (ys := xs.take jj ++ [(g δ N).val] ++ xs.drop jj) (ws := vs.take jj ++ [y] ++ vs.drop jj) (g := fy) e13 hN ((at1.ex e2).ex e3) hp3 (fun q hq => (e1.trans e2).free (k3.2 q hq)) k3.1 fun f r nd ng => by
    obtain ⟨g1, g2, rfl, a1, a2⟩ := RpL.split (n := jj) r
    obtain ⟨n1, n2, n3⟩ := List.nodup_append.mp nd
    refine ⟨g1 ++ fy ++ g2, RpL.append (RpL.append a1 (RpL.one r3)) a2, List.nodup_append.mpr ⟨List.nodup_append.mpr ⟨n1, k3.1, fun x hx y hy z => ng x (by simp [hx]) (z ▸ hy)⟩, n2, fun x hx y hy z => ?_⟩, fun q hq => ?_⟩
    · subst z
      rcases List.mem_append.mp hx with k | k
      · exact n3 x k x hy rfl
      · exact ng x (by simp [hy]) k
    · rcases List.mem_append.mp hq with k | k
      · rcases List.mem_append.mp k with k | k
        · exact .inl (by simp [k])
        · exact .inr k
      · exact .inl (by simp [k])
  exact e.nx σ _ F P' δ _ t' o' q
end
end DL
set_option maxHeartbeats 4000000
namespace DL
open PySem L2
section
variable {X : Cx} {E : XK} {c c1 c2 c3 : Cl} {pos p pos' : Pos} {rc : Bool}
def dgetN (x y : D) : PV := ⟨IsDic x ∧ isKey y, (getK (toKs x) (kids x) (toK y)).getD .non⟩
theorem dp_dgetN {o e : Expr} {f g : PF} {apos cpos : Pos} (hu : X.A.units + 64 < cLine) (ho : DP X c o f) (he : DP X c1 e g) (m : M1 X o "get" apos e cpos) : DP X c (.Call (.Attribute o "get" apos) [e] [] cpos) (p2 dgetN f g) := by
  refine pe_imp (pe_dget1 (hu1 hu) ho he m) fun σ H Q h => ?_
  obtain ⟨δ, N, F, hS, hn, ⟨o1, o2, o3, o4⟩, q⟩ := h
  refine ⟨δ, N, F, hS, hn, o1, fun v H1 fa e1 r1 k1 => ?_⟩
  simp only [p2] at q
  generalize (f δ N).val = d at r1 o3 q
  cases d <;> first | exact o3.elim | skip
  rename_i ks xs
  obtain ⟨p, vs, f', rfl, hp, rl, hl, rfl⟩ := r1
  refine ⟨p, rfl, .inl ⟨_, .inl hp⟩, δ, N, F, hS.ex e1, hn.ex e1, o2, fun w H2 fb e2 r2 k2 => ?_⟩
  have rd := getK_rd (k := toK (g δ N).val) (rl.ex e2) (ks := ks)
  simp only [dgetN, toKs, kids] at q
  cases hg : getK ks xs (toK (g δ N).val) with
  | none =>
    rw [hg] at rd q
    refine ⟨none, .inl ⟨ks.zip vs, toK (g δ N).val, .inl (e2 _ _ hp), kV_rp r2 o4, rd.symm⟩, ?_⟩
    exact q .non H2 [] (e1.trans e2) ⟨rfl, rfl⟩ Cl.nil
  | some d =>
    rw [hg] at rd q
    obtain ⟨v, fv, h1, h2, h3, h4⟩ := rd
    refine ⟨some v, .inl ⟨ks.zip vs, toK (g δ N).val, .inl (e2 _ _ hp), kV_rp r2 o4, h1.symm⟩, ?_⟩
    exact q v H2 fv (e1.trans e2) h2 (Cl.sub k1 (fun z hz => by simp [h3 z hz]) fun nd => h4 (List.nodup_cons.mp nd).2)
def sDPop (pl : PLF) (f : PF) : WS := fun K δ N => (pl δ N).ok ∧ (f δ N).ok ∧ isKey (f δ N).val ∧ ∃ t ks xs n, N (pl δ N).a = some ⟨true, t⟩ ∧ sub t (pl δ N).π = some (.dic ks xs) ∧ ks.Nodup ∧ ks.length = xs.length ∧ idxOf_ (toK (f δ N).val) ks = some n ∧
  K.nx δ (updN N (pl δ N).a ⟨true, put t (pl δ N).π (.dic (ks.eraseIdx n) (xs.eraseIdx n))⟩)
theorem ds_dpop {o e : Expr} {pl : PLF} {f : PF} {apos cpos : Pos} (hp : PLc X o pl) (he : DP X c1 e f) (m : M1 X o "pop" apos e cpos) (hs : swapsWith (.Call (.Attribute o "pop" apos) [e] [] cpos) none pos.line X.env = pure false := by rfl) :
    DS X E rc (.Expr (.Call (.Attribute o "pop" apos) [e] [] cpos) pos) (sDPop pl f) := ps_imp (ps_expr (pe_dpop1 hp he m) hs) fun D σ H h => by
  obtain ⟨δ, N, F, P, K, o, ⟨o1, o2, o3, t, ks, xs, n, hN, hsub, nd, hlk, hix, q⟩, e⟩ := h
  refine ⟨δ, N, F, P, o, _, _, o1, hN, hsub, fun u H1 e1 at1 => ?_⟩
  obtain ⟨fp, r, _⟩ := o.nr _ _ hN
  obtain ⟨f1, f0, f2, rs, _, _⟩ := at1.zip (r.ex e1)
  obtain ⟨p, vs, f', rfl, hp, rl, hlen, rfl⟩ := rs
  refine ⟨p, rfl, .inl ⟨_, .inl hp⟩, δ, N, F, o.sr.ex e1, o.nr.ex e1, o2, fun kv H2 fk e2 r2 k2 => ?_⟩
  have hn : n < vs.length := by have := idx_lt hix; omega
  refine ⟨ks.zip vs, toK (f δ N).val, vs[n], e2 _ _ hp, kV_rp r2 o3, by rw [valV_zip, hix]; simp [hn], ?_⟩
  rw [dropK_zip nd hlen hix]
  obtain ⟨P', o', t'⟩ := o.writeD (ks' := ks.eraseIdx n) (ys := xs.eraseIdx n) (ws := vs.eraseIdx n) (g := []) (e1.trans e2) hN (at1.ex e2) (e2 _ _ hp) hlen (by rw [List.length_eraseIdx, List.length_eraseIdx, hlen]) (by simp) List.nodup_nil fun f0 r0 nd0 _ => by
    obtain ⟨f', a1, a2, a3⟩ := RpL.eraseI (n := n) r0 nd0
    exact ⟨f', a1, a2, fun q hq => .inl (a3 q hq)⟩
  exact e.nx σ _ F P' δ _ t' o' q
end
end DL
set_option maxHeartbeats 4000000
namespace DL
open PySem PySem.Spec PyProof.Rows L2
section
variable {X : Cx} {E : XK} {c c1 c2 c3 : Cl} {pos p pos' : Pos} {rc : Bool}
def rUpdK : V → List V → Hp → VK → Prop := fun x vs H Q => ∃ (a b : Addr) (kvs more : List (Key × V)), x = .ref a ∧ vs = [.ref b] ∧ a ≠ b ∧ H a = some (.dK kvs) ∧ H b = some (.dK more) ∧ kvs.length + more.length ≤ sizeLine ∧ Q .non (upd H a (.dK (mergeK kvs more)))
theorem mt_updateK : MtR X "dict.update" rUpdK := by
  intro pins s σ H x vs v us Q I rx rv h
  obtain ⟨a, b, kvs, more, rfl, rfl, hab, ha, hb, hz, q⟩ := h
  cases rx
  obtain ⟨u, rfl, ru⟩ := rv.one
  cases ru
  obtain ⟨z, hd, vs, rel, dd⟩ := dk_of I.hok ha
  obtain ⟨z2, hd2, vs2, rel2, dd2⟩ := dk_of I.hok hb
  have hl : (mergeK kvs more).length ≤ sizeLine := Nat.le_trans (length_mergeK more kvs) hz
  refine call_meetsIn PySem.F.slot_dict_update dd.typeIs PySem.F.entry_dict_update (PySem.F.args_dict_update_2 _ _) (meets_dict_update (mixKind X.prog X.w) a b hab hd2)
    ⟨vs, vs2, dd, dd2, by rw [← rel.length, ← rel2.length]; exact hz, fun h' dd' _ hs => ?_⟩
  have he : ∃ q, h'.get? a = some q := let ⟨q, _, _, hq, _⟩ := dd'; ⟨q, hq⟩
  exact ⟨.non, _, d_write I (by rw [ha]; exact True.intro) hs he (dk_new hl hd (KV.merge rel2 rel) dd'), rfl, q⟩
def rRemD (K : PySem.W.Frag) : V → List V → Hp → VK → Prop := fun x xs' H Q => ∃ (a : Addr) (y : V) (d : PyData) (ds : List PyData) (j : Nat) (z : PyData) (xs : List V), x = V.ref a ∧ xs' = [y] ∧ H a = some (.lst xs) ∧ DpAll K H xs ds ∧ Dp K H y d ∧
  SeqAt.shaped (.list ds) = true ∧ SeqAt.shaped d = true ∧ ds[j]? = some z ∧ PyData.eqv z d = true ∧ (∀ (m : Nat) (z' : PyData), m < j → ds[m]? = some z' → PyData.eqv z' d = false) ∧ Q .non (upd H a (.lst (xs.eraseIdx j)))
theorem mt_removeD (hu : X.A.units + 65 < cLine) : MtR X "list.remove" (rRemD X.K) := by
  intro pins s σ H x xs' v us Q I rx rxs h
  obtain ⟨a, y, d, ds, j, z, xs, rfl, rfl, hH, hl, hy, sl, sd, hz, hzj, hno, q⟩ := h
  cases rx
  obtain ⟨uy, rfl, ry⟩ := rxs.one
  obtain ⟨bs, r1⟩ := Dp.reads I d y uy hy ry
  have hxs : PyData.canLayAll0 ds = true := SeqAt.canLay_of_shaped sl
  have hroom : X.A.units + 1 + min (PyData.depthAll ds) d.depth < cLine := room_in_shaped sd hu
  obtain ⟨zz, its, n, rv, hlen, ho⟩ := I.lstM hH
  obtain ⟨as, h4⟩ := Dp.readsAll I ds _ its hl rv
  have hn : its.length = ds.length := SeqAt.ReadsAll.length ds its as h4
  have hmap : its.map (SeqAt.readOf s.heap) = ds := SeqAt.readsAll_map ds its as hxs h4
  have hvl := rv.length
  obtain ⟨hjd, _⟩ := List.getElem?_eq_some_iff.mp hz
  have hjl : j < its.length := by omega
  have hj : j < its.toArray.size := by simpa using hjl
  have at_ : ∀ (m : Nat) (hm : m < its.toArray.size) (z' : PyData), ds[m]? = some z' → SeqAt.readOf s.heap its.toArray[m] = z' := by
    intro m hm z' hz'
    have hml : m < its.length := by simpa using hm
    rw [← hmap, List.getElem?_map, List.getElem?_eq_getElem hml] at hz'
    have e1 : SeqAt.readOf s.heap its[m] = z' := Option.some.inj (show some (SeqAt.readOf s.heap its[m]) = some z' from hz')
    simpa using e1
  refine call_meets PySem.F.slot_list_remove ⟨_, ho, rfl⟩ PySem.F.entry_list_remove (PySem.F.args_list_remove_2 _ _)
    (SeqAt.list_removeAt a its.toArray n _ _ uy (fun u => PyData.eqv (SeqAt.readOf s.heap u) d) j hj ?_ ?_ (by rw [List.size_toArray]; omega)) ⟨ho, SeqAt.items_eqAt (vs := its.toArray) (show ReadsAll s.heap its.toArray.toList ds as from h4) r1 hxs (SeqAt.canLay_of_shaped sd) hroom, ?_⟩
  · show PyData.eqv (SeqAt.readOf s.heap its.toArray[j]) d = true
    rw [at_ j hj z hz]
    exact hzj
  · intro m hm hmj
    have hmd : m < ds.length := by omega
    have hz' : ds[m]? = some ds[m] := List.getElem?_eq_getElem hmd
    show PyData.eqv (SeqAt.readOf s.heap its.toArray[m]) d = false
    rw [at_ m hm _ hz']
    exact hno m _ hmj hz'
  · refine ⟨.non, _, I.lset (its' := its.eraseIdx j) (t' := s.toks) hH ho ?_ (rv.eraseIdx j) ?_, rfl, q⟩
    · show its.toArray.eraseIdxIfInBounds j = (its.eraseIdx j).toArray
      rw [List.eraseIdxIfInBounds_toArray]
    · have := List.length_eraseIdx_le xs j
      omega
def sRem (pl : PLF) (f : PF) : WS := fun K δ N => (pl δ N).ok ∧ (f δ N).ok ∧ okD 8 (f δ N).val ∧ ∃ t xs j z, N (pl δ N).a = some ⟨true, t⟩ ∧ sub t (pl δ N).π = some (.lst xs) ∧ okD 8 (.lst xs) ∧ xs[j]? = some z ∧ eqD z (f δ N).val = true ∧ (∀ m z', m < j → xs[m]? = some z' → eqD z' (f δ N).val = false) ∧
  K.nx δ (updN N (pl δ N).a ⟨true, put t (pl δ N).π (.lst (xs.eraseIdx j))⟩)
theorem ds_rem {e a : Expr} {pl : PLF} {f : PF} {apos ppos : Pos} (hp : PLc X e pl) (ha : DP X c1 a f) (hs : swapsWith (.Call (.Attribute e "remove" apos) [a] [] ppos) none pos.line X.env = pure false := by rfl)
    (hbm : PE X (.Call (.Attribute e "remove" apos) [a] [] ppos) (tBM X.K "list" (rRemD X.K) (tPl pl) (tCons (tP c1 f) tNil))) : DS X E rc (.Expr (.Call (.Attribute e "remove" apos) [a] [] ppos) pos) (sRem pl f) := ps_imp (ps_expr hbm hs) fun D σ H h => by
  obtain ⟨δ, N, F, P, K, o, ⟨o1, o2, o3, t, xs, j, z, hN, hsub, hok, hz, hzj, hno, q⟩, e⟩ := h
  refine ⟨δ, N, F, P, o, _, _, o1, hN, hsub, fun u H1 e1 at1 => ?_⟩
  obtain ⟨p, vs, f0, rfl, hp, rl⟩ := at1.lst_ o hN e1
  refine ⟨.inl ⟨rfl, _, SqL.of hp⟩, δ, N, F, o.sr.ex e1, o.nr.ex e1, o2, fun v H2 fq e2 r2 k2 => ?_⟩
  have hok7 : ∀ d ∈ xs, okD 7 d := hok
  refine ⟨p, v, toPy (f δ N).val, toPys xs, j, toPy z, vs, rfl, rfl, e2 _ _ hp, RpL.dp 7 _ _ _ (rl.ex e2) hok7, Rp.dp 8 _ _ _ r2 o3, by simpa [toPy] using hok.shaped (by decide), o3.shaped (by decide), by rw [toPys_map, List.getElem?_map, hz]; rfl, hzj, fun m z' hm h => ?_, ?_⟩
  · rw [toPys_map, List.getElem?_map] at h
    obtain ⟨z2, h2, rfl⟩ := Option.map_eq_some_iff.mp h
    exact hno m z2 hm h2
  obtain ⟨P', o', t'⟩ := o.writeL (ys := xs.eraseIdx j) (ws := vs.eraseIdx j) (g := []) (e1.trans e2) hN (at1.ex e2) (e2 _ _ hp) (by simp) List.nodup_nil fun f r nd ng => by
    obtain ⟨f', a1, a2, a3⟩ := RpL.eraseI (n := j) r nd
    exact ⟨f', a1, a2, fun q hq => .inl (a3 q hq)⟩
  exact e.nx σ _ F P' δ _ t' o' q
def sDUpd (pl : PLF) (f : PF) : WS := fun K δ N => (pl δ N).ok ∧ (f δ N).ok ∧ ∃ t ks xs ks2 xs2, N (pl δ N).a = some ⟨true, t⟩ ∧ sub t (pl δ N).π = some (.dic ks xs) ∧ (f δ N).val = .dic ks2 xs2 ∧ (ks ++ ks2).Nodup ∧ ks.length + ks2.length ≤ SZ ∧
  K.nx δ (updN N (pl δ N).a ⟨true, put t (pl δ N).π (.dic (ks ++ ks2) (xs ++ xs2))⟩)
theorem ds_dupd {e a : Expr} {pl : PLF} {f : PF} {apos ppos : Pos} (hp : PLc X e pl) (ha : DP X .frs a f) (hs : swapsWith (.Call (.Attribute e "update" apos) [a] [] ppos) none pos.line X.env = pure false := by rfl)
    (hbm : PE X (.Call (.Attribute e "update" apos) [a] [] ppos) (tBM X.K "dict" rUpdK (tPl pl) (tCons (tP .frs f) tNil))) : DS X E rc (.Expr (.Call (.Attribute e "update" apos) [a] [] ppos) pos) (sDUpd pl f) := ps_imp (ps_expr hbm hs) fun D σ H h => by
  obtain ⟨δ, N, F, P, K, o, ⟨o1, o2, t, ks, xs, ks2, xs2, hN, hsub, hv, nd, hsz, q⟩, e⟩ := h
  refine ⟨δ, N, F, P, o, _, _, o1, hN, hsub, fun u H1 e1 at1 => ?_⟩
  obtain ⟨fp, r, _⟩ := o.nr _ _ hN
  obtain ⟨f1, f0, f2, rs, _, _⟩ := at1.zip (r.ex e1)
  obtain ⟨p, vs, f', rfl, hp, rl, hlen, rfl⟩ := rs
  refine ⟨.inr (.inr (.inl ⟨rfl, .inl ⟨_, hp⟩⟩)), δ, N, F, o.sr.ex e1, o.nr.ex e1, o2, fun v H2 fq e2 r2 k2 => ?_⟩
  rw [hv] at r2
  obtain ⟨p2, vs2, g, rfl, hp2, rl2, hlen2, rfl⟩ := r2
  have hp' := e2 _ _ hp
  have hne : p ≠ p2 := fun z => by
    have h1 := k2.2 p2 (by simp)
    rw [← z, hp] at h1; cases h1
  have hks : ks.length = xs.length := by rw [hlen, rl.length]
  refine ⟨p, p2, _, _, rfl, rfl, hne, hp', hp2, by rw [List.length_zip, List.length_zip, ← hlen, ← hlen2]; simp; exact Nat.le_trans hsz (sz (Nat.le_refl _)), ?_⟩
  rw [mergeK_nodup (by rw [List.map_append, zip_fst hlen, zip_fst hlen2]; exact nd), ← List.zip_append hlen]
  obtain ⟨gd1, gd2⟩ := List.nodup_cons.mp k2.1
  obtain ⟨P', o', t'⟩ := o.writeD (ks' := ks ++ ks2) (ys := xs ++ xs2) (ws := vs ++ vs2) (g := g) (e1.trans e2) hN (at1.ex e2) hp' hlen (by rw [List.length_append, List.length_append, hlen, hlen2]) (fun q hq => e1.free (k2.2 q (by simp [hq]))) gd2 fun f r nd ng =>
    ⟨f ++ g, RpL.append r rl2, List.nodup_append.mpr ⟨nd, gd2, fun x hx y hy z => ng x hx (z ▸ hy)⟩, fun q hq => List.mem_append.mp hq⟩
  exact e.nx σ _ F P' δ _ t' o' q
def kD : Key → D | .inl i => .int i | .inr s => .str s
def keysD (d : D) : PV := ⟨IsDic d ∧ (toKs d).length = (kids d).length, .lst ((toKs d).map kD)⟩
theorem RpL.keys {H : Hp} : ∀ ks : List Key, RpL H (ks.map kD) (ks.map kV) []
  | [] => RpL.nil
  | k :: ks => ⟨_, _, [], [], rfl, by cases k <;> exact ⟨rfl, rfl⟩, RpL.keys ks, rfl⟩
theorem dp_listK {a : Expr} {f : PF} (hc : X.calm = true) (hg : Gl X "list") (hm : X.mg "list" = none) (ha : DP X c1 a f) (hs : starEach [a] X.env = (false, eval a X.env) :: starEach [] X.env := by rfl) : DP X c (.Call (.Name "list" p) [a] [] pos) (p1 keysD f) :=
  cb1 (hf := keysD) (fun h => pe_callTy (T := "list") (call_list_dK hc) hg hm (by decide +kernel) h (he := hs) (hpl := by rfl)) ha (fun F H H1 d v fp Q e1 r k ok q => by
    obtain ⟨o1, o2⟩ := ok
    cases d <;> first | exact o1.elim | skip
    rename_i ks xs
    obtain ⟨p, vs, f', rfl, hp, rl, hl, rfl⟩ := r
    refine ⟨p, _, rfl, hp, fun l hl2 => ?_⟩
    have e : (ks.zip vs).map (fun kv => kV kv.1) = ks.map kV := by
      have := congrArg (List.map kV) (zip_fst hl)
      rw [List.map_map] at this; exact this
    rw [e]
    exact q _ _ [l] (Ex.new hl2) ⟨l, _, [], rfl, upd_same, RpL.keys ks, rfl⟩ (Cl.cons (e1) Cl.nil (by simp) hl2)) hs
end
end DL
set_option maxHeartbeats 4000000
namespace DL
open PySem L2
theorem hu65 {k : Nat} {A : Around} (r : Room k A) : A.units + 65 < cLine := by have := r.un; omega
theorem m1_ {X : Cx} {o e : Expr} {m : Str} {apos cpos : Pos} (h1 : attributeBase o m X.env (eval o X.env) = eval o X.env := by rfl)
    (h2 : ((backTo cpos (starEach [e] X.env)).all (fun x => !x.1) && (backToKw cpos (keywordEach [] X.env)).all (fun x => x.1.isSome)
    && decide (([e] : List Expr).length + ([] : List Keyword).length + (if ([] : List Keyword).isEmpty then 0 else 1) < 30)) = true := by rfl)
    (h3 : (apos.endLine == cpos.line) = true := by rfl) (h4 : backTo cpos (starEach [e] X.env) = [(false, eval e X.env)] := by rfl) : M1 X o m apos e cpos := ⟨h1, h2, h3, h4⟩
section
variable {X : Cx} {E : XK} {pos : Pos}
def wAndV (w u : WE) : WE := fun δ N Q E => w δ N (fun d N1 => IsB d ∧ if toB d = true then u δ N1 Q E else Q (.bl false) N1) E
def wOrV (w u : WE) : WE := fun δ N Q E => w δ N (fun d N1 => IsB d ∧ if toB d = true then Q (.bl true) N1 else u δ N1 Q E) E
theorem de_one {op : BoolOp} {a : Expr} {w : WE} (h : DE X E a w) : DE X E (.BoolOp op [a] pos) w := pe_one h
theorem de_and {a b : Expr} {rest : List Expr} {w u : WE} (ha : DE X E a w) (hb : DE X E (.BoolOp .And (b :: rest) pos) u) : DE X E (.BoolOp .And (a :: b :: rest) pos) (wAndV w u) := by
  refine pe_imp (pe_and ha hb) fun σ H Q h => ?_
  obtain ⟨δ, N, F, P, Q', E', o, q', q, qe⟩ := h
  refine ⟨δ, N, F, P, _, E', o, q', fun v H1 F1 P1 d N1 fp t1 o1 r1 k1 q1 => ?_, qe⟩
  obtain ⟨hb, q2⟩ := q1
  refine ⟨_, r1.bl_ hb, ?_⟩
  cases eb : toB d with
  | true =>
    rw [eb] at q2
    refine (if_pos rfl).mpr ?_
    exact ⟨δ, N1, F1, P1, Q', E', o1, by simpa using q2, fun v2 H2 F2 P2 d2 N2 f2 t2 o2 r2 k2 q3 => q v2 H2 F2 P2 d2 N2 f2 (t1.trans t2) o2 r2 k2 q3, qe.tr t1⟩
  | false =>
    rw [eb] at q2
    refine (if_neg Bool.false_ne_true).mpr ?_
    exact q _ H1 F1 P1 (.bl false) N1 [] t1 o1 ⟨rfl, rfl⟩ (by simp) (by simpa using q2)
end
end DL
set_option maxHeartbeats 4000000
namespace DL
open PySem L2
structure ExC (K : PySem.W.Frag) (mg : Str → Option Value) (x : Str) (C : Addr) : Prop where
  glo : mg x = some (.ref C)
  exc : PySem.W.excIn K C [.type "ValueError", .type "Exception", .type "BaseException", .type "object"] "ValueError.__new__" = true ∧ PySem.W.keepIn K (.ref C) = true ∧ PySem.W.subIn K (.ref C) (.type "BaseException") = some true ∧ PySem.W.typeIn K (.ref C) = some (.type "type")
def sRaise (C : Addr) : WS := fun K _ N => K.ex ⟨C, none⟩ N
section
variable {X : Cx} {E : XK} {rc : Bool} {C : Addr}
theorem ds_raise {x m : Str} {j : Nat} {p p2 pos pos' : Pos} (T : ExC X.K X.mg x C) (hc : X.calm = true) (tk : Takes X (fun cls d _ H => E cls d H)) (hg : Gl X x) (hdb : (x == ("__debug__" : Str)) = false := by decide) :
    DS X E rc (.Raise (some (.Call (.Name x p) [.Constant (.str m) j p2] [] pos)) none pos') (sRaise C) :=
  ps_imp (ps_raise hc tk (pmk_own PySem.F.excBase_ValueError T.exc.1 T.glo T.exc.2.1 (raises_own T.exc.2.2.1 T.exc.2.2.2) hg hdb)) fun D σ H h => by
    obtain ⟨δ, N, F, P, K, o, q, e⟩ := h
    exact e.ex ⟨C, none⟩ (.ref C) none H F P N Tr.refl o.wf ⟨rfl, rfl⟩ q
end
end DL
set_option maxHeartbeats 4000000
namespace DL
open PySem PySem.Spec PyProof.Rows L2
theorem usort_nd {xs : List Int} : (usort xs).Nodup := (usort_up (xs := xs)).imp fun h => by omega
theorem setR_card {w : World} {h : Heap} {a : Addr} {ns : List Int} {c : Nat} (R : SetR w h a (fun j => decide (j ∈ ns)) c) : c = (usort ns).length := by
  obtain ⟨o, es, ep, t, ho, _, hd, g, nd, mem, _, _, hsz, _⟩ := R
  have p : (es.toList.map keyOf).Perm (usort ns) := (List.perm_ext_iff_of_nodup nd usort_nd).mpr fun k => by
    rw [← mem k, usort_mem]; simp
  have := p.length_eq
  rw [List.length_map, Array.length_toList] at this
  omega
section
variable {X : Cx}
def rSetU (K : PySem.W.Frag) (w : World) : List V → Hp → VK → Prop := fun xs H Q => ∃ (a : Addr) (ns : List Int), xs = [.ref a] ∧ SqL K H a (ns.map V.int) ∧ ns.length + 1 < scanBound ∧ ∀ l, H l = none → Q (.ref l) (upd H l (SetO w l (fun j => decide (j ∈ ns)) (usort ns).length))
theorem cr_setU (hc : X.calm = true) : CallR X (.type "set") (rSetU X.K X.w) := by
  intro pins s σ H xs us Q I r h
  obtain ⟨a, ns, rfl, hs, hb, q⟩ := h
  obtain ⟨its, rv, hl, _⟩ := I.list hs
  rw [Vals.ref1 r]
  have hi := rv.ints
  refine setList ns (I.ok.hd hc) hl.isList (by simpa using hi) hb fun g tk c R hcn k => ?_
  have hcc := setR_card R
  subst hcc
  exact ⟨.ref _, upd H s.heap.objs.size (SetO X.w s.heap.objs.size (fun j => decide (j ∈ ns)) (usort ns).length), I.laid (t' := tk) k (Nat.le_refl _) (setO_new R), rfl, q _ (I.hok.fresh (Nat.le_refl _))⟩
end
section
variable {X : Cx} {E : XK} {c c1 : Cl} {pos p p2 pos2 : Pos}
def sortsetU (d : D) : PV := ⟨Ints d ∧ (toL d).length ≤ 1000 ∧ (usort (toIs d)).length < 64, .lst ((usort (toIs d)).map D.int)⟩
theorem sortsetU_rd {F : Addr → Prop} {H H1 : Hp} {d : D} {v : V} {fp : List Addr} {Q : VK} (r : Rp H1 d v fp) (ok : (sortsetU d).ok) (q : ∀ l, H1 l = none → ∀ H2, Ex H1 H2 → H2 l = some (.lst ((usort (toIs d)).map V.int)) → Q (.ref l) H2) {K : PySem.W.Frag} {w : World} :
    rSetU K w [v] H1 fun x H2 => rSortedSet w [x] H2 Q := by
  obtain ⟨pp, rfl, hp⟩ := r.ints ok.1
  have hl : (toIs d).length ≤ 1000 := by show ((toL d).map toI).length ≤ 1000; rw [List.length_map]; exact ok.2.1
  refine ⟨pp, toIs d, rfl, SqL.of hp, Nat.lt_of_lt_of_le (Nat.succ_lt_succ (Nat.lt_succ_of_le hl)) (by decide), fun l hn => ?_⟩
  refine ⟨l, _, _, rfl, upd_same, ok.2.2, fun ms p up hm _ hf => ?_⟩
  have e : ms = usort (toIs d) := up_uniq up usort_up fun z => by rw [hm z, usort_mem]; simp
  subst e
  have e1 : Ex H1 (upd H1 l (SetO w l (fun j => decide (j ∈ toIs d)) (usort (toIs d)).length)) := Ex.new hn
  have e2 : Ex (upd H1 l (SetO w l (fun j => decide (j ∈ toIs d)) (usort (toIs d)).length)) (upd (upd H1 l (SetO w l (fun j => decide (j ∈ toIs d)) (usort (toIs d)).length)) p (.lst ((usort (toIs d)).map V.int))) := Ex.new hf
  exact q p ((e1.free hf)) _ (e1.trans e2) upd_same
theorem dp_sortsetU {a : Expr} {f : PF} (hc : X.calm = true) (hg : Gl X "sorted") (hm : X.mg "sorted" = none) (hg2 : Gl X "set") (hm2 : X.mg "set" = none) (ha : DP X c1 a f)
    (hs : starEach [a] X.env = (false, eval a X.env) :: starEach [] X.env := by rfl)
    (hs2 : starEach [.Call (.Name "set" p2) [a] [] pos2] X.env = (false, eval (.Call (.Name "set" p2) [a] [] pos2) X.env) :: starEach [] X.env := by rfl) :
    DP X c (.Call (.Name "sorted" p) [.Call (.Name "set" p2) [a] [] pos2] [] pos) (p1 sortsetU f) := by
  refine pe_imp (pe_callB (cr_sortedSet hc) hg hm (by decide +kernel) (pa_cons (pe_callTy (cr_setU hc) hg2 hm2 (by decide +kernel) (pa_cons ha pa_nil hs) (he := hs) (hpl := by rfl)) pa_nil hs2) (he := hs2) (hpl := by rfl)) fun σ H Q h => ?_
  obtain ⟨δ, N, F, hS, hn, ok, q⟩ := h
  refine ⟨δ, N, F, hS, hn, ok.1, fun v H1 fp e1 r1 k1 => ?_⟩
  refine sortsetU_rd (F := F) (H := H) r1 ok.2 fun l hl H2 e2 h2 => ?_
  refine q _ H2 [l] (e1.trans e2) ⟨l, _, [], rfl, h2, RpL.of_ints _, rfl⟩ (Cl.frs_ ⟨by simp, fun z hz => ?_⟩)
  rw [List.mem_singleton.mp hz]; exact e1.free hl
end
end DL
set_option maxHeartbeats 4000000
namespace DL
open PySem L2
def WV (w : WE) (δ : Loc) (N : Nm) (E : ED) (d : D) (P : Nm → Prop) : Prop := ∀ Q : D → Nm → Prop, (∀ N', P N' → Q d N') → w δ N Q E
def WVE (w : WE) (δ : Loc) (N : Nm) (E : ED) (P : D → Nm → Prop) : Prop := ∀ Q : D → Nm → Prop, (∀ d N', P d N' → Q d N') → w δ N Q E
def WB (t : WT) (δ : Loc) (N : Nm) (E : ED) (b : Bool) (P : Nm → Prop) : Prop := ∀ Q : Bool → Nm → Prop, (∀ N', P N' → Q b N') → t δ N Q E
section
variable {K : EndD} {δ δ' : Loc} {N : Nm} {E : ED} {d e : D} {b : Bool} {P P' : Nm → Prop} {w u : WE} {t s : WT} {f g : PF} {tf : TF}
theorem wv_p (h : (f δ N).ok ∧ (f δ N).val = d) : WV (wP f) δ N E d (fun N' => N' = N) := fun Q q => ⟨h.1, by rw [h.2]; exact q N rfl⟩
theorem WV.mono (h : WV w δ N E d P) (k : ∀ N', P N' → P' N') : WV w δ N E d P' := fun Q q => h Q fun N' p => q N' (k N' p)
theorem WV.ex_ (h : WV w δ N E d P) : WVE w δ N E (fun x N' => x = d ∧ P N') := fun Q q => h Q fun N' p => q d N' ⟨rfl, p⟩
theorem wb_t (h : (tf δ N).ok ∧ (tf δ N).b = b) : WB (wT tf) δ N E b (fun N' => N' = N) := fun Q q => ⟨h.1, by rw [h.2]; exact q N rfl⟩
theorem wb_orF (h : WB t δ N E false P) (k : ∀ N', P N' → WB s δ N' E b P') : WB (wOr t s) δ N E b P' := fun Q q => h _ fun N' p => (if_neg Bool.false_ne_true).mpr (k N' p Q q)
theorem wb_orT (h : WB t δ N E true P) : WB (wOr t s) δ N E true P := fun Q q => h _ fun N' p => (if_pos rfl).mpr (q N' p)
theorem wb_andT (h : WB t δ N E true P) (k : ∀ N', P N' → WB s δ N' E b P') : WB (wAnd t s) δ N E b P' := fun Q q => h _ fun N' p => (if_pos rfl).mpr (k N' p Q q)
theorem wb_andF (h : WB t δ N E false P) : WB (wAnd t s) δ N E false P := fun Q q => h _ fun N' p => (if_neg Bool.false_ne_true).mpr (q N' p)
theorem wb_not (h : WB t δ N E (!b) P) : WB (wNot t) δ N E b P := fun Q q => h _ fun N' p => by rw [Bool.not_not]; exact q N' p
theorem wb_v (h : WV w δ N E (.bl b) P) : WB (wTV w) δ N E b P := fun Q q => h _ fun N' p => ⟨trivial, q N' p⟩
theorem wb_2 {op : D → D → TV} (h : WV w δ N E d P) (k : ∀ N', P N' → WV u δ N' E e P') (ho : (op d e).ok ∧ (op d e).b = b) : WB (w2t op w u) δ N E b P' := fun Q q => h _ fun N' p => k N' p _ fun N2 p2 => ⟨ho.1, by rw [ho.2]; exact q N2 p2⟩
theorem wv_2 {op : D → D → PV} {x y : D} (h : WV w δ N E x P) (k : ∀ N', P N' → WV u δ N' E y P') (ho : (op x y).ok ∧ (op x y).val = d) : WV (w2 op w u) δ N E d P' := fun Q q => h _ fun N' p => k N' p _ fun N2 p2 => ⟨ho.1, by rw [ho.2]; exact q N2 p2⟩
theorem wv_2c {op : D → D → TV} {x y : D} (h : WV w δ N E x P) (k : ∀ N', P N' → WV u δ N' E y P') (ho : (op x y).ok ∧ (op x y).b = b) : WV (w2c op w u) δ N E (.bl b) P' := fun Q q => h _ fun N' p => k N' p _ fun N2 p2 => ⟨ho.1, by rw [ho.2]; exact q N2 p2⟩
theorem wv_andT (h : WV w δ N E (.bl true) P) (k : ∀ N', P N' → WV u δ N' E d P') : WV (wAndV w u) δ N E d P' := fun Q q => h _ fun N' p => ⟨trivial, (if_pos rfl).mpr (k N' p Q q)⟩
theorem wv_sl {lo hi : SF} {l h : Option Int} {xs : List D} (hw : WV w δ N E (.lst xs) P) (hl : ∀ N', P N' → (lo δ N').1 ∧ (lo δ N').2 = l) (hh : ∀ N', P N' → (hi δ N').1 ∧ (hi δ N').2 = h) : WV (wSl w lo hi) δ N E (.lst (cutD xs l h)) P := fun Q q => hw _ fun N' p => ⟨(hl N' p).1, (hh N' p).1, trivial, by rw [(hl N' p).2, (hh N' p).2]; exact q N' p⟩
theorem st_ifB {t : WT} {a c r : WS} (h : WB t δ N K.ex b P) (k : ∀ N', P N' → if b = true then a { K with nx := r K } δ N' else c { K with nx := r K } δ N') : sSeq (sIf t a c) r K δ N := h _ fun N' p => k N' p
theorem st_ifBF {t : WT} {a r : WS} (h : WB t δ N K.ex false P) (k : ∀ N', P N' → r K δ N') : sSeq (sIf t a sNext) r K δ N := h _ fun N' p => (if_neg Bool.false_ne_true).mpr (k N' p)
theorem st_ifBT {t : WT} {a c r : WS} (h : WB t δ N K.ex true P) (k : ∀ N', P N' → a { K with nx := r K } δ N') : sSeq (sIf t a c) r K δ N := h _ fun N' p => (if_pos rfl).mpr (k N' p)
theorem st_ifB1 {t : WT} {a c : WS} (h : WB t δ N K.ex b P) (k : ∀ N', P N' → if b = true then a K δ N' else c K δ N') : sIf t a c K δ N := h _ fun N' p => k N' p
theorem st_setV {i : Nat} {r : WS} (h : WV w δ N K.ex d P) (e : δ.set i (some d) = δ') (k : ∀ N', P N' → r K δ' N') : sSeq (sSet i w) r K δ N := h _ fun N' p => by subst e; exact k N' p
theorem st_dropV {r : WS} (h : WV w δ N K.ex d P) (k : ∀ N', P N' → r K δ N') : sSeq (sDrop w) r K δ N := h _ fun N' p => k N' p
theorem st_retV (h : WV w δ N K.ex d P) (k : ∀ N', P N' → K.rt d N') : sRet w K δ N := h _ fun N' p => k N' p
end
end DL
set_option maxHeartbeats 4000000
namespace DL
open PySem L2
theorem zip_fst_snd {α β : Type} : ∀ l : List (α × β), (l.map (·.1)).zip (l.map (·.2)) = l
  | [] => rfl
  | (a, b) :: l => by rw [List.map_cons, List.map_cons, List.zip_cons_cons, zip_fst_snd l]
theorem ix_dic {s : D} {k : Key} {n : Nat} (h : stpIx s (.key k) = some n) : ∃ ks xs, s = .dic ks xs ∧ idxOf_ k ks = some n := by
  cases s <;> first | (simp [stpIx] at h; done) | exact ⟨_, _, rfl, h⟩
theorem zip_snd_get {κ : Type} {ks : List κ} {vs : List V} {n : Nat} {u : V} (hl : ks.length = vs.length) (h : vs[n]? = some u) : ((ks.zip vs).map (·.2))[n]? = some u := by rw [zip_snd hl]; exact h
section
variable {X : Cx} {E : XK} {c c1 c2 : Cl} {pos p p2 pos2 : Pos} {rc : Bool}
def lKey (pl : PLF) (f : PF) : PLF := fun δ N => ⟨(pl δ N).ok ∧ (f δ N).ok ∧ isKey (f δ N).val, (pl δ N).a, (pl δ N).π ++ [.key (toK (f δ N).val)]⟩
theorem pl_dix {e idx : Expr} {pl : PLF} {f : PF} (hu : X.A.units + 64 < cLine) (hp : PLc X e pl) (hi : DP X c idx f) (hs : NoSl idx := by exact fun _ _ => rfl) : PLc X (.Subscript e idx pos) (lKey pl f) := by
  refine pe_imp (pe_dget (hu1 hu) hp hi hs) fun σ H Q h => ?_
  obtain ⟨δ, N, F, P, o, c, s, ⟨o1, o2, o3⟩, hNa, hs, q⟩ := h
  obtain ⟨s0, n, h1, h2, h3⟩ := sub_snoc hs
  refine ⟨δ, N, F, P, o, c, s0, o1, hNa, h1, fun u H1 e1 at1 => ?_⟩
  obtain ⟨ks, xs, rfl, hix⟩ := ix_dic h2
  obtain ⟨fp, r, _⟩ := o.nr _ _ hNa
  obtain ⟨f1, f0, f2, rs, _, _⟩ := at1.zip (r.ex e1)
  obtain ⟨q', vs, f', rfl, hq, rl, hl, rfl⟩ := rs
  refine ⟨δ, N, F, o.sr.ex e1, o.nr.ex e1, o2, fun v H2 fq e2 r2 k2 => ?_⟩
  have hw := r2.key_ o3
  subst hw
  obtain ⟨u, fu, g1, g2, _, _⟩ := rl.get (show xs[n]? = some s from h3)
  have hv : valV (ks.zip vs) (toK (f δ N).val) = some u := by rw [valV_zip, hix]; exact g1
  refine ⟨q', u, rfl, by rw [← hv]; exact DGet.k (e2 _ _ hq), q u H2 (e1.trans e2) ?_⟩
  exact (at1.ex e2).snoc h2 h3 (e2 _ _ hq) (zip_snd_get hl g1)
structure AVK where
  ok : Prop
  ks : List Key
  vals : List D
abbrev KF := Loc → Nm → AVK
def tKs (g : KF) : St → Hp → (List (V × V) → Hp → Prop) → Prop := fun σ H Q => ∃ δ N F, SRep F H σ δ ∧ NRep N H ∧ (g δ N).ok ∧ ∀ (kvs : List (Key × V)) H' fp, Ex H H' → RpL H' (g δ N).vals (kvs.map (·.2)) fp → kvs.map (·.1) = (g δ N).ks → Cl.frs.ok F H fp → Q (kvs.map fun kv => (kV kv.1, kv.2)) H'
def DPP (X : Cx) (pos : Pos) (keys : List (Option Expr)) (values : List Expr) (g : KF) : Prop := ∃ trs, PPs X pos keys values trs ∧ ∀ σ H Q, tKs g σ H Q → tPairs trs σ H Q
def kNil : KF := fun _ _ => ⟨True, [], []⟩
def kC (s : Str) (f : PF) (g : KF) : KF := fun δ N => ⟨(f δ N).ok ∧ (g δ N).ok, Sum.inr s :: (g δ N).ks, (f δ N).val :: (g δ N).vals⟩
theorem dpp_nil : DPP X pos [] [] kNil := ⟨[], pps_nil, fun σ H Q h => by
  obtain ⟨δ, N, F, hs, hn, ok, q⟩ := h
  exact q [] H [] (Ex.refl H) RpL.nil rfl Cl.nil⟩
theorem dpp_cons {s : Str} {j : Nat} {v : Expr} {ks : List (Option Expr)} {vs : List Expr} {f : PF} {g : KF} (hv : DP X .frs v f) (hr : DPP X pos ks vs g) : DPP X pos (some (.Constant (.str s) j p) :: ks) (v :: vs) (kC s f g) := by
  obtain ⟨trs, h1, h2⟩ := hr
  refine ⟨(tC (.str s), tP .frs f) :: trs, pps_cons pe_str hv h1, fun σ H Q h => ?_⟩
  obtain ⟨δ, N, F, hS, hn, ⟨o1, o2⟩, q⟩ := h
  refine ⟨δ, N, F, hS, hn, o1, fun y H1 fy e1 r1 k1 => h2 σ H1 _ ⟨δ, N, F, hS.ex e1, hn.ex e1, o2, fun kvs H2 fp e2 r2 ek k2 => ?_⟩⟩
  exact q ((Sum.inr s, y) :: kvs) H2 (fy ++ fp) (e1.trans e2) (RpL.cons (r1.ex e2) r2) (by rw [List.map_cons, ek]; rfl) (Cl.app e1 k1 (fun p hp => let ⟨o, ho, _⟩ := Rp.there _ _ _ r1 p hp; ⟨o, ho⟩) k2)
def pDisp (g : KF) : PF := fun δ N => ⟨(g δ N).ok ∧ (g δ N).ks.Nodup ∧ (g δ N).ks.length ≤ 15 ∧ (g δ N).ks.length = (g δ N).vals.length, .dic (g δ N).ks (g δ N).vals⟩
theorem dp_disp {keys : List (Option Expr)} {values : List Expr} {g : KF} (h : DPP X pos keys values g) (hall : keys.all (·.isSome) = true) (hl : keys.length = values.length) (h0 : keys ≠ []) (h15 : keys.length ≤ 15) : DP X c (.Dict keys values pos) (pDisp g) := by
  obtain ⟨trs, h1, h2⟩ := h
  refine pe_imp (pe_disp h1 hall hl h0 h15) fun σ H Q h => ?_
  obtain ⟨δ, N, F, hS, hn, ⟨o1, o2, o3, o4⟩, q⟩ := h
  intro p hp
  have ep : Ex H (upd H p (.dK [])) := Ex.new hp
  refine h2 σ _ _ ⟨δ, N, F, hS.ex ep, hn.ex ep, o1, fun kvs H2 fp e2 r2 ek k2 => ?_⟩
  have hp2 : H2 p = some (.dK []) := e2 p _ upd_same
  have hlen : kvs.length ≤ 15 := by rw [← List.length_map (f := (·.1)), ek]; exact o3
  have hm : mergeK [] kvs = kvs := mergeK_nodup (kvs := []) (by rw [List.nil_append, ek]; exact o2)
  refine ⟨hp2, kvs, rfl, hlen, ?_⟩
  rw [hm]
  have npf : p ∉ fp := fun z => by have := k2.2 p z; rw [upd_same] at this; cases this
  have hk : kvs = (g δ N).ks.zip (kvs.map (·.2)) := by rw [← ek]; exact (zip_fst_snd kvs).symm
  have E : Ex H (upd H2 p (.dK kvs)) := fun b o hb => by
    have : b ≠ p := fun z => by rw [z, hp] at hb; cases hb
    rw [upd_ne this]; exact e2 b o (by rw [upd_ne this]; exact hb)
  refine q _ _ (p :: fp) E ⟨p, kvs.map (·.2), fp, rfl, by rw [upd_same, ← hk], ?_, by rw [List.length_map, ← ek, List.length_map], rfl⟩ ?_
  · exact RpL.keep (fun b vs z => by rw [upd_ne (fun y => by rw [y, hp2] at z; cases z)]; exact z) _ _ _ r2 fun b hb => upd_ne fun y => npf (y ▸ hb)
  · refine Cl.frs_ ⟨List.nodup_cons.mpr ⟨npf, k2.1⟩, fun b hb => ?_⟩
    rcases List.mem_cons.mp hb with rfl | hb
    · exact hp
    · exact ep.free (k2.2 b hb)
def wIsN (w : WE) : WT := fun δ N Q E => w δ N (fun d N1 => Q (isN d) N1) E
def wNotN (w : WE) : WT := fun δ N Q E => w δ N (fun d N1 => Q (!isN d) N1) E
theorem dte_isN {a : Expr} {w : WE} {k p2} (ha : DE X E a w) : DTE X E (.Compare a [.Is] [.Constant .none k p2] pos) (wIsN w) := by
  refine pt_imp (pt_cmpR op_isN ha pe_non (nomark _)) fun σ H Q h => ?_
  obtain ⟨δ, N, F, P, Q', E', o, q', q, qe⟩ := h
  exact ⟨δ, N, F, P, _, E', o, q', fun v H1 F1 P1 d N1 fp t1 o1 r1 k1 q1 => ⟨rfl, _, rfl, by rw [r1.isN]; exact q _ H1 F1 P1 N1 t1 o1 q1⟩, qe⟩
theorem dte_notN {a : Expr} {w : WE} {k p2} (ha : DE X E a w) : DTE X E (.Compare a [.IsNot] [.Constant .none k p2] pos) (wNotN w) := by
  refine pt_imp (pt_cmpR op_notN ha pe_non (nomark _)) fun σ H Q h => ?_
  obtain ⟨δ, N, F, P, Q', E', o, q', q, qe⟩ := h
  exact ⟨δ, N, F, P, _, E', o, q', fun v H1 F1 P1 d N1 fp t1 o1 r1 k1 q1 => ⟨rfl, _, rfl, by rw [r1.isN]; exact q _ H1 F1 P1 N1 t1 o1 q1⟩, qe⟩
end
end DL
set_option maxHeartbeats 4000000
namespace DL
open PySem L2
section
variable {X : Cx} {E : XK} {c c1 c2 c3 : Cl} {pos p pos' np : Pos} {x : Str} {rc : Bool} {k n : Nat} {ps : List Str} {sp : SpD}
theorem de_callS {e : Expr} {es : List Expr} {f : AF} {E : St → XK} (h : HasX X x k ps (spM n sp)) (hr : Room k X.A) (hg : Gl X x) (hx : ∀ σ, PassesAt (L2.CX X.prog X.w) X σ (E σ)) (ha : DA X .cln (e :: es) f) (hdb : (x == ("__debug__" : Str)) = false := by decide)
    (he : starEach (e :: es) X.env = (false, eval e X.env) :: starEach es X.env := by rfl) (hpl : (backTo pos (starEach es X.env)).any (·.1) = false := by rfl) : PE X (.Call (.Name x p) (e :: es) [] pos) (fun σ H Q => tDE (E σ) (wCall n sp (wA f)) σ H Q) := by
  obtain ⟨f', fd, Fn, hm, hk, hb⟩ := h.ex
  refine pe_imp (pe_callS Fn hr hg hm hk hb hx ha hdb he hpl) fun σ H Q h => ?_
  obtain ⟨δ, N, F, P, Q', E', o, ⟨ok, q1⟩, q, qe⟩ := h
  refine ⟨δ, N, F, o.sr, o.nr, ok, fun vs H1 fp e1 r1 k1 => ?_⟩
  obtain ⟨o2, t2⟩ := cln_grow o e1 k1 (RpL.there _ _ _ r1)
  refine ⟨_, N, _, P, Q', E', fp, q1.1, o2.wf, r1, (fun p hp => .inr hp), q1.2, fun v H2 F2 P2 d N2 fq t3 w2 r2 k2 q2 => ?_, qe.tr t2⟩
  exact q v H2 F2 P2 d N2 fq (t2.trans t3) (o2.after t3 w2) r2 k2 q2
theorem dss_retS {e : Expr} {w : WE} {E : St → XK} (h : PE X e (fun σ H Q => tDE (E σ) w σ H Q)) : PSs X [.Return (some e) pos] (fun D σ H => tDS (E σ) false (sRet w) D σ H) := pss_imp (pss_one (ps_ret h)) fun D σ H h => by
  obtain ⟨δ, N, F, P, K, o, q, e⟩ := h
  exact ⟨δ, N, F, P, _, K.ex, o, q, fun v H1 F1 P1 d N1 fp t1 o1 r1 k1 q1 => e.rt v H1 F1 P1 d N1 fp t1 o1.wf r1 (by unfold RtC; rw [if_neg Bool.false_ne_true]; exact k1) q1, e.ex⟩
def sTry (CX : Str → Addr) (names : List Str) (w ws : WS) : WS := fun K δ N => w { K with ex := fun x N' => (∃ s ∈ names, x.cls = CX s) ∧ ws K δ N' } δ N
theorem ds_try_only {names : List Str} {CX : Str → Addr} {C : Addr} {body suite : List Stmt} {b₀ : Stmt} {w ws : WS} (hs : X.stack = X.env :: X.outer) (hf : X.env.frame = some X.env.locals) (hc : Names X x (.ref C)) (tk : Takes X (fun cls d _ H => E cls d H))
    (hn : ∀ s ∈ names, PySem.W.exmOne X.K (.ref (CX s)) (.ref C) = some true)
    (hb : ∀ (E' : St → XK) (pn : List (Addr × Obj)) (xe : Value → Shared → Prop), (∀ σ, PassesAt (L2.CX X.prog X.w) (X.tr pn xe) σ (E' σ)) → PSs (X.tr pn xe) body (fun D σ H => tDS (E' σ) rc w D σ H))
    (hsu : ∀ (a : Addr) (pn : List (Addr × Obj)), DSs (X.suite a pn) E rc (b₀ :: suite) ws) :
    DS X E rc (.Try body [.ExceptHandler (some (.Name x np)) none (b₀ :: suite) pos'] [] [] pos) (sTry CX names w ws) := by
  refine ps_imp (ps_try_only (tb := fun W D σ H => tDS (fun cls d H => W cls d σ H) rc w D σ H) (ts := fun _ _ _ => tDS E rc ws) hs hf hc tk (fun W pn xe tk' _ => hb (fun σ cls d H => W cls d σ H) pn xe fun σ => passAt tk' σ) (fun a oe cls d pn _ _ => hsu a _)) fun D σ H h => ?_
  obtain ⟨δ, N, F, P, K, o, q, e⟩ := h
  refine ⟨δ, N, F, P, _, o, q, ⟨e.nx, e.bk, e.ct, e.rt, fun x cls dd H' F' P' N' t' w' r hx => ?_⟩⟩
  obtain ⟨⟨s, hs, ec⟩, hws⟩ := hx
  refine ⟨true, ?_, fun _ a _ => ⟨δ, N', F', P', K, o.after t' w', hws, e.tr t'⟩, fun z => by cases z⟩
  rw [r.1, ec]
  exact hn s hs
end
end DL
set_option maxHeartbeats 4000000
namespace DL
open PySem L2
section
variable {X : Cx} {c c1 : Cl} {pos p : Pos}
theorem call_lenDI : CallR X (.builtin "len") (fun xs H Q => ∃ (a : Addr) (kvs : List (Key × V)), xs = [.ref a] ∧ Rd H a (.dK kvs) ∧ Q (.int ((kvs.length : Nat) : Int)) H) := by
  intro pins s σ H xs us Q I r h
  obtain ⟨a, kvs, rfl, hp, q⟩ := h
  obtain ⟨u, rfl, rx⟩ := vals1 r
  obtain rfl : u = .ref a := rx
  obtain ⟨z, lo, vs, rel, dd⟩ := dk_rd I.hok hp
  have hl : kvs.length = vs.length := by
    have := congrArg List.length rel.keys
    rwa [List.length_map, List.length_map] at this
  refine PySem.call_len_dict lo dd (by rw [← hl]; rw [sizeLine_eq] at z; omega) ?_
  rw [← hl]
  exact ⟨.int ((kvs.length : Nat) : Int), H, I.tok _, ⟨_, rfl⟩, q⟩
def lenkD (d : D) : PV := ⟨IsDic d, .int (toKs d).length⟩
theorem dp_lenD {a : Expr} {f : PF} (hg : Gl X "len") (hm : X.mg "len" = none) (ha : DP X c1 a f) (hs : starEach [a] X.env = (false, eval a X.env) :: starEach [] X.env := by rfl) : DP X c (.Call (.Name "len" p) [a] [] pos) (p1 lenkD f) :=
  cb1 (hf := lenkD) (fun h => pe_callB call_lenDI hg hm boot_len h (he := hs) (hpl := by rfl)) ha (fun F H H1 d v fp Q e1 r k ok q => by
    obtain ⟨pp, vs, f', rfl, hp, rl, hl, rfl⟩ := r.dic_ ok
    refine ⟨_, _, rfl, .inl hp, ?_⟩
    have e : ((toKs d).zip vs).length = (toKs d).length := by rw [List.length_zip, hl, Nat.min_self]
    rw [e]
    exact q _ H1 [] (Ex.refl _) ⟨rfl, rfl⟩ Cl.nil) hs
end
def wtr (N : Nm) : Nm := fun b => match N b with
  | some c => if c.w = true then some c else none
  | none => none
theorem wtr_iff {N : Nm} {b : Addr} {c : Cell} : wtr N b = some c ↔ N b = some c ∧ c.w = true := by
  unfold wtr
  cases h : N b with
  | none => simp
  | some e =>
    by_cases hw : e.w = true
    · simp only [hw, if_true]
      exact ⟨fun z => (by cases z; exact ⟨rfl, hw⟩), fun z => z.1⟩
    · simp only [hw]
      exact ⟨fun z => (by cases z), fun z => (by obtain ⟨z1, z2⟩ := z; cases z1; exact absurd z2 hw)⟩
theorem Ok.wtr {δ : Loc} {N : Nm} {F P : Addr → Prop} {σ : St} {H : Hp} (o : Ok δ N F P σ H) : Ok δ (wtr N) F P σ H := by
  obtain ⟨⟨fpm, w⟩, sr⟩ := o
  exact ⟨⟨fpm, fun a c h => w.cell a c (wtr_iff.mp h).1, fun a c h => w.own a c (wtr_iff.mp h).1, fun a b c e n h1 h2 h3 => w.sep a b c e n (wtr_iff.mp h1).1 h2 (wtr_iff.mp h3).1, w.fr, w.pr⟩, sr⟩
theorem Tr.track {F P F' P' : Addr → Prop} {H H' : Hp} {D : Addr} {o : HO} (t : Tr F P H F' P' H') (hF : ¬ F D) (hP : ¬ P D) (h : H D = some o) : ¬ F' D ∧ ¬ P' D ∧ H' D = some o :=
  ⟨fun z => (t.fw D z).elim hF fun z => z.elim hP fun z => (by rw [h] at z; cases z), fun z => (t.pw D z).elim hP fun z => (by rw [h] at z; cases z), t.st D o h hP⟩
theorem Tr.updD {F P F' P' : Addr → Prop} {H H' : Hp} {D : Addr} {o : HO} (t : Tr F P H F' P' H') (h : H D = none) : Tr F P H F' P' (upd H' D o) := by
  refine ⟨t.fr, fun p ob hp n => ?_, fun p ob hp => ?_, t.pw, t.fw⟩
  · rw [upd_ne (fun z => by rw [z, h] at hp; cases hp)]; exact t.st p ob hp n
  · rw [upd_ne (fun z => by rw [z, h] at hp; cases hp)]; exact t.th p ob hp
theorem tup_updD {H : Hp} {D : Addr} {vs ws : List V} (h : H D = some (.lst vs)) : ∀ p us, H p = some (.tup us) → upd H D (.lst ws) p = some (.tup us) := fun p us q => by
  rw [upd_ne (fun z => by rw [z, h] at q; cases q)]; exact q
theorem Ok.updD {δ : Loc} {N : Nm} {F P : Addr → Prop} {σ : St} {H : Hp} {D : Addr} {vs ws : List V} (o : Ok δ N F P σ H) (hw : ∀ b c, N b = some c → c.w = true) (hF : ¬ F D) (hP : ¬ P D) (h : H D = some (.lst vs)) : Ok δ N F P σ (upd H D (.lst ws)) := by
  obtain ⟨⟨fpm, w⟩, sr⟩ := o
  have th : ∀ p, (∃ o, H p = some o) → ∃ o, upd H D (.lst ws) p = some o := fun p ⟨o, ho⟩ => by
    by_cases e : p = D
    · subst e; exact ⟨_, upd_same⟩
    · exact ⟨o, by rw [upd_ne e]; exact ho⟩
  refine ⟨⟨fpm, fun a c hc => ⟨Rp.keep (tup_updD h) _ _ _ (w.cell a c hc).1 fun p hp => ?_, (w.cell a c hc).2⟩, w.own, w.sep, fun p hp => ⟨(w.fr p hp).1, th p (w.fr p hp).2⟩, fun p hp => ?_⟩, ⟨sr.len, fun p hp => th p (sr.fr p hp), fun i d hd => ?_⟩⟩
  · exact upd_ne fun z => (by subst z; exact hP ((w.own a c hc (hw a c hc)).2 p hp))
  · rw [upd_ne (fun z => (by subst z; exact hP hp))]; exact w.pr p hp
  · obtain ⟨v, fp, h1, h2, h3⟩ := sr.at_ i d hd
    exact ⟨v, fp, h1, Rp.keep (tup_updD h) _ _ _ h2 fun p hp => upd_ne fun z => hF (z ▸ h3 p hp), h3⟩
def lcCW (G : GF) (wt : WT) (we : WE) (δ0 : Loc) (Q : D → Nm → Prop) : List D → List D → Nm → Prop
  | acc, [], N => Q (.lst acc) N
  | acc, d :: ds, N => (G d δ0).ok ∧ wt (G d δ0).loc N (fun b N2 => if b = true then we (G d δ0).loc N2 (fun y N3 => acc.length < SZ ∧ lcCW G wt we δ0 Q (acc ++ [y]) ds (wtr N3)) E9
      else lcCW G wt we δ0 Q acc ds (wtr N2)) E9
def wLcC (wi : WA) (G : GF) (wt : WT) (we : WE) (vs : List Nat) : WE := fun δ N Q E => wi δ N (fun items N1 => lcCW G wt we (wipeD δ vs) Q [] items (wtr N1)) E
theorem lcCE_rd {E : XK} {vs0 : List Nat} {wi : WA} {sl : List Nat} {G : GF} {wt : WT} {we : WE} (hsl : ∀ i ∈ sl, i ∈ vs0) (σ : St) (H : Hp) (Q : VK) (h : tDE E (wLcC wi G wt we vs0) σ H Q) :
    tLc (tIE E wi) (tG sl G) (tDT E0 wt) (tDE E0 we) vs0 σ H Q := by
  obtain ⟨δ, N, F, P, Q', E', o, q', q, qe⟩ := h
  refine ⟨δ, N, F, P, _, E', o, q', fun J H1 F1 P1 items N1 fs t1 o1 wk kf q1 => ?_, qe⟩
  intro D hD
  have hDF : ¬ F1 D := fun z => by obtain ⟨_, ob, h⟩ := o1.fr D z; rw [hD] at h; cases h
  have hDP : ¬ P1 D := fun z => by obtain ⟨ob, h, _⟩ := o1.pr D z; rw [hD] at h; cases h
  obtain ⟨oD, tD⟩ := o1.wtr.ex (Ex.new (o := .lst []) hD)
  have ow : Ok (wipeD δ vs0) (wtr N1) F1 P1 (wipe σ vs0) (upd H1 D (.lst [])) := ⟨oD.wf, oD.sr.wipe vs0⟩
  refine ⟨fun i m H3 => m = items.length - i ∧ i ≤ items.length ∧ ∃ N3 F3 P3 acc vs fa, Tr F1 P1 H1 F3 P3 H3 ∧ Ok (wipeD δ vs0) N3 F3 P3 (wipe σ vs0) H3 ∧ (¬ F3 D ∧ ¬ P3 D ∧ H3 D = some (.lst vs)) ∧ RpL H3 acc vs fa ∧ (∀ p ∈ fa, F3 p) ∧ lcCW G wt we (wipeD δ vs0) Q' acc (items.drop i) N3,
    ⟨items.length, by simp, Nat.zero_le _, _, _, _, [], [], [], tD, ow, ⟨hDF, hDP, upd_same⟩, RpL.nil, by simp, q1⟩, ?_⟩
  rintro i m H3 ⟨rfl, hi', N3, F3, P3, acc, vs, fa, t3, o3, ⟨d1, d2, d3⟩, rl, kfa, q3⟩
  obtain ⟨wgo, wstop⟩ := wk i H3 (o1.kp t3 kf)
  by_cases hlt : i < items.length
  · obtain ⟨d, hd⟩ : ∃ d, items[i]? = some d := ⟨items[i], by simp [hlt]⟩
    have edrop : items.drop i = d :: items.drop (i + 1) := by
      rw [List.drop_eq_getElem_cons hlt]
      congr 1
      have := List.getElem?_eq_getElem hlt
      rw [hd] at this; exact (Option.some.inj this).symm
    rw [edrop] at q3
    obtain ⟨og, qb⟩ := q3
    obtain ⟨go, yl⟩ := wgo d hd
    refine .inr ⟨go, fun H' => ∃ N3 F3 P3 acc vs fa, Tr F1 P1 H1 F3 P3 H' ∧ Ok (wipeD δ vs0) N3 F3 P3 (wipe σ vs0) H' ∧ (¬ F3 D ∧ ¬ P3 D ∧ H' D = some (.lst vs)) ∧ RpL H' acc vs fa ∧ (∀ p ∈ fa, F3 p) ∧ lcCW G wt we (wipeD δ vs0) Q' acc (items.drop (i + 1)) N3,
      fun H' hh => ⟨items.length - (i + 1), by omega, rfl, hlt, hh⟩, fun x H' y => ?_⟩
    obtain ⟨e4, f, rx, fsub⟩ := yl x H' y
    obtain ⟨o4, t4⟩ := o3.ex e4
    obtain ⟨_, _, d4⟩ := t4.track d1 d2 d3
    have rl4 := o3.keepL t4 rl kfa
    refine ⟨wipeD δ vs0, F3, d, f, o4.sr, rx, fun p hp => t3.fr p (kf p (fsub p hp)), og, fun σ2 s2 hl2 ks => ⟨?_, ?_⟩⟩
    · rw [wipe_eq hl2 ks hsl, wipe_wipe]
    refine ⟨_, N3, F3, P3, _, E9, ⟨o4.wf, s2⟩, qb, fun b H5 F5 P5 N5 t5 o5 q5 => ?_, fun x cls dd H' F' P' N' t w r z => z.elim⟩
    have k5 := t5.track d1 d2 d4
    have rl5 := o4.keepL t5 rl4 kfa
    have f5 : ∀ p ∈ fa, F5 p := fun p hp => t5.fr p (kfa p hp)
    cases b with
    | false =>
      refine (if_neg Bool.false_ne_true).mpr ⟨_, F5, P5, acc, vs, fa, (t3.trans t4).trans t5, (o4.after t5 o5.wf).wtr, k5, rl5, f5, ?_⟩
      simpa using q5
    | true =>
      refine (if_pos rfl).mpr ?_
      simp only [if_true] at q5
      refine ⟨_, N5, F5, P5, _, E9, o5, q5, fun y H6 F6 P6 dy N6 fy t6 o6 ry ky q6 => ?_, fun x cls dd H' F' P' N' t w r z => z.elim⟩
      obtain ⟨hz, q7⟩ := q6
      obtain ⟨k6, k7, k8⟩ := t6.track k5.1 k5.2.1 k5.2.2
      have rl6 := o5.keepL t6 rl5 f5
      have o7 : Ok (wipeD δ vs0) N6 F6 P6 (wipe σ vs0) H6 := o4.after (t5.trans t6) o6.wf
      have hfa : ∀ p ∈ fa ++ fy, F6 p := fun p hp => by
        rcases List.mem_append.mp hp with hp | hp
        · exact t6.fr p (f5 p hp)
        · exact ky p hp
      refine ⟨vs, k8, Nat.lt_of_lt_of_le (by rw [← rl.length]; exact hz) (sz (Nat.le_refl _)), wtr N6, F6, P6, acc ++ [dy], vs ++ [y], fa ++ fy, ((((t3.trans t4).trans t5).trans t6)).updD hD, o7.wtr.updD (fun b c hb => (wtr_iff.mp hb).2) k6 k7 k8, ⟨k6, k7, upd_same⟩, ?_, hfa, q7⟩
      have ra : RpL H6 (acc ++ [dy]) (vs ++ [y]) (fa ++ fy) := by simpa using RpL.append rl6 (RpL.one ry)
      exact RpL.keep (tup_updD k8) _ _ _ ra fun p hp => upd_ne fun z => k6 (z ▸ hfa p hp)
  · have ei : i = items.length := by omega
    subst ei
    rw [List.drop_length] at q3
    obtain ⟨⟨fpm, w⟩, sr⟩ := o3
    refine .inl ⟨wstop (Nat.le_refl _), q (.ref D) H3 (fun p => F3 p ∨ p = D) P3 (.lst acc) N3 (D :: fa) ?_ ?_ ⟨D, vs, fa, rfl, d3, rl, rfl⟩ ?_ q3⟩
    · have t := t1.trans t3
      refine ⟨fun p hp => .inl (t.fr p hp), t.st, t.th, t.pw, fun p hp => ?_⟩
      rcases hp with hp | rfl
      · exact t.fw p hp
      · cases hh : H p with
        | none => exact .inr (.inr rfl)
        | some ob => obtain ⟨o', ho'⟩ := t1.th p ob hh; rw [hD] at ho'; cases ho'
    · refine o1.after (F' := fun p => F3 p ∨ p = D) (P' := P3) ⟨fun p hp => .inl (t3.fr p hp), t3.st, t3.th, t3.pw, fun p hp => ?_⟩ ⟨fpm, w.cell, w.own, w.sep, fun p hp => ?_, w.pr⟩
      · rcases hp with hp | rfl
        · exact t3.fw p hp
        · exact .inr (.inr hD)
      · rcases hp with hp | rfl
        · exact w.fr p hp
        · exact ⟨d2, _, d3⟩
    · intro p hp
      rcases List.mem_cons.mp hp with rfl | hp
      · exact .inr rfl
      · exact .inl (kfa p hp)
section
variable {X : Cx} {E : XK} {c c1 : Cl} {pos p p2 pos2 : Pos} {tg iter elt : Expr} {ifs : List Expr} {scope : Scope} {own : List (Str × Nat)} {wi : WA} {sl : List Nat} {G : GF} {wt : WT} {we : WE} {rc : Bool}
theorem de_lcC (hc : X.calm = true) (hN : X.N.Nodup) (hi : DIE X E tg iter wi) (ok : BlkOk X.N X.env.scope scope own) (hsl : ∀ i ∈ sl, i ∈ own.map (·.2))
    (hg : ∀ (s : Shared) (H : Hp) (C : Addr) (cl : List (Str × Addr)) (fp : List Addr), DG (X.blk s H scope (compEnvC scope cl C X.env) fp) tg sl G)
    (ht : ∀ (s : Shared) (H : Hp) (C : Addr) (cl : List (Str × Addr)) (fp : List Addr), PTs (X.blk s H scope (compEnvC scope cl C X.env) fp) ifs (tDT E0 wt))
    (he : ∀ (s : Shared) (H : Hp) (C : Addr) (cl : List (Str × Addr)) (fp : List Addr), DE (X.blk s H scope (compEnvC scope cl C X.env) fp) E0 elt we) (hs : ∀ x, foldedSetIterable iter X.env x = pure x := by intro _; rfl) :
    DE X E (.ListComp elt [⟨tg, iter, ifs, 0⟩] scope pos) (wLcC wi G wt we (own.map (·.2))) := pe_imp (pe_lc hc hN hi ok hg ht he hs) (lcCE_rd hsl)
end
end DL
set_option maxHeartbeats 4000000
namespace DL
open PySem L2
theorem NRep.rd {N : Nm} {H : Hp} {d : D} {v : V} {fp : List Addr} (o : NRep N H) (r : Rp H d v fp) : ∃ fq, Rp H (drf N d) v fq := by
  cases d with
  | ref a =>
    cases hN : N a with
    | none => exact ⟨fp, by simp only [drf, hN]; exact r⟩
    | some cc =>
      obtain ⟨fq, hq, _⟩ := o a cc hN
      have ev : v = .ref a := r.1
      subst ev
      exact ⟨fq, by simp only [drf, hN]; exact hq⟩
  | _ => exact ⟨fp, r⟩
def m3 (d : D) : D := (toL d).getD 3 .non
def IsMo (m : D) : Prop := IsI m ∨ m = .non
def pMoK (C : Addr) (x : Str) (i j k : Nat) : PF := fun δ N =>
  ⟨k < δ.length ∧ (lk δ i).isSome = true ∧ (lk δ j).isSome = true ∧ (fldD C x (drf N ((lk δ i).getD .non))).ok ∧ IsDic (fldD C x (drf N ((lk δ i).getD .non))).val ∧ (toKs (fldD C x (drf N ((lk δ i).getD .non))).val).Nodup ∧ (toKs (fldD C x (drf N ((lk δ i).getD .non))).val).length < SZ ∧ IsI ((lk δ j).getD .non) ∧
    ∀ d ∈ kids (fldD C x (drf N ((lk δ i).getD .non))).val, ∃ a b c m, d = .tup [a, b, c, m] ∧ IsMo m,
   .lst ((((toKs (fldD C x (drf N ((lk δ i).getD .non))).val).zip (kids (fldD C x (drf N ((lk δ i).getD .non))).val)).filter fun kd => eqD (m3 kd.2) ((lk δ j).getD .non)).map fun kd => kD kd.1)⟩
theorem Rp.kD {H : Hp} (k : Key) : Rp H (kD k) (kV k) [] := by cases k <;> exact ⟨rfl, rfl⟩
theorem RpL.kDs {H : Hp} : ∀ (ks : List (Key × D)), RpL H (ks.map fun kd => DL.kD kd.1) (ks.map fun kd => kV kd.1) []
  | [] => RpL.nil
  | k :: ks => ⟨kV k.1, _, [], [], rfl, Rp.kD k.1, RpL.kDs ks, rfl⟩
theorem valV_at {ks : List Key} {ws : List V} {n : Nat} {k : Key} {w : V} : ks.Nodup → ks[n]? = some k → ws[n]? = some w → valV (ks.zip ws) k = some w := by
  intro nd h1 h2
  rw [valV_zip]
  have : ∀ {ks : List Key} {n : Nat}, ks.Nodup → ks[n]? = some k → idxOf_ k ks = some n := by
    intro ks
    induction ks with
    | nil => intro n _ h; simp at h
    | cons z ks ih =>
      intro n nd h
      obtain ⟨n1, n2⟩ := List.nodup_cons.mp nd
      cases n with
      | zero =>
        simp at h; subst h
        simp [idxOf_]
      | succ n =>
        rw [List.getElem?_cons_succ] at h
        have hne : z ≠ k := fun e => n1 (e ▸ List.mem_of_getElem? h)
        simp [idxOf_, hne, ih n2 h]
  have := this nd h1
  rw [this]; exact h2
theorem Rp.mo {H H' : Hp} {m : D} {v : V} {fp : List Addr} (h : IsMo m) (r : Rp H m v fp) : Rp H' m v [] ∧ okD 8 m := by
  rcases h with h | rfl
  · cases m <;> first | exact h.elim | skip
    exact ⟨⟨r.1, rfl⟩, trivial⟩
  · exact ⟨⟨r.1, rfl⟩, trivial⟩
section
variable {X : Cx} {c : Cl} {pos p1 p2 p3 p4 p5 p6 p7 p8 p9 p10 p11 p12 : Pos} {C : Addr} {scope : Scope}
theorem dp_moK {x y sf st : Str} {i j k : Nat} {c9 : Nat} (hC : Cls X.K C) (hn : NoAttr X.K C x) (hu : X.A.units + 64 < cLine) (hc : X.calm = true) (hN : X.N.Nodup) (hi : X.N[i]? = some sf) (hj : X.N[j]? = some st) (hk : X.N[k]? = some y) (hik : i ≠ k) (hjk : j ≠ k)
    (hvi : Vis X.env.scope sf) (vsf : Vis (relabel scope X.env) sf) (vst : Vis (relabel scope X.env) st) (vy : Vis (relabel scope X.env) y) (ly : L2.Loc (relabel scope X.env) y) (ok : BlkOk X.N X.env.scope scope [(y, k)]) (fy : (relabel scope X.env).names.lookup y = some .local)
    (dsf : (sf == ("__debug__" : Str)) = false) (csf : (sf == ("__classdict__" : Str)) = false) (dst : (st == ("__debug__" : Str)) = false) (cst : (st == ("__classdict__" : Str)) = false) (dy : (y == ("__debug__" : Str)) = false) (cy : (y == ("__classdict__" : Str)) = false) :
    DP X c (.ListComp (.Name y p1) [⟨.Name y p2, .Attribute (.Name sf p3) x p4, [.Compare (.Subscript (.Subscript (.Attribute (.Name sf p5) x p6) (.Name y p7) p8) (.Constant (.int 3) c9 p9) p10) [.Eq] [.Name st p11] p12], 0⟩] scope pos) (pMoK C x i j k) := by
  have hS : ∀ s H D cl fp, PE (X.blk s H scope (compEnvC scope cl D X.env) fp) (.Attribute (.Name sf p5) x p6) (tFld X.K (tVar i) x) := fun s H D cl fp => pe_fld (pe_var (X := X.blk s H scope (compEnvC scope cl D X.env) fp) hi vsf dsf csf) rfl
  have hY : ∀ s H D cl fp p, PE (X.blk s H scope (compEnvC scope cl D X.env) fp) (.Name y p) (tVar k) := fun s H D cl fp p => pe_var (X := X.blk s H scope (compEnvC scope cl D X.env) fp) hk vy dy cy
  have hT : ∀ s H D cl fp, PT (X.blk s H scope (compEnvC scope cl D X.env) fp) (.Compare (.Subscript (.Subscript (.Attribute (.Name sf p5) x p6) (.Name y p7) p8) (.Constant (.int 3) c9 p9) p10) [.Eq] [.Name st p11] p12) (tTest (tOp (rEqD X.K) (tOp (rIxT X.K) (tDGet (tFld X.K (tVar i) x) (tVar k)) (tC (.int 3))) (tVar j))) := fun s H D cl fp =>
    pt_cmpR (X := X.blk s H scope (compEnvC scope cl D X.env) fp) (op_eqD (X := X.blk s H scope (compEnvC scope cl D X.env) fp) hu) (pe_ix (X := X.blk s H scope (compEnvC scope cl D X.env) fp) ix_tup (pe_dget (X := X.blk s H scope (compEnvC scope cl D X.env) fp) (hu1 hu) (hS s H D cl fp) (hY s H D cl fp p7) (fun _ _ => rfl)) pe_int (fun _ _ => rfl)) (pe_var (X := X.blk s H scope (compEnvC scope cl D X.env) fp) hj vst dst cst) (nomark _)
  have hR : PE X (.Attribute (.Name sf p3) x p4) (tFld X.K (tVar i) x) := pe_fld (pe_var hi hvi dsf csf) rfl
  refine pe_imp (pe_lock (pe_lc (own := [(y, k)]) hc hN (pi_keys (tg := .Name y p2) hR) ok (g := gName k) (fun s H D cl fp => pg_name (X := X.blk s H scope (compEnvC scope cl D X.env) fp) hN hk ly (.inr fy)) (fun s H D cl fp => pts_one (hT s H D cl fp)) (fun s H D cl fp => hY s H D cl fp p1))) fun σ H Q h => ?_
  obtain ⟨δ, N, F, hS, hn', ⟨okl, oi, oj, of, od, ond, osz, os, oe⟩, q⟩ := h
  obtain ⟨di, ei⟩ := Option.isSome_iff_exists.mp oi
  obtain ⟨dj, ej⟩ := Option.isSome_iff_exists.mp oj
  simp only [pMoK, ei, ej, Option.getD_some] at of od ond osz os oe q
  obtain ⟨v0, f0, hv0, r0, _⟩ := hS.at_ i di (lk_get ei)
  obtain ⟨vj, fj, hvj, rj, _⟩ := hS.at_ j dj (lk_get ej)
  obtain ⟨fq, r1⟩ := hn'.rd r0
  generalize drf N di = ob at r1 of od ond osz oe q
  cases ob <;> first | exact of.elim | skip
  rename_i C' dx ns xs
  obtain ⟨a, vs, f', rfl, ha, rl, hl, rfl⟩ := r1
  obtain ⟨rfl, hi2⟩ := of
  simp only [fldD] at hi2 od ond osz oe q
  cases e2 : idxOf_ x ns with
  | none => rw [e2] at hi2; simp at hi2
  | some n =>
    rw [e2] at hi2 od ond osz oe q
    cases e3 : xs[n]? with
    | none => simp [e3] at hi2
    | some dd =>
      obtain ⟨u, fu, g1, g2, g3, g4⟩ := rl.get e3
      simp only [e3, Option.bind_some, Option.getD_some] at od ond osz oe q
      obtain ⟨p, ws, f2, rfl, hp, rl2, hl2, rfl⟩ := g2.dic_ od
      have hlook := lookup_zip e2 g1
      have hpa : p ≠ a := fun z => by rw [z, ha] at hp; cases hp
      obtain ⟨P, hP⟩ : ∃ P, P = (toKs dd).zip (kids dd) := ⟨_, rfl⟩
      rw [← hP] at q
      have hPl : P.length = (toKs dd).length := by rw [hP, List.length_zip, rl2.length, hl2, Nat.min_self]
      have hkl : ((toKs dd).zip ws).length = (toKs dd).length := by rw [List.length_zip, hl2, Nat.min_self]
      obtain ⟨rj1, okj⟩ := Rp.mo (H' := H) (.inl os) rj
      refine ⟨p, .dK ((toKs dd).zip ws), hp, trivial, fun od' => ?_⟩
      refine ⟨.ref a, hv0, a, C', dx, _, .ref p, rfl, by rw [upd_ne (Ne.symm hpa)]; exact ha, hC, hn, hlook, p, od', rfl, .inl ⟨_, upd_same, fun D hD => ?_⟩⟩
      have hDp : D ≠ p := fun z => by rw [z, upd_same] at hD; cases hD
      have hD0 : H D = none := by rw [upd_ne hDp] at hD; exact hD
      have hDa : a ≠ D := fun z => by rw [← z, ha] at hD0; cases hD0
      refine ⟨fun i' m H3 => m = P.length - i' ∧ i' ≤ P.length ∧ H3 = upd (upd H p (.frz od' (.dK ((toKs dd).zip ws)))) D (.lst (((P.take i').filter fun kd => eqD (m3 kd.2) dj).map fun kd => kV kd.1)), ⟨P.length, rfl, Nat.zero_le _, rfl⟩, ?_⟩
      rintro i' m H3 ⟨rfl, hle, rfl⟩
      have h3p : upd (upd H p (.frz od' (.dK ((toKs dd).zip ws)))) D (.lst (((P.take i').filter fun kd => eqD (m3 kd.2) dj).map fun kd => kV kd.1)) p = some (.frz od' (.dK ((toKs dd).zip ws))) := by rw [upd_ne (Ne.symm hDp), upd_same]
      by_cases hlt : i' < P.length
      · refine .inr ⟨⟨h3p, by rw [hkl, ← hPl]; exact hlt⟩, fun H' => H' = upd (upd H p (.frz od' (.dK ((toKs dd).zip ws)))) D (.lst (((P.take (i' + 1)).filter fun kd => eqD (m3 kd.2) dj).map fun kd => kV kd.1)), fun H' e => ⟨P.length - (i' + 1), by omega, rfl, hlt, e⟩, fun xk H' yl => ?_⟩
        obtain ⟨rfl, key, w, hkw, rfl⟩ := yl
        obtain ⟨hkey, hw⟩ := List.getElem?_zip_eq_some.mp hkw
        have hdl : i' < (kids dd).length := by rw [rl2.length, ← hl2, ← hPl]; exact hlt
        obtain ⟨d, hd⟩ : ∃ d, (kids dd)[i']? = some d := ⟨_, List.getElem?_eq_getElem hdl⟩
        have hPi : P[i']? = some (key, d) := by rw [hP]; exact List.getElem?_zip_eq_some.mpr ⟨hkey, hd⟩
        obtain ⟨w', fw, hw', rw', _, _⟩ := rl2.get hd
        obtain rfl : w' = w := by rw [hw] at hw'; exact (Option.some.inj hw').symm
        obtain ⟨d0, d1, d2, dm, rfl, hmo⟩ := oe d (List.mem_of_getElem? hd)
        obtain ⟨t, us, rfl, ht, ru⟩ := rw'
        obtain ⟨u3, f3, hu3, r3, _, _⟩ := ru.get (i := 3) (d := dm) rfl
        obtain ⟨r3', ok3⟩ := Rp.mo (H' := upd (upd H p (.frz od' (.dK ((toKs dd).zip ws)))) D (.lst (((P.take i').filter fun kd => eqD (m3 kd.2) dj).map fun kd => kV kd.1))) hmo r3
        obtain ⟨rj', _⟩ := Rp.mo (H' := upd (upd H p (.frz od' (.dK ((toKs dd).zip ws)))) D (.lst (((P.take i').filter fun kd => eqD (m3 kd.2) dj).map fun kd => kV kd.1))) (.inl os) rj
        have htp : t ≠ p := fun z => by rw [z, hp] at ht; cases ht
        have htD : t ≠ D := fun z => by rw [z, hD0] at ht; cases ht
        have hkσ : k < σ.length := by rw [← hS.len]; exact okl
        have s2i : ((wipe σ [k]).set k (some (kV key)))[i]? = some (some (.ref a)) := by
          show ((σ.set k none).set k _)[i]? = _
          rw [List.getElem?_set_ne (Ne.symm hik), List.getElem?_set_ne (Ne.symm hik)]; exact hv0
        have s2j : ((wipe σ [k]).set k (some (kV key)))[j]? = some (some vj) := by
          show ((σ.set k none).set k _)[j]? = _
          rw [List.getElem?_set_ne (Ne.symm hjk), List.getElem?_set_ne (Ne.symm hjk)]; exact hvj
        have s2k : ((wipe σ [k]).set k (some (kV key)))[k]? = some (some (kV key)) := by
          show ((σ.set k none).set k _)[k]? = _
          rw [List.getElem?_set_self (by rw [List.length_set]; exact hkσ)]
        have etk : P.take (i' + 1) = P.take i' ++ [(key, .tup [d0, d1, d2, dm])] := by rw [List.take_succ, hPi]; rfl
        refine ⟨by show ((σ.set k none).set k _).set k none = σ.set k none; rw [List.set_set, List.set_set], .ref a, s2i, a, C', dx, _, .ref p, rfl, by rw [upd_ne hDa, upd_ne (Ne.symm hpa)]; exact ha, hC, hn, hlook, kV key, s2k, p, .ref t, rfl, .inl ⟨_, key, .inr ⟨od', h3p⟩, rfl, (valV_at ond hkey hw).symm⟩, t, us, 3, u3, rfl, rfl, SqT.of (by rw [upd_ne htD, upd_ne htp]; exact ht), by rw [show (3 : Int) = ((3 : Nat) : Int) from rfl, atI_nat]; exact hu3, vj, s2j, toPy dm, toPy dj, Rp.dp 8 _ _ _ r3' ok3, Rp.dp 8 _ _ _ rj' okj, ok3.shaped (by decide), okj.shaped (by decide), _, rfl, ?_⟩
        by_cases hb : eqD dm dj = true
        · refine (if_pos hb).mpr ⟨kV key, s2k, _, upd_same, ?_, ?_⟩
          · rw [List.length_map]
            have h1 := List.length_filter_le (fun kd : Key × DL.D => eqD (m3 kd.2) dj) (P.take i')
            have h2 : (P.take i').length ≤ P.length := by rw [List.length_take]; exact Nat.min_le_right _ _
            exact Nat.lt_of_lt_of_le (Nat.lt_of_le_of_lt (Nat.le_trans h1 h2) (by rw [hPl]; exact osz)) (sz (Nat.le_refl _))
          · have hm : eqD (m3 (.tup [d0, d1, d2, dm])) dj = true := hb
            show upd (upd _ D _) D _ = _
            rw [upd_upd, etk, List.filter_append, List.map_append]
            simp [List.filter, hm]
        · refine (if_neg hb).mpr ?_
          have hm : eqD (m3 (.tup [d0, d1, d2, dm])) dj = false := by cases hx : eqD dm dj with | true => exact absurd hx hb | false => exact hx
          rw [etk, List.filter_append, List.map_append]
          simp [List.filter, hm]
      · have ei : i' = P.length := by omega
        subst ei
        refine .inl ⟨⟨h3p, by rw [hkl, ← hPl]; exact Nat.le_refl _⟩, h3p, ?_⟩
        rw [List.take_length]
        have e : upd (upd (upd H p (.frz od' (.dK ((toKs dd).zip ws)))) D (.lst ((P.filter fun kd => eqD (m3 kd.2) dj).map fun kd => kV kd.1))) p (.dK ((toKs dd).zip ws)) = upd H D (.lst ((P.filter fun kd => eqD (m3 kd.2) dj).map fun kd => kV kd.1)) := by
          funext z
          by_cases z1 : z = p
          · rw [z1, upd_same, upd_ne (Ne.symm hDp), hp]
          · rw [upd_ne z1]
            by_cases z2 : z = D
            · rw [z2, upd_same, upd_same]
            · rw [upd_ne z2, upd_ne z1, upd_ne z2]
        rw [e]
        exact new_lst (c := c) (F := F) (Ex.refl _) (RpL.kDs _) Cl.nil hD0 q
end
def rNotInU (K : PySem.W.Frag) : R2 := fun x y H Q => ∃ d ds, Dp K H x d ∧ Dp K H y (.tuple ds) ∧ SeqAt.shaped d = true ∧ SeqAt.shaped (.tuple ds) = true ∧ Q (.bl (!ds.any fun z => PyData.eqv z d)) H
theorem op_notInU {X : Cx} (hu : X.A.units + 65 < cLine) : OpR X (compareOp .NotIn) (rNotInU X.K) := by
  intro pins s σ H x y v u Q I rx ry h
  obtain ⟨d, ds, hd, he, sd, se, q⟩ := h
  obtain ⟨as, r1⟩ := Dp.reads I d x v hd rx
  obtain ⟨bs, r2⟩ := Dp.reads I (.tuple ds) y u he ry
  exact SeqAt.notIn_tuple_reads r2 r1 (SeqAt.canLay_of_shaped se) (SeqAt.canLay_of_shaped sd) (PyProof.Rows.room_in_shaped sd hu) ⟨.bl _, H, I, rfl, q⟩
def inUT (x y : D) : TV := ⟨okD 8 x ∧ okD 8 y ∧ ∃ ys, y = .tup ys, !inB x (toL y)⟩
theorem any_toPys {x : D} : ∀ ys : List D, ((toPys ys).any fun z => PyData.eqv z (toPy x)) = inB x ys
  | [] => rfl
  | y :: ys => by
    have ih := any_toPys (x := x) ys
    unfold inB at ih ⊢
    simp only [toPys, List.any_cons, ih, eqD]
theorem dt_notInU {X : Cx} {c1 c2 : Cl} {pos : Pos} {a b : Expr} {f g : PF} (hu : X.A.units + 65 < cLine) (ha : DP X c1 a f) (hb : DP X c2 b g) (hm : behindInMarks .NotIn b = false := by rfl) : DT X (.Compare a [.NotIn] [b] pos) (tc2 inUT f g) :=
  dt_cmp (hf := inUT) (op_notInU hu) ha hb hm fun H2 x y v w fa fb Q rx ry ok q => by
    obtain ⟨o1, o2, ys, rfl⟩ := ok
    have e := Rp.dp (K := X.K) 8 _ _ _ ry o2
    have e2 := o2.shaped (by decide)
    simp only [toPy] at e e2
    refine ⟨toPy x, toPys ys, Rp.dp 8 _ _ _ rx o1, e, o1.shaped (by decide), e2, ?_⟩
    rw [any_toPys]
    exact q
end DL
set_option maxHeartbeats 4000000
namespace DL
open PySem L2
section
variable {X : Cx} {E : XK} {pos : Pos} {rc : Bool}
def sPar2 (i j : Nat) (w : WE) (f : PF) : WS := fun K δ N => w δ N (fun d N1 => (f δ N1).ok ∧ IsC (f δ N1).val ∧ ∀ a, N1 a = none → i < δ.length ∧ j < δ.length ∧ K.nx ((δ.set i (some d)).set j (some (.ref a))) (updN N1 a ⟨true, (f δ N1).val⟩)) K.ex
theorem ds_par2 {i j : Nat} {y z : Str} {a b : Expr} {f : PF} {w : WE} {px py pt : Pos} {kt k2 pt2} (hc : X.calm = true) (hN : X.N.Nodup) (hi : X.N[i]? = some y) (hj : X.N[j]? = some z)
    (hx : L2.Loc X.env.scope y) (hy : L2.Loc X.env.scope z) (ha : DE X E a w) (hb : DP X .frs b f)
    (hs : swapsWithSole [.Tuple [.Name y px, .Name z py] kt pt] (.Tuple [a, b] k2 pt2) pos.line X.env = pure false := by rfl) (hw : swappedStores [.Tuple [.Name y px, .Name z py] kt pt] (.Tuple [a, b] k2 pt2) X.env = pure none := by rfl)
    (h1 : (assignEach [.Tuple [.Name y px, .Name z py] kt pt] X.env).map (·.2) = [assign (.Tuple [.Name y px, .Name z py] kt pt) X.env] := by rfl)
    (hsa : starEach [a, b] X.env = (false, eval a X.env) :: starEach [b] X.env := by rfl) (hsb : starEach [b] X.env = (false, eval b X.env) :: starEach [] X.env := by rfl)
    (hga : (assignEach [.Name y px, .Name z py] X.env).map (·.2) = assign (.Name y px) X.env :: (assignEach [.Name z py] X.env).map (·.2) := by rfl) (hgb : (assignEach [.Name z py] X.env).map (·.2) = assign (.Name z py) X.env :: (assignEach [] X.env).map (·.2) := by rfl)
    (hn2 : (assignEach [.Name y px, .Name z py] X.env).length = 2 := by rfl) (hst : (assignEach [.Name y px, .Name z py] X.env).findIdx? (·.1) = none := by rfl)
    (hf1 : X.fn y = true ∨ X.env.scope.names.lookup y = some .local := by first | exact .inl rfl | exact .inr rfl | assumption) (hf2 : X.fn z = true ∨ X.env.scope.names.lookup z = some .local := by first | exact .inl rfl | exact .inr rfl | assumption) :
    DS X E rc (.Assign [.Tuple [.Name y px, .Name z py] kt pt] (.Tuple [a, b] k2 pt2) pos) (sPar2 i j w f) :=
  ps_imp (ps_asg (pe_tup (pa_cons ha (pa_cons hb pa_nil hsb) hsa)) (pg_tup hc (pgs_cons (pg_name hN hi hx hf1) (pgs_cons (pg_name hN hj hy hf2) pgs_nil hgb) hga) hn2 hst) hs hw h1) fun D σ H h => by
  obtain ⟨δ, N, F, P, K, o, q, e⟩ := h
  refine ⟨δ, N, F, P, _, K.ex, o, q, fun u H1 F1 P1 d N1 fq t1 o1 r1 k1 q1 => ?_, e.ex⟩
  obtain ⟨ok, kc, q2⟩ := q1
  refine ⟨δ, N1, F1, o1.sr, o1.nr, ok, fun v H2 fp e2 r2 k2 => ?_⟩
  obtain ⟨A, rfl, hA⟩ := r2.cell kc
  obtain ⟨hNA, o2, t2⟩ := o1.alloc e2 r2 hA k2.1 k2.2
  refine ⟨sz (show 2 ≤ SZ by decide), fun pt hp => ?_⟩
  obtain ⟨o3, t3⟩ := o2.ex (Ex.new (o := .tup [u, .ref A]) hp)
  refine ⟨pt, [u, .ref A], rfl, SqT.of upd_same, rfl, _, _, rfl, _, _, rfl, rfl, ?_⟩
  exact e.nx _ _ F1 _ _ _ ((t1.trans t2).trans t3) ⟨o3.wf, (o3.sr.set ((r1.ex e2).ex (Ex.new hp)) k1).set (d := .ref A) (fp := []) ⟨rfl, rfl⟩ (by simp)⟩ (q2 A hNA).2.2
def sFrz (i : Nat) (w : WS) : WS := fun K δ N => ∃ a t, lk δ i = some (.ref a) ∧ N a = some ⟨true, t⟩ ∧ w K (δ.set i (some t)) (remN N a)
theorem set_self {α : Type} {xs : List α} {i : Nat} {x : α} (h : xs[i]? = some x) : xs.set i x = xs := by
  induction xs generalizing i with
  | nil => rfl
  | cons y ys ih =>
    cases i with
    | zero => simp at h; subst h; rfl
    | succ i => rw [List.getElem?_cons_succ] at h; rw [List.set_cons_succ, ih h]
theorem ds_frz {s : Stmt} {w : WS} (i : Nat) (h : DS X E rc s w) : DS X E rc s (sFrz i w) := ps_imp h fun D σ H h => by
  obtain ⟨δ, N, F, P, K, o, ⟨a, t, hi, hN, q⟩, e⟩ := h
  obtain ⟨F2, P2, fq, o2, t2, r2, k2⟩ := o.freeze hN
  obtain ⟨v, fp, h1, h2, _⟩ := o.sr.at_ i _ (lk_get hi)
  obtain rfl : v = .ref a := h2.1
  have hs := o2.sr.set (i := i) r2 k2
  rw [set_self h1] at hs
  exact ⟨_, _, F2, P2, K, ⟨o2.wf, hs⟩, q, e.tr t2⟩
theorem Ok.rdL {δ : Loc} {N : Nm} {F P : Addr → Prop} {σ : St} {H : Hp} (o : Ok δ N F P σ H) : ∀ {ds : List D} {vs : List V} {fp : List Addr}, RpL H ds vs fp → ∃ fq, RpL H (ds.map (drf N)) vs fq
  | [], _, fp, h => ⟨fp, h⟩
  | d :: ds, _, _, h => by
    obtain ⟨v, vr, f, g, rfl, h1, h2, rfl⟩ := h
    obtain ⟨f', r1⟩ := o.rd h1
    obtain ⟨g', r2⟩ := o.rdL h2
    exact ⟨f' ++ g', v, vr, f', g', rfl, r1, r2, rfl⟩
def wCallPr (n : Nat) (φ : List D → Nm → PV) (w : WA) : WE := fun δ N Q E => w δ N (fun ds N1 => ds.length = n ∧ (φ (ds.map (drf N1)) N1).ok ∧ Q (φ (ds.map (drf N1)) N1).val N1) E
theorem de_callPr {x : Str} {p : Pos} {k n : Nat} {ps : List Str} {φ : List D → Nm → PV} {e : Expr} {es : List Expr} {w : WA} (h : HasX X x k ps (spP n φ)) (hr : Room k X.A) (hg : Gl X x) (ha : DAE X E (e :: es) w) (hdb : (x == ("__debug__" : Str)) = false := by decide)
    (he : starEach (e :: es) X.env = (false, eval e X.env) :: starEach es X.env := by rfl) (hpl : (backTo pos (starEach es X.env)).any (·.1) = false := by rfl) : DE X E (.Call (.Name x p) (e :: es) [] pos) (wCallPr n φ w) := by
  obtain ⟨f', fd, Fn, hm, hk, hb⟩ := h.ex
  refine pe_imp (pe_call Fn hr hg hm hk hb .nil passL ha hdb he hpl) fun σ H Q h => ?_
  obtain ⟨δ, N, F, P, Q', E', o, q', q, qe⟩ := h
  refine ⟨δ, N, F, P, _, E', o, q', fun vs H1 F1 P1 ds N1 fp t1 o1 r1 k1 q1 => ?_, qe⟩
  obtain ⟨fq0, rq⟩ := o1.rdL r1
  show spP n φ (vs ++ []) H1 Q E0
  rw [List.append_nil]
  refine ⟨ds.map (drf N1), N1, fq0, rq, o1.nr, by rw [List.length_map]; exact q1.1, q1.2.1, fun v H2 fq e2 r2 k2 => ?_⟩
  obtain ⟨o2, t2⟩ := cln_grow (F := F1) o1 e2 (Cl.frs_ (c := .cln) ⟨k2.1, k2.2⟩) (Rp.there _ _ _ r2)
  exact q v H2 _ P1 _ N1 fq (t1.trans t2) o2 r2 (fun p hp => .inr hp) q1.2.2
end
end DL
set_option maxHeartbeats 4000000
namespace DL
open PySem L2
abbrev tbNew (H : Hp) (a : Addr) (ps : Array Value) (pos : Pos) (b : Addr) (q : Str) : Hp := upd (upd H a (.tbl (ps ++ #[rawInt pos.line, rawInt pos.col, .ref b]))) b (LamX.CodeO b q)
section
variable {X : Cx} {pins : List (Addr × Obj)} {σ : St} {H : Hp} {s : Shared}
theorem lam_new {a0 a : Addr} {ps : Array Value} {pr : Arguments} {bd : Expr} {sc : Scope} {pos : Pos} {E Q : Value → Shared → Prop} (I : Inv X pins σ H s) (tb : LamX.TabB X.base X.mg a0 a) (ec : X.env.code = .ref a0) (hp : H a = some (.tbl ps)) (tr : TriplesOk ps.toList)
    (kn : ∀ cv, codeAmong pos ps.toList = some cv → ∃ b, cv = .ref b ∧ H b = some (LamX.CodeO b (X.env.qual ++ "<lambda>"))) (hd : defaultsOf pr X.env = ([], [])) (fr : ∀ y ∈ sc.names, y.2 = .free → ∃ z, X.env.cells.lookup y.1 = some z)
    (k : ∀ (f b : Addr) (pm ct : Value) (H1 : Hp) (s1 : Shared), Inv X pins σ H1 s1 → (H1 = H ∨ (H b = none ∧ H1 = tbNew H a ps pos b (X.env.qual ++ "<lambda>"))) → H1 b = some (LamX.CodeO b (X.env.qual ++ "<lambda>")) →
      s1.heap.get? f = some (PySem.W.kla_obj "<lambda>" (X.env.qual ++ "<lambda>") pr bd sc (cloFrom X.env.cells sc.names []) pm b ct) → H1 f = none → f ∉ frs X.stack → Q (.ref f) s1) :
    wpAny (model X.prog X.w) X.A (eval (.Lambda pr bd sc pos) X.env) Q E s := by
  refine PySem.W.kla_eval hd ?_
  have b1 : s.heap.BuiltinsAt X.mg a := tb.bm.keeps I.bk
  have b2 : s.heap.get? a = some { cls := .none, data := .fields ps } := I.hok a _ hp
  have b3 : ∀ f, s.heap.objs.size ≤ f → f ∉ frs X.stack := fun f hf z => by
    rcases List.mem_cons.mp (I.stkSub _ z) with h | h
    · have := I.lt
      rw [← h] at this
      exact absurd hf (Nat.not_le_of_lt this)
    · exact I.nofs hf h
  have b4 := a
  cases hc : codeAmong pos ps.toList with
  | some cv =>
    obtain ⟨b, rfl, hb⟩ := kn cv hc
    refine PySem.W.kla_makeFunctionHit (P := a) (ps := ps) (mg := X.mg) (c := a0) (closure_ok fr) I.ok.glob (I.mod.glob.keeps I.bk) ec (tb.code.keeps I.bk) b2 tr hc b1 fun ct h1 tk hx hs => ?_
    have J : Inv X pins σ H { s with heap := h1.push (PySem.W.kla_obj "<lambda>" (X.env.qual ++ "<lambda>") pr bd sc (cloFrom X.env.cells sc.names []) ((X.mg "__name__").getD .none) b ct), toks := tk } := I.kept fun z o h => Heap.get?_push_of_some _ (hx z o h)
    exact k _ b _ ct H _ J (.inl rfl) hb (Heap.get?_push_size _ rfl) (I.hok.fresh hs) (b3 _ hs)
  | none =>
    refine PySem.W.kla_makeFunction (P := a) (ps := ps) (mg := X.mg) (c := a0) (closure_ok fr) I.ok.glob (I.mod.glob.keeps I.bk) ec (tb.code.keeps I.bk) b2 tr hc tb.gP b1 fun b ct h1 tk hx hge hlt hr ht => ?_
    obtain ⟨b', oc, vs, t, eb, h2, h3, h4⟩ := hr
    cases eb
    have hs : s.heap.objs.size ≤ h1.objs.size := Nat.le_trans hge (Nat.le_of_lt hlt)
    have hbn : H b = none := I.hok.fresh hge
    have J := LamX.inv_table (q := X.env.qual ++ "<lambda>") (t' := tk) (more := #[rawInt pos.line, rawInt pos.col, .ref b]) (h' := h1.push (PySem.W.kla_obj "<lambda>" (X.env.qual ++ "<lambda>") pr bd sc (cloFrom X.env.cells sc.names []) ((X.mg "__name__").getD .none) b ct)) I hp
      (fun z o n h => Heap.get?_push_of_some _ (hx z o n h)) (Heap.get?_push_of_some _ ht) hge ⟨oc, vs, t, Heap.get?_push_of_some _ h2, h3, h4⟩
    refine k h1.objs.size b _ ct _ _ J (.inr ⟨hbn, rfl⟩) upd_same (Heap.get?_push_size _ rfl) ?_ (b3 _ hs)
    rw [upd_ne (Nat.ne_of_gt hlt), upd_ne (Nat.ne_of_gt (Nat.lt_of_lt_of_le (Heap.lt_size b2) hs))]
    exact I.hok.fresh hs
end
theorem Ok.tabbed {δ : Loc} {N : Nm} {F P : Addr → Prop} {σ : St} {H : Hp} {a : Addr} {q : Str} (o : Ok δ N F P σ H) (hN : N a = some ⟨true, .tab q⟩) :
    ∃ ps : Array Value, H a = some (.tbl ps) ∧ TriplesOk ps.toList ∧ (∀ (pos : Pos) cv, codeAmong pos ps.toList = some cv → ∃ b, cv = .ref b ∧ H b = some (LamX.CodeO b q)) ∧
      ∀ (pos : Pos) b, H b = none → Ok δ N F (fun z => P z ∨ z = b) σ (tbNew H a ps pos b q) ∧ Tr F P H F (fun z => P z ∨ z = b) (tbNew H a ps pos b q) := by
  obtain ⟨⟨fpm, w⟩, sr⟩ := o
  obtain ⟨⟨a', ps, cs, ea, hp, h1, h2, h3, h4, h5⟩, _⟩ := w.cell a _ hN
  cases ea
  obtain ⟨w1, w2⟩ := w.own a _ hN rfl
  have pa : P a := w2 a (by rw [h5]; simp)
  have aF : ¬ F a := fun z => (w.fr a z).1 pa
  refine ⟨ps, hp, h1, fun pos cv hc => let ⟨b, hb, e⟩ := h2 pos cv hc; ⟨b, e, h3 b hb⟩, fun pos b hb => ?_⟩
  have nab : a ≠ b := fun z => by rw [z, hb] at hp; cases hp
  have at1 : tbNew H a ps pos b q a = some (.tbl (ps ++ #[rawInt pos.line, rawInt pos.col, .ref b])) := by unfold tbNew; rw [upd_ne nab]; exact upd_same
  have at2 : tbNew H a ps pos b q b = some (LamX.CodeO b q) := upd_same
  have at3 : ∀ z, z ≠ a → z ≠ b → tbNew H a ps pos b q z = H z := fun z n1 n2 => by unfold tbNew; rw [upd_ne n2, upd_ne n1]
  have nb : ∀ z o, H z = some o → z ≠ b := fun z o e k => by rw [k, hb] at e; cases e
  have tup : ∀ p vs, H p = some (.tup vs) → tbNew H a ps pos b q p = some (.tup vs) := fun p vs e => by
    rw [at3 p (fun k => by rw [k, hp] at e; cases e) (nb p _ e)]; exact e
  have th : ∀ p o, H p = some o → ∃ o', tbNew H a ps pos b q p = some o' := fun p o e => by
    by_cases k : p = a
    · subst k; exact ⟨_, at1⟩
    · exact ⟨o, by rw [at3 p k (nb p o e)]; exact e⟩
  have bF : ¬ F b := fun z => by obtain ⟨_, o, h⟩ := w.fr b z; rw [hb] at h; cases h
  have fa : ∀ z c, z ≠ a → N z = some c → a ∉ fpm z ∧ b ∉ fpm z := fun z c n hz => by
    refine ⟨w.sep a z _ c (Ne.symm n) hN rfl hz a (by rw [h5]; simp), fun k => ?_⟩
    obtain ⟨o, h, _⟩ := Rp.there _ _ _ (w.cell z c hz).1 b k
    rw [hb] at h; cases h
  refine ⟨⟨⟨fun z => if z = a then fpm a ++ [b] else fpm z, ⟨fun z c hz => ?_, fun z c hz hw => ?_, fun z y c e n hz hw hy => ?_, fun p hq => ?_, fun p hq => ?_⟩⟩, ⟨sr.len, fun p hq => ?_, fun i d hd => ?_⟩⟩, ⟨fun _ h => h, fun p o e n => ?_, th, fun p h => ?_, fun p h => .inl h⟩⟩
  · by_cases k : z = a
    · subst k
      rw [hN] at hz; cases hz
      rw [if_pos rfl, h5]
      refine ⟨⟨z, _, cs ++ [b], rfl, at1, ?_, fun pos' cv hc => ?_, fun c hc => ?_, ?_, by simp⟩, by simp⟩
      · rw [show (ps ++ #[rawInt pos.line, rawInt pos.col, .ref b]).toList = ps.toList ++ [rawInt pos.line, rawInt pos.col, .ref b] by simp]
        exact PySem.TriplesOk_snoc _ _ _ _ h1
      · rw [show (ps ++ #[rawInt pos.line, rawInt pos.col, .ref b]).toList = ps.toList ++ [rawInt pos.line, rawInt pos.col, .ref b] by simp] at hc
        rcases LamX.among_app _ h1 hc with e | e
        · obtain ⟨c, c1, c2⟩ := h2 pos' cv e
          exact ⟨c, by simp [c1], c2⟩
        · exact ⟨b, by simp, e⟩
      · rcases List.mem_append.mp hc with hc | hc
        · rw [at3 c (fun k => by have z := h3 c hc; rw [k, hp] at z; exact LamX.codeO_ne _ (Option.some.inj z).symm) (nb c _ (h3 c hc))]
          exact h3 c hc
        · rw [List.mem_singleton.mp hc]; exact at2
      · refine List.nodup_append.mpr ⟨h4, by simp, fun x hx y hy e => ?_⟩
        rw [List.mem_singleton.mp hy] at e
        exact nb x _ (h3 x hx) e
    · rw [if_neg k]
      obtain ⟨f1, f2⟩ := fa z c k hz
      exact ⟨Rp.keep tup _ _ _ (w.cell z c hz).1 fun p hq => at3 p (fun e => f1 (e ▸ hq)) (fun e => f2 (e ▸ hq)), (w.cell z c hz).2⟩
  · by_cases k : z = a
    · rw [if_pos k]
      refine ⟨List.nodup_append.mpr ⟨w1, by simp, fun x hx y hy e => ?_⟩, fun p hq => ?_⟩
      · rw [List.mem_singleton.mp hy] at e
        obtain ⟨o, h, _⟩ := Rp.there _ _ _ (w.cell a _ hN).1 x hx
        exact nb x o h e
      · rcases List.mem_append.mp hq with hq | hq
        · exact .inl (w2 p hq)
        · exact .inr (List.mem_singleton.mp hq)
    · rw [if_neg k]
      exact ⟨(w.own z c hz hw).1, fun p hq => .inl ((w.own z c hz hw).2 p hq)⟩
  · intro p h1'
    by_cases k : z = a
    · rw [if_pos k] at h1'
      have ky : y ≠ a := fun e' => n (k.trans e'.symm)
      rw [if_neg ky]
      rcases List.mem_append.mp h1' with h | h
      · exact w.sep a y _ e (Ne.symm ky) hN rfl hy p h
      · rw [List.mem_singleton.mp h]; exact (fa y e ky hy).2
    · rw [if_neg k] at h1'
      by_cases ky : y = a
      · rw [if_pos ky]
        intro h2'
        rcases List.mem_append.mp h2' with h | h
        · exact w.sep z a c _ k hz hw hN p h1' h
        · rw [List.mem_singleton.mp h] at h1'; exact (fa z c k hz).2 h1'
      · rw [if_neg ky]
        exact w.sep z y c e n hz hw hy p h1'
  · obtain ⟨n, o, h⟩ := w.fr p hq
    exact ⟨fun z => z.elim n fun k => bF (k ▸ hq), th p o h⟩
  · rcases hq with hq | rfl
    · by_cases k : p = a
      · subst k; exact ⟨_, at1, fun _ z => by cases z⟩
      · obtain ⟨o, h, h'⟩ := w.pr p hq
        exact ⟨o, by rw [at3 p k (nb p o h)]; exact h, h'⟩
    · exact ⟨_, at2, fun xs z => by unfold LamX.CodeO at z; cases z⟩
  · obtain ⟨o, h⟩ := sr.fr p hq
    exact th p o h
  · obtain ⟨v, fp, r1, r2, r3⟩ := sr.at_ i d hd
    exact ⟨v, fp, r1, Rp.keep tup _ _ _ r2 fun p hq => at3 p (fun e => aF (e ▸ r3 p hq)) (fun e => bF (e ▸ r3 p hq)), r3⟩
  · by_cases k : p = a
    · exact absurd (k ▸ pa) n
    · rw [at3 p k (nb p o e)]; exact e
  · exact h.imp id fun (k : p = b) => by rw [k]; exact hb
def tLam1 (a : Addr) (q : Str) (pos : Pos) (TT : (XK → Hp → VK → Prop) → Hp → VK → Prop) (t : XK → TE) : TE := fun σ H Q => ∃ ps : Array Value, H a = some (.tbl ps) ∧ TriplesOk ps.toList ∧ (∀ cv, codeAmong pos ps.toList = some cv → ∃ b, cv = .ref b ∧ H b = some (LamX.CodeO b q)) ∧
  ∀ (b : Addr) (H1 : Hp), (H1 = H ∨ (H b = none ∧ H1 = tbNew H a ps pos b q)) → H1 b = some (LamX.CodeO b q) → TT (fun E H' Q' => t E σ H' Q') H1 Q
section
variable {X : Cx}
theorem pe_lam1 {TT : (XK → Hp → VK → Prop) → Hp → VK → Prop} {x y : Str} {g a0 a : Addr} {n : Nat} {pg : Arguments} {bg : List Stmt} {sg : Scope} {dV kV doc pm cdv ct oc : Value} {an od : Option Addr} {osl : Array (Option Value)} {Ng : List Str}
    {pr : Arguments} {bd : Expr} {sc : Scope} {t : XK → TE} {p lp pos : Pos} (hg : Gl X x) (hm : X.mg x = some (.ref g)) (hk : PySem.W.keepIn X.K (.ref g) = true)
    (lk : X.K.lookup g = some ⟨oc, od, .func (PySem.W.fnOf x x pg bg sg dV kV doc pm an cdv ct), osl⟩) (hcg : PySem.W.codeIn X.K cdv x = true) (hb : L2.Binds X.K (PySem.W.fnOf x x pg bg sg dV kV doc pm an cdv ct) [y] []) (Sg : FnScope Ng [y] sg) (hNg : Ng[0]? = some y) (hva : Vis sg y)
    (hG : LamX.GivesTo X Ng x sg g cdv bg y (X.env.qual ++ "<lambda>") TT) (tb : LamX.TabB X.base X.mg a0 a) (ec : X.env.code = .ref a0) (hr : Room (n + 2) X.A) (L : LamX.LamS X.env.scope sc) (hd : defaultsOf pr X.env = ([], []))
    (hbind : ∀ (q : Str) (cl : List (Str × Addr)) (pm cv ctv : Value), bindArgs (PySem.W.kla_fn "<lambda>" q pr bd sc cl pm cv ctv) ⟨[], []⟩ = pure [])
    (hbody : ∀ (A : Around) (outer : List Env) (s : Shared) (H : Hp) (E : XK) (f b : Addr), Room n (A.deeper (LamX.lamEnv X sc s.heap.objs.size f b)) → PE (LamX.lamCx X A outer s H E sc f b) bd (t E))
    (h1 : (x == ("__debug__" : Str)) = false := by decide) (h2 : (y == ("__debug__" : Str)) = false := by decide) (h3 : (y == ("__classdict__" : Str)) = false := by decide) :
    PE X (.Call (.Name x p) [.Lambda pr bd sc lp] [] pos) (tLam1 a (X.env.qual ++ "<lambda>") lp TT t) := by
  refine ⟨fun pins s σ H Q I ⟨ps, e1, e2, e3, e4⟩ => ?_⟩
  refine wpAny_Call_Name_kw (ld_glob I hg hm ?_ h1)
  refine PySem.W.callWith_K (h₀ := X.base) I.ok.mod.kin hk ?_ (by rfl) (by rfl)
  show wpAny _ _ (spliced ((false, eval (.Lambda pr bd sc lp) X.env) :: backTo pos (starEach [] X.env))) _ _ s
  refine Calls.spliced_cons (lam_new I tb ec e1 e2 e3 hd (L.has I.ok) fun f b pm' ctv H1 s1 J hH hco hf hfn hfr => ?_)
  refine Calls.spliced_nil ⟨J.kIn, ?_⟩
  have run : codeAny (model X.prog X.w) X.A (.call (.ref g) ⟨[.ref f], []⟩) (CR C8.CX0 X.stack X.prog X.w H1 s1 Q C8.E0) s1 := by
    refine LamX.run_ofS (N := Ng) (ps := [y]) (us := [.ref f]) (vs := [.ref f]) lk hcg Sg hr J.env0 (hb s1 [.ref f] J.kIn rfl) (.cons rfl .nil) rfl fun hr1 => ?_
    obtain ⟨u, hu, q⟩ := hG f b s1 H1 Q (fun E H' Q' => t E σ H' Q') (fun W pn xe E p1 p2 tk hW => LamX.pe_act (i := 0) J L hf hfn hfr (hbind _ _ _ _ _) tk hW hr1 (fun A outer s2 H2 hr2 => hbody A outer s2 H2 E f b hr2) hNg hva h2 h3) hco (e4 b H1 hH hco)
    exact ⟨u, hu.nox, q⟩
  refine wpAny_call (codeAny_mono run fun r s2 hq => ?_)
  cases r with
  | error e => exact (show False from hq).elim
  | ok fl =>
    cases fl with
    | next => exact False.elim hq
    | brk => exact False.elim hq
    | cont => exact False.elim hq
    | ret u => exact J.after hq
def TTk (KD : Exc → D → Prop) : (XK → Hp → VK → Prop) → Hp → VK → Prop := fun tl H Q => tl (fun cls d H' => ∃ x dk, ExR H' x cls d ∧ KD x dk ∧ ∀ v H'', Ex H' H'' → Rp H'' dk v [] → Q v H'') H fun _ H' => Q (.str "") H'
def wKind (a : Addr) (q : Str) (KD : Exc → D → Prop) (w : WE) : WE := fun δ N Q _ => N a = some ⟨true, .tab q⟩ ∧ w δ N (fun _ N' => Q (.str "") N') fun x N' => ∃ dk, KD x dk ∧ Q dk N'
theorem de_kind {E0 : XK} {KD : Exc → D → Prop} {x y : Str} {g a0 a : Addr} {n : Nat} {pg : Arguments} {bg : List Stmt} {sg : Scope} {dV kV doc pm cdv ct oc : Value} {an od : Option Addr} {osl : Array (Option Value)} {Ng : List Str}
    {pr : Arguments} {bd : Expr} {sc : Scope} {w : WE} {q : Str} {p lp pos : Pos} (hq : X.env.qual ++ "<lambda>" = q) (hg : Gl X x) (hm : X.mg x = some (.ref g)) (hk : PySem.W.keepIn X.K (.ref g) = true)
    (lk : X.K.lookup g = some ⟨oc, od, .func (PySem.W.fnOf x x pg bg sg dV kV doc pm an cdv ct), osl⟩) (hcg : PySem.W.codeIn X.K cdv x = true) (hb : L2.Binds X.K (PySem.W.fnOf x x pg bg sg dV kV doc pm an cdv ct) [y] []) (Sg : FnScope Ng [y] sg) (hNg : Ng[0]? = some y) (hva : Vis sg y)
    (hG : LamX.GivesTo X Ng x sg g cdv bg y (X.env.qual ++ "<lambda>") (TTk KD)) (tb : LamX.TabB X.base X.mg a0 a) (ec : X.env.code = .ref a0) (hr : Room (n + 2) X.A) (L : LamX.LamS X.env.scope sc) (hd : defaultsOf pr X.env = ([], []))
    (hbind : ∀ (q : Str) (cl : List (Str × Addr)) (pm cv ctv : Value), bindArgs (PySem.W.kla_fn "<lambda>" q pr bd sc cl pm cv ctv) ⟨[], []⟩ = pure [])
    (hbody : ∀ (A : Around) (outer : List Env) (s : Shared) (H : Hp) (E : XK) (f b : Addr), Room n (A.deeper (LamX.lamEnv X sc s.heap.objs.size f b)) → DE (LamX.lamCx X A outer s H E sc f b) E bd w)
    (h1 : (x == ("__debug__" : Str)) = false := by decide) (h2 : (y == ("__debug__" : Str)) = false := by decide) (h3 : (y == ("__classdict__" : Str)) = false := by decide) :
    DE X E0 (.Call (.Name x p) [.Lambda pr bd sc lp] [] pos) (wKind a q KD w) := by
  subst hq
  refine pe_imp (pe_lam1 (t := fun E => tDE E w) hg hm hk lk hcg hb Sg hNg hva hG tb ec hr L hd hbind hbody h1 h2 h3) fun σ H Q h => ?_
  obtain ⟨δ, N, F, P, Q', E', o, ⟨hN, hw⟩, qq, qe⟩ := h
  obtain ⟨ps, e1, e2, e3, grow⟩ := o.tabbed hN
  refine ⟨ps, e1, e2, e3 _, fun b H1 hH1 hb => ?_⟩
  have key : ∀ P1, Ok δ N F P1 σ H1 → Tr F P H F P1 H1 → TTk KD (fun E H' Q' => tDE E w σ H' Q') H1 Q := fun P1 o1 t1 => by
    refine ⟨δ, N, F, P1, _, _, o1, hw, fun v H2 F2 P2 d N2 fp t2 o2 r2 k2 q2 => qq (.str "") H2 F2 P2 (.str "") N2 [] (t1.trans t2) o2 ⟨rfl, rfl⟩ (by simp) q2, fun z cls dd H2 F2 P2 N2 t2 w2 r hx => ?_⟩
    obtain ⟨dk, hk, hq⟩ := hx
    refine ⟨z, dk, r, hk, fun v H3 ex rv => ?_⟩
    obtain ⟨o3, t3⟩ := (o1.after t2 w2).ex ex
    exact qq v H3 F2 P2 dk N2 [] ((t1.trans t2).trans t3) o3 rv (by simp) hq
  rcases hH1 with rfl | ⟨hn, rfl⟩
  · exact key P o Tr.refl
  · exact key _ (grow _ b hn).1 (grow _ b hn).2
theorem lam_passes {A : Around} {outer : List Env} {s : Shared} {H : Hp} {E : XK} {sc : Scope} {f b : Addr} : Passes (L2.CX X.prog X.w) (LamX.lamCx X A outer s H E sc f b) E := passes_call (takes_of rfl rfl rfl rfl) fun _ _ _ _ z => z
end
end DL
set_option maxHeartbeats 4000000
namespace DL
open PySem PySem.Spec PyProof.Rows L2
section
variable {X : Cx} {E : XK} {c c1 c2 c3 : Cl} {pos p pos' : Pos} {rc : Bool}
def rCntD (K : PySem.W.Frag) : V → List V → Hp → VK → Prop := fun x us H Q => ∃ (a : Addr) (y : V) (d : PyData) (ds : List PyData), x = V.ref a ∧ us = [y] ∧ Dp K H (V.ref a) (.list ds) ∧ Dp K H y d ∧
  SeqAt.shaped (.list ds) = true ∧ SeqAt.shaped d = true ∧ Q (.int ((ds.countP fun z => PyData.eqv z d : Nat) : Int)) H
theorem mt_countD (hu : X.A.units + 65 < cLine) : MtR X "list.count" (rCntD X.K) := by
  intro pins s σ H x xs v us Q I rx rxs h
  obtain ⟨a, y, d, ds, rfl, rfl, hl, hy, s1, s2, q⟩ := h
  cases rx
  obtain ⟨uy, rfl, ry⟩ := rxs.one
  obtain ⟨bs, r1⟩ := Dp.reads I d y uy hy ry
  have cl : PyData.canLayAll0 ds = true := SeqAt.canLay_of_shaped s1
  have room : X.A.units + 1 + min (PyData.depthAll ds) d.depth < cLine := room_in_shaped s2 hu
  cases hl with
  | lst hs ha =>
    obtain ⟨its, rv, ⟨⟨cls, dd, data, sls⟩, n, ho, hc, hdn, hdt⟩, hlen⟩ := I.list hs
    simp only at hc hdt
    subst hc hdt
    obtain ⟨as, h4⟩ := Dp.readsAll I ds _ its ha rv
    have hmap : its.map (SeqAt.readOf s.heap) = ds := SeqAt.readsAll_map ds its as cl h4
    have ec : its.toArray.toList.countP (fun u => PyData.eqv (SeqAt.readOf s.heap u) d) = ds.countP fun z => PyData.eqv z d := by
      rw [← hmap, List.countP_map]; rfl
    refine call_meets PySem.F.slot_list_count ⟨_, ho, rfl⟩ PySem.F.entry_list_count (PySem.F.args_list_count_2 _ _)
      (SeqAt.list_countAt a its.toArray n dd sls uy fun u => PyData.eqv (SeqAt.readOf s.heap u) d) ⟨ho, SeqAt.items_eqAt (vs := its.toArray) (show ReadsAll s.heap its.toArray.toList ds as from h4) r1 cl (SeqAt.canLay_of_shaped s2) room, ?_⟩
    rw [ec]
    exact ⟨.int _, H, I.tok _, ⟨s.toks, rfl⟩, q⟩
def cntD (x y : D) : PV := ⟨okD 8 x ∧ IsL x ∧ okD 8 y, .int ((toL x).countP fun z => eqD z y : Nat)⟩
def idxD (x y : D) : PV := ⟨okD 8 x ∧ IsL x ∧ okD 8 y ∧ ((toL x).findIdx? fun z => eqD z y).isSome = true, .int (((toL x).findIdx? fun z => eqD z y).getD 0 : Nat)⟩
theorem toPy_lst {xs : List D} : toPy (.lst xs) = .list (toPys xs) := by rw [toPy]
theorem dp_count {o e : Expr} {f g : PF} {apos cpos : Pos} (hu : X.A.units + 65 < cLine) (ho : DP X c1 o f) (he : DP X c2 e g) (hbase : attributeBase o "count" X.env (eval o X.env) = eval o X.env := by rfl)
    (hfew : ((backTo cpos (starEach [e] X.env)).all (fun x => !x.1) && (backToKw cpos (keywordEach [] X.env)).all (fun x => x.1.isSome) && decide (([e] : List Expr).length + ([] : List Keyword).length + (if ([] : List Keyword).isEmpty then 0 else 1) < 30)) = true := by rfl)
    (hline : (apos.endLine == cpos.line) = true := by rfl) (hs : starEach [e] X.env = (false, eval e X.env) :: starEach [] X.env := by rfl) : DP X c (.Call (.Attribute o "count" apos) [e] [] cpos) (p2 cntD f g) := by
  refine pe_imp (pe_bm PySem.F.plainAttrs_list PySem.F.slot_list_count PySem.F.type_list_count (mt_countD hu) ho (pa_cons he pa_nil hs) hbase hfew hline hs (by rfl)) fun σ H Q h => ?_
  obtain ⟨δ, N, F, hS, hn, ⟨o1, o2, o3, o4, o5⟩, q⟩ := h
  refine ⟨δ, N, F, hS, hn, o1, fun v H1 fa e1 r1 k1 => ?_⟩
  have ev := o4.eq
  have d1 := fun K => Rp.dp (K := K) 8 _ _ _ r1 o3
  have s1 := o3.shaped (by decide)
  obtain ⟨p, vs, f', rfl, hp, rl, rfl⟩ := r1.lst_ o4
  refine ⟨.inl ⟨rfl, vs, SqL.of hp⟩, δ, N, F, hS.ex e1, hn.ex e1, o2, fun w H2 fb e2 r2 k2 => ?_⟩
  have r1' : Rp H2 (f δ N).val (.ref p) (p :: f') := by rw [ev]; exact ⟨p, vs, f', rfl, e2 _ _ hp, rl.ex e2, rfl⟩
  have d2 := Rp.dp (K := X.K) 8 _ _ _ r1' o3
  rw [ev, toPy_lst] at d2 s1
  refine ⟨p, w, _, _, rfl, rfl, d2, Rp.dp 8 _ _ _ r2 o5, s1, o5.shaped (by decide), ?_⟩
  have ec : ((toPys (toL (f δ N).val)).countP fun z => PyData.eqv z (toPy (g δ N).val)) = (toL (f δ N).val).countP fun z => eqD z (g δ N).val := by rw [toPys_map, List.countP_map]; rfl
  rw [ec]
  exact q _ H2 [] (e1.trans e2) ⟨rfl, rfl⟩ Cl.nil
theorem dp_index {o e : Expr} {f g : PF} {apos cpos : Pos} (hu : X.A.units + 65 < cLine) (ho : DP X c1 o f) (he : DP X c2 e g) (hbase : attributeBase o "index" X.env (eval o X.env) = eval o X.env := by rfl)
    (hfew : ((backTo cpos (starEach [e] X.env)).all (fun x => !x.1) && (backToKw cpos (keywordEach [] X.env)).all (fun x => x.1.isSome) && decide (([e] : List Expr).length + ([] : List Keyword).length + (if ([] : List Keyword).isEmpty then 0 else 1) < 30)) = true := by rfl)
    (hline : (apos.endLine == cpos.line) = true := by rfl) (hs : starEach [e] X.env = (false, eval e X.env) :: starEach [] X.env := by rfl) : DP X c (.Call (.Attribute o "index" apos) [e] [] cpos) (p2 idxD f g) := by
  refine pe_imp (pe_bm PySem.F.plainAttrs_list PySem.F.slot_list_index PySem.F.type_list_index (mt_indexD hu) ho (pa_cons he pa_nil hs) hbase hfew hline hs (by rfl)) fun σ H Q h => ?_
  obtain ⟨δ, N, F, hS, hn, ⟨o1, o2, o3, o4, o5, o6⟩, q⟩ := h
  refine ⟨δ, N, F, hS, hn, o1, fun v H1 fa e1 r1 k1 => ?_⟩
  have ev := o4.eq
  have s1 := o3.shaped (by decide)
  obtain ⟨p, vs, f', rfl, hp, rl, rfl⟩ := r1.lst_ o4
  refine ⟨.inl ⟨rfl, vs, SqL.of hp⟩, δ, N, F, hS.ex e1, hn.ex e1, o2, fun w H2 fb e2 r2 k2 => ?_⟩
  have r1' : Rp H2 (f δ N).val (.ref p) (p :: f') := by rw [ev]; exact ⟨p, vs, f', rfl, e2 _ _ hp, rl.ex e2, rfl⟩
  have d2 := Rp.dp (K := X.K) 8 _ _ _ r1' o3
  rw [ev, toPy_lst] at d2 s1
  obtain ⟨j, hj⟩ := Option.isSome_iff_exists.mp o6
  obtain ⟨hjl, hj1, hj2⟩ := List.findIdx?_eq_some_iff_getElem.mp hj
  refine ⟨p, w, _, _, j, toPy (toL (f δ N).val)[j], rfl, rfl, d2, Rp.dp 8 _ _ _ r2 o5, s1, o5.shaped (by decide), ?_, hj1, fun m z hm hz => ?_, ?_⟩
  · rw [toPys_map, List.getElem?_map, List.getElem?_eq_getElem hjl]; rfl
  · rw [toPys_map, List.getElem?_map, List.getElem?_eq_getElem (by omega)] at hz
    cases hz
    have := hj2 m hm
    simpa [eqD] using this
  · have q' := q
    simp only [p2, idxD, hj, Option.getD_some] at q'
    exact q' _ H2 [] (e1.trans e2) ⟨rfl, rfl⟩ Cl.nil
def pIsE (i : Nat) (a : Addr) (b : Bool) : PF := fun δ _ => ⟨lk δ i = some (.ref a), .bl b⟩
theorem dp_isE {a C : Addr} {oe : Obj} {pn : List (Addr × Obj)} {cv : Value} {cw : V} {b : Bool} {i : Nat} {e k : Expr} {p pos : Pos} (T : L2.ExcC X.K C) (hz : Zc (.ref C) none oe) (hf : ∃ vs, oe.data = .fields vs) (ek : PySem.W.kitOne X.K (.ref C) cv = some b) (hw : ∀ u, RelV cw u → u = cv)
    (hg : Gl (X.suite a ((a, oe) :: pn)) "isinstance") (hm : X.mg "isinstance" = none) (he : DP (X.suite a ((a, oe) :: pn)) c1 e (pVar i)) (hk : PE (X.suite a ((a, oe) :: pn)) k (tC cw))
    (hs : starEach [e, k] X.env = (false, eval e X.env) :: starEach [k] X.env := by rfl) (hs2 : starEach [k] X.env = (false, eval k X.env) :: starEach [] X.env := by rfl)
    (hpl : (backTo pos (starEach [k] X.env)).any (·.1) = false := by rfl) : DP (X.suite a ((a, oe) :: pn)) c (.Call (.Name "isinstance" p) [e, k] [] pos) (pIsE i a b) := by
  refine pe_imp (pe_callB (call_isE T hz hf) hg hm (by decide +kernel) (pa_cons he (pa_cons hk pa_nil hs2) hs) (he := hs) (hpl := hpl)) fun σ H Q h => ?_
  obtain ⟨δ, N, F, hS, hn, ok, q⟩ := h
  have ok : lk δ i = some (.ref a) := ok
  have ev : (pVar i δ N).val = .ref a := by show (lk δ i).getD .non = _; rw [ok]; rfl
  refine ⟨δ, N, F, hS, hn, by show (lk δ i).isSome = true; rw [ok]; rfl, fun v H1 fa e1 r1 k1 => ?_⟩
  rw [ev] at r1
  obtain ⟨rfl, _⟩ := r1
  exact ⟨cw, cv, b, rfl, hw, ek, q (.bl b) H1 [] e1 ⟨rfl, rfl⟩ Cl.nil⟩
theorem dp_never {X : Cx} {e : Expr} {c : Cl} : DP X c e (fun _ _ => ⟨False, .non⟩) := ⟨fun pins s σ H Q I h => by
  obtain ⟨δ, N, F, hS, hn, ok, q⟩ := h
  exact ok.elim⟩
end
end DL
set_option maxHeartbeats 4000000
namespace DL
open PySem L2
abbrev kNames : List Str := ["BadRows", "BadLog", "BadText", "BadEnd", "BadFillers", "BadRoom", "BadSecond", "BadCount", "NotLive", "BadRow", "BadPlace", "NoRow"]
abbrev kN (j : Nat) : Str := kNames.getD j ""
def KD0 (CX : Str → Addr) : Exc → D → Prop := fun x d => x.arg = none ∧ ∃ j : Nat, 2 < j ∧ j < 12 ∧ x.cls = CX (kN j) ∧ d = .str (kN j)
structure KFacts (K : PySem.W.Frag) (mg : Str → Option Value) (CX : Str → Addr) : Prop where
  glo : ∀ j, j < 12 → mg (kN j) = some (.ref (CX (kN j)))
  exc : ∀ j, j < 12 → L2.ExcC K (CX (kN j))
  isE : ∀ i j, i < 12 → j < 12 → PySem.W.kitOne K (.ref (CX (kN j))) (.ref (CX (kN i))) = some (decide (i = j))
  isV : ∀ j, j < 12 → PySem.W.kitOne K (.ref (CX (kN j))) (.type "ValueError") = some true
  air : mg "AirError" = some (.ref (CX "AirError"))
  exm : ∀ j, j < 12 → PySem.W.exmOne K (.ref (CX (kN j))) (.ref (CX "AirError")) = some true
section
variable {X : Cx}
theorem kind_gives {CX : Str → Addr} {Ng : List Str} {x y en ce : Str} {sg : Scope} {g ca : Addr} {cdg : Value} {q : Str} {KD : Exc → D → Prop} {suite : List Stmt} {b₀ : Stmt} {j : Nat} {p1 p2 p3 p4 p5 p6 p7 p8 : Pos} (hN : Ng.Nodup) (hlen : Ng.length = 5) (hi : Ng[1]? = some en)
    (hl : sg.names.lookup en = some .local) (hga : sg.names.lookup ce = some .globalImplicit) (hde : (ce == ("__debug__" : Str)) = false) (hma : X.mg ce = some (.ref ca))
    (hkd : ∀ z dk, KD z dk → z.arg = none ∧ lf dk ∧ PySem.W.exmOne X.K (.ref z.cls) (.ref ca) = some true)
    (hsu : ∀ z dk, KD z dk → ∀ (s : Shared) (H : Hp) (a : Addr) (oe : Obj) (pn : List (Addr × Obj)), Zc (.ref z.cls) none oe → (∃ vs, oe.data = .fields vs) →
      ∃ w, DSs ((cxOf C8.CX0 X.prog X.w X.K X.mg X.base Ng x sg g cdg X.A X.stack s H C8.E0).nox.suite a ((a, oe) :: pn)) (fun _ _ _ => False) false (b₀ :: suite) w ∧ w { nx := fun _ _ => False, rt := fun d _ => d = dk } [none, some (.ref a), none, none, none] fun _ => none)
    (hsw : ∀ env, swapsWith (.Call (.Name y p1) [] [] p2) none p3.line env = pure false) :
    LamX.GivesTo X Ng x sg g cdg [.Try [.Expr (.Call (.Name y p1) [] [] p2) p3] [.ExceptHandler (some (.Name ce p4)) (some en) (b₀ :: suite) p5] [] [] p6, .Return (some (.Constant (.str "") j p7)) p8] y q (TTk KD) := by
  intro f c' s H Q tl act hc h
  have h0 : (L2.start Ng [V.ref f])[0]? = some (some (V.ref f)) := rfl
  refine ⟨_, pss_cons (ps_try_as (X := (cxOf C8.CX0 X.prog X.w X.K X.mg X.base Ng x sg g cdg X.A X.stack s H C8.E0).nox) (i := 1) (c := .ref ca) (Wout := fun _ _ _ _ => False)
    (tb := fun W D σ H => ∃ Ech : XK, (∀ cls d σ' H', σ'.length = 5 → Ech cls d H' → W cls d σ' H') ∧ σ[0]? = some (some (.ref f)) ∧ H c' = some (LamX.CodeO c' q) ∧ tl Ech H fun _ H' => D.nx σ H')
    (ts := fun a cls d D σ H => ∃ z dk, KD z dk ∧ cls = .ref z.cls ∧ d = none ∧ σ.length = 5 ∧ σ[1]? = some (some (.ref a)) ∧ ∀ v H2, Ex H H2 → Rp H2 dk v [] → D.rt v H2)
    rfl rfl hN hi hl ⟨hga, hde, .inl hma⟩ takes0 (fun W pn xe tk _ => pss_one ⟨fun pins s1 σ1 H1 D I hh => ?_⟩) (fun a oe cls d pn hz hf => ⟨fun pins s1 σ1 H1 D I hh => ?_⟩)) (pss_one (ps_ret pe_str)), ?_⟩
  · obtain ⟨Ech, hW, h1, h2, h3⟩ := hh
    have tk2 : Takes ((cxOf C8.CX0 X.prog X.w X.K X.mg X.base Ng x sg g cdg X.A X.stack s H C8.E0).tr pn xe) (fun cls d σ' H' => σ'.length = 5 → W cls d σ' H') := fun u s' ⟨a, B, sI, pins, σ, H, cls, d, e, I, nb, up, sky, na, os, ag, w⟩ =>
      tk u s' ⟨a, B, sI, pins, σ, H, cls, d, e, I, nb, up, sky, na, os, ag, w (I.len.trans hlen)⟩
    exact (ps_expr (act (fun cls d σ' H' => σ'.length = 5 → W cls d σ' H') pn xe Ech p1 p2 tk2 fun cls d σ' H' he hl5 => hW cls d σ' H' hl5 he) (hsw _)).run pins s1 σ1 H1 D I ⟨h1, h2, h3⟩
  · obtain ⟨z, dk, hk, rfl, rfl, hl5, h1, hq⟩ := hh
    obtain ⟨w, hw, hrd⟩ := hsu z dk hk s H a oe pn hz hf
    obtain ⟨_, hlf, _⟩ := hkd z dk hk
    refine hw.run pins s1 σ1 H1 D I ⟨[none, some (.ref a), none, none, none], fun _ => none, fun _ => False, fun _ => False, _, ⟨⟨fun _ => [], ⟨fun b c e => (by cases e), fun b c e => (by cases e), fun b b' c e _ h1 => (by cases h1), fun p hp => False.elim hp, fun p hp => False.elim hp⟩⟩, ⟨hl5.symm, fun p hp => False.elim hp, fun i d hd => ?_⟩⟩, hrd, ?_⟩
    · match i, hd with
      | 0, hd => simp at hd
      | 1, hd =>
        have e : d = .ref a := by simpa using hd.symm
        subst e
        exact ⟨.ref a, [], h1, ⟨rfl, rfl⟩, by simp⟩
      | 2, hd => simp at hd
      | 3, hd => simp at hd
      | 4, hd => simp at hd
      | i + 5, hd => simp at hd
    · refine ⟨fun _ _ _ _ _ _ _ _ z => False.elim z, fun _ _ _ _ _ _ _ _ z => False.elim z, fun _ _ _ _ _ _ _ _ z => False.elim z, fun v H2 F2 P2 d N2 fp t w2 r rt e => ?_, fun _ _ _ _ _ _ _ _ _ _ z => False.elim z⟩
      have e : d = dk := e
      subst e
      obtain rfl := Rp.lf _ _ _ r hlf
      exact hq v H2 (fun p o e => t.st p o e id) r
  · refine ⟨_, fun cls d σ' H' hl5 hx => ?_, h0, hc, h⟩
    obtain ⟨z, dk, ⟨rfl, ea⟩, hk, hq⟩ := hx
    obtain ⟨k1, k2, k3⟩ := hkd z dk hk
    rw [k1] at ea
    exact ⟨true, k3, fun _ a ha => ⟨z, dk, hk, rfl, ea, by rw [List.length_set]; exact hl5, List.getElem?_set_self (by omega), hq⟩, fun z => by cases z⟩
structure HasK (K : PySem.W.Frag) (mg : Str → Option Value) (x y : Str) (KD : Exc → D → Prop) : Prop where
  ex : ∃ (st : Stmt) (Ng : List Str) (g : Addr) (fd : FuncData), L2.Fun K x x st g fd ∧ mg x = some (.ref g) ∧ Binds K fd [y] [] ∧ FnScope Ng [y] (defScope st) ∧ Ng[0]? = some y ∧ Vis (defScope st) y ∧
    ∀ (X : Cx) (n : Nat) (cdv : Value) (q : Str), X.K = K → X.mg = mg → Room (n + 2) X.A → LamX.GivesTo X Ng x (defScope st) g cdv (defBody st) y q (TTk KD)
theorem de_kindH {E0 : XK} {KD : Exc → D → Prop} {x y : Str} {a0 a : Addr} {n : Nat} {pr : Arguments} {bd : Expr} {sc : Scope} {w : WE} {q : Str} {p lp pos : Pos} (h : HasK X.K X.mg x y KD) (hq : X.env.qual ++ "<lambda>" = q) (hg : Gl X x)
    (tb : LamX.TabB X.base X.mg a0 a) (ec : X.env.code = .ref a0) (hr : Room (n + 2) X.A) (L : LamX.LamS X.env.scope sc)
    (hbody : ∀ (A : Around) (outer : List Env) (s : Shared) (H : Hp) (E : XK) (f b : Addr), Room n (A.deeper (LamX.lamEnv X sc s.heap.objs.size f b)) → DE (LamX.lamCx X A outer s H E sc f b) E bd w) (hd : defaultsOf pr X.env = ([], []) := by rfl)
    (hbind : ∀ (q : Str) (cl : List (Str × Addr)) (pm cv ctv : Value), bindArgs (PySem.W.kla_fn "<lambda>" q pr bd sc cl pm cv ctv) ⟨[], []⟩ = pure [] := by intros; rfl)
    (h1 : (x == ("__debug__" : Str)) = false := by decide) (h2 : (y == ("__debug__" : Str)) = false := by decide) (h3 : (y == ("__classdict__" : Str)) = false := by decide) :
    DE X E0 (.Call (.Name x p) [.Lambda pr bd sc lp] [] pos) (wKind a q KD w) := by
  obtain ⟨st, Ng, g, fd, F, hm, hb, Sg, h0, hv, hG⟩ := h.ex
  obtain ⟨oc, od, kV, doc, pm, an, cdv, ct, osl, rfl, lk, hcd⟩ := F.ex
  exact de_kind hq hg hm F.kp lk hcd hb Sg h0 hv (hG X n cdv _ rfl rfl hr) tb ec hr L hd hbind hbody h1 h2 h3
end
end DL
set_option maxHeartbeats 4000000
namespace DL
open PySem L2
section
variable {X : Cx} {E : XK} {pos p : Pos}
def wSlH (w : WE) (u : WE) : WE := fun δ N Q E => w δ N (fun d N1 => IsL d ∧ u δ N1 (fun i N2 => IsI i ∧ Q (.lst (cutD (toL d) none (some (toI i)))) N2) E) E
theorem de_slH {a b : Expr} {w u : WE} {p2} (ha : DE X E a w) (hb : DE X E b u) : DE X E (.Subscript a (.Slice none (some b) none p2) pos) (wSlH w u) := by
  refine pe_imp (pe_slice sl_list ha po_none (po_some hb)) fun σ H Q h => ?_
  obtain ⟨δ, N, F, P, Q', E', o, q', q, qe⟩ := h
  refine ⟨δ, N, F, P, _, E', o, q', fun v H1 F1 P1 d N1 fp t1 o1 r1 k1 q1 => ?_, qe⟩
  obtain ⟨hl, q2⟩ := q1
  refine ⟨δ, N1, F1, P1, _, E', o1, q2, fun x H2 F2 P2 i N2 fq t2 o2 r2 k2 q3 => ?_, qe.tr t1⟩
  obtain ⟨hi, q4⟩ := q3
  refine ⟨toI i, r2.int_ hi, ?_⟩
  have k12 : ∀ z ∈ fp, F2 z := fun z hz => t2.fr z (k1 z hz)
  obtain ⟨pp, vs, f', rfl, hp, rl, rfl⟩ := (o1.keep t2 r1 k1).lst_ hl
  refine ⟨pp, vs, rfl, SqL.of hp, fun l hl => ?_⟩
  obtain ⟨f2, r3, s2, n2⟩ := rl.cut none (some (toI i))
  obtain ⟨o3, t3⟩ := o2.grow (Ex.new (o := .lst (cutV vs none (some (toI i)))) hl) (fun z => z = l) fun z hz => by subst hz; exact ⟨.inr hl, _, upd_same⟩
  exact q _ _ _ P2 (.lst (cutD (toL d) none (some (toI i)))) N2 (l :: f2) ((t1.trans t2).trans t3) o3 ⟨l, _, f2, rfl, upd_same, r3.ex (Ex.new hl), rfl⟩ (fun z hz => (List.mem_cons.mp hz).elim (fun e => .inr e) fun hz => .inl (k12 z (by simp [s2 z hz]))) q4
end
def nmT (p P : Addr) (q : Str) (d : D) : Nm := updN (nm1 p d) P ⟨true, .tab q⟩
theorem mix_toT {E : XK} {w : WS} {D' : Ends} {H : Hp} {a p q P : Addr} {lam : Str} {ns : List Int} {m : Int} {n : Nat} (hq : H q = none) (hp : H p = none) (hne : p ≠ q) (hP : H P = some (.tbl #[]))
    (hw : P ≠ p → w { nx := fun _ _ => False, rt := fun d _ => d = .bl true } (none :: some (.ref p) :: List.replicate n none) (nmT p P lam (.lst [.int m, .lst (ns.map .int), .int 0]))) (hD : ∀ H', D'.rt (.bl true) H') :
    tDS E false w D' (some (.ref a) :: some (.ref p) :: List.replicate n none) (upd (upd H q (.lst (ns.map V.int))) p (.lst [.int m, .ref q, .int 0])) := by
  have nP : P ≠ p := fun z => by rw [z, hp] at hP; cases hP
  have nQ : P ≠ q := fun z => by rw [z, hq] at hP; cases hP
  have e1 : upd (upd H q (.lst (ns.map V.int))) p (.lst [.int m, .ref q, .int 0]) p = some (.lst [.int m, .ref q, .int 0]) := upd_same
  have e2 : upd (upd H q (.lst (ns.map V.int))) p (.lst [.int m, .ref q, .int 0]) q = some (.lst (ns.map V.int)) := by rw [upd_ne (fun z => hne z.symm)]; exact upd_same
  have e3 : upd (upd H q (.lst (ns.map V.int))) p (.lst [.int m, .ref q, .int 0]) P = some (.tbl #[]) := by rw [upd_ne nP, upd_ne nQ]; exact hP
  have N1 : ∀ b c, nmT p P lam (.lst [.int m, .lst (ns.map .int), .int 0]) b = some c → (b = P ∧ c = ⟨true, .tab lam⟩) ∨ (b ≠ P ∧ b = p ∧ c = ⟨true, .lst [.int m, .lst (ns.map .int), .int 0]⟩) := fun b c h => by
    unfold nmT nm1 updN at h
    by_cases z : b = P
    · rw [if_pos z] at h; exact .inl ⟨z, (Option.some.inj h).symm⟩
    · rw [if_neg z] at h
      by_cases y : b = p
      · rw [if_pos y] at h; exact .inr ⟨z, y, (Option.some.inj h).symm⟩
      · rw [if_neg y] at h; cases h
  refine ⟨_, _, fun _ => False, fun b => b = p ∨ b = q ∨ b = P, _, ⟨⟨fun b => if b = P then [P] else [p, q], ?_⟩, ?_⟩, hw nP, ?_⟩
  · refine ⟨fun b c h => ?_, fun b c h _ => ?_, fun b b' c e hb h1 _ h2 => ?_, fun z hz => hz.elim, fun z hz => ?_⟩
    · rcases N1 b c h with ⟨rfl, rfl⟩ | ⟨nb, rfl, rfl⟩
      · rw [if_pos rfl]
        exact ⟨⟨b, #[], [], rfl, e3, True.intro, fun pos cv hc => by have z : codeAmong pos [] = some cv := hc; simp [codeAmong] at z, by simp, by simp, rfl⟩, by simp⟩
      · rw [if_neg nb]
        refine ⟨⟨b, _, [q], rfl, e1, ?_, rfl⟩, by simp⟩
        refine ⟨_, _, [], [q], rfl, ⟨rfl, rfl⟩, ⟨_, _, [q], [], rfl, ⟨q, _, [], rfl, e2, RpL.of_ints ns, rfl⟩, ⟨_, _, [], [], rfl, ⟨rfl, rfl⟩, RpL.nil, rfl⟩, rfl⟩, rfl⟩
    · by_cases z : b = P
      · rw [if_pos z]; exact ⟨by simp, fun z hz => by simp at hz; exact .inr (.inr hz)⟩
      · rw [if_neg z]; exact ⟨by simp [hne], fun z hz => by simp at hz; exact hz.imp id .inl⟩
    · rcases N1 b c h1 with ⟨rfl, _⟩ | ⟨nb, rfl, _⟩
      · rcases N1 b' e h2 with ⟨rfl, _⟩ | ⟨nb', rfl, _⟩
        · exact absurd rfl hb
        · rw [if_pos rfl, if_neg nb']
          intro z hz; simp at hz; subst hz; simp [nP, nQ]
      · rcases N1 b' e h2 with ⟨rfl, _⟩ | ⟨nb', rfl, _⟩
        · rw [if_pos rfl, if_neg nb]
          intro z hz; simp at hz ⊢; rcases hz with rfl | rfl
          · exact nP.symm
          · exact nQ.symm
        · exact absurd rfl hb
    · rcases hz with rfl | rfl | rfl
      · exact ⟨_, e1, fun xs z => by cases z⟩
      · exact ⟨_, e2, fun xs z => by cases z⟩
      · exact ⟨_, e3, fun xs z => by cases z⟩
  · refine ⟨by simp, fun z hz => hz.elim, fun i d h => ?_⟩
    match i, h with
    | 0, h => simp at h
    | 1, h =>
      have : D.ref p = d := by simpa using h
      subst this
      exact ⟨.ref p, [], rfl, ⟨rfl, rfl⟩, fun z hz => by cases hz⟩
    | i + 2, h =>
      have h' : (List.replicate n (none : Option D))[i]? = some (some d) := by simpa using h
      have := List.mem_of_getElem? h'
      have := (List.mem_replicate.mp this).2
      cases this
  · refine ⟨fun σ' H' F' P' δ' N' t o z => False.elim z, fun σ' H' F' P' δ' N' t o z => False.elim z, fun σ' H' F' P' δ' N' t o z => False.elim z, fun v H' F' P' d N' fp t wf r rt z => ?_, fun x cls dd H' F' P' N' t wf r z => False.elim z⟩
    subst z
    rw [r.1]
    exact hD H'
def spLawT (K : PySem.W.Frag) (P : Addr) : Sp := fun vs H Q _ => ∃ (a : Addr) (ns : List Int), vs = [.ref a] ∧ SqL K H a (ns.map V.int) ∧ H P = some (.tbl #[]) ∧ ∀ H', Q (.bl true) H'
theorem law_cx0T {P : Program} {w : World} {K : PySem.W.Frag} {mg : Str → Option Value} {base : Heap} {k : Nat} {f T : Addr} {fd : FuncData} {ps : List Str} (F : FnOk P w K mg base (L2.CX P w) k f fd ps (spLawT K T)) : FnOk P w K mg base CX0 k f fd ps (spLawT K T) :=
  ⟨F.len, fun A outer s H args us vs Q E hr he hb hv hs => codeAny_mono (F.run A outer s H args us vs Q E0 hr he hb hv hs) fun r s' h => by
    cases r with
    | ok v => cases v <;> exact h
    | error e =>
      obtain ⟨_, _, _, _, _, _, _, _, _, _, _, _, z⟩ := (show L2.CX P w outer H s E0 e s' from h)
      exact False.elim z⟩
def notTb (g : Addr → Option Obj) (a : Addr) : Bool := match g a with
  | some ⟨.none, _, .fields vs, _⟩ => vs.size != 0
  | _ => true
def frT (n : Nat) (g : Addr → Option Obj) : PySem.W.Frag := He.frG g ((cStatics :: He.asG g n).filter (notTb g))
def emptyTb : Option Obj → Bool
  | some ⟨.none, none, .fields vs, sl⟩ => vs.size == 0 && sl.size == 0
  | _ => false
theorem emptyTb_ok {o : Option Obj} (h : emptyTb o = true) : o = some (PySem.W.tabObj #[]) := by
  unfold emptyTb at h
  split at h
  · rename_i vs sl
    simp only [Bool.and_eq_true, beq_iff_eq] at h
    obtain ⟨h1, h2⟩ := h
    obtain rfl := Array.eq_empty_of_size_eq_zero h1
    obtain rfl := Array.eq_empty_of_size_eq_zero h2
    rfl
  · cases h
def tbB (K : PySem.W.Frag) (g : Addr → Option Obj) : Bool := match PySem.W.tabIn K "law" with
  | some (c, P) => PySem.W.codeHdIn K c P && (emptyTb (g P) && (K.lookup P).isNone)
  | none => false
def obT (n : Nat) (fa : List He.Fa) (fn : List He.FnD) (ext : PySem.W.Frag → Bool) (g : Addr → Option Obj) : He.Al × Bool := (fun K => (He.obsE fa fn K, ext K && tbB K g)) (frT n g)
structure SaysT (fa : List He.Fa) (fn : List He.FnD) (ext : PySem.W.Frag → Bool) (h : Heap) (K : PySem.W.Frag) : Prop where
  kin : K.In h
  says : He.SaysE fa fn K
  ext : ext K = true
  tb : ∃ c P, PySem.W.tabIn K "law" = some (c, P) ∧ PySem.W.codeHdIn K c P = true ∧ h.get? P = some (PySem.W.tabObj #[]) ∧ K.lookup P = none
def hookT (n : Nat) (fa : List He.Fa) (fn : List He.FnD) (ext : PySem.W.Frag → Bool) : PySem.W.Hook where
  α := He.Al × Bool
  obs := fun s => obT n fa fn ext s.heap.get?
  val := fun _ => (He.valE fn, true)
  says := fun _ h => ∃ K : PySem.W.Frag, SaysT fa fn ext h K
  of := fun _ s e => by
    have e1 : He.obsE fa fn (frT n s.heap.get?) = He.valE fn := congrArg Prod.fst e
    have e2 : (ext (frT n s.heap.get?) && tbB (frT n s.heap.get?) s.heap.get?) = true := congrArg Prod.snd e
    obtain ⟨x1, x2⟩ := Bool.and_eq_true_iff.mp e2
    refine ⟨frT n s.heap.get?, He.frG_in, e1, x1, ?_⟩
    unfold tbB at x2
    split at x2
    · rename_i c P hc
      obtain ⟨y1, y2⟩ := Bool.and_eq_true_iff.mp x2
      obtain ⟨y2, y3⟩ := Bool.and_eq_true_iff.mp y2
      exact ⟨c, P, hc, y1, emptyTb_ok y2, Option.isNone_iff_eq_none.mp y3⟩
    · cases x2
  keeps := fun _ _ _ ⟨K, z⟩ k => ⟨K, PySem.W.Frag.In.keeps z.kin k, z.says, z.ext, let ⟨c, P, a1, a2, a3, a4⟩ := z.tb; ⟨c, P, a1, a2, k _ _ a3, a4⟩⟩
theorem obT_eq {n : Nat} {fa : List He.Fa} {fn : List He.FnD} {ext : PySem.W.Frag → Bool} {g : Addr → Option Obj} {s : Shared} (h : ∀ a, g a = s.heap.get? a) : obT n fa fn ext g = (hookT n fa fn ext).obs s := by
  have e : g = s.heap.get? := funext h
  rw [e]; rfl
def excB (K : PySem.W.Frag) (D : Addr) : Bool :=
  He.eqO (PySem.W.findIn K (.ref D) "__getattribute__") (some (some (.builtin "BaseException.__getattribute__"))) && (He.eqO (PySem.W.findIn K (.ref D) "__getattr__") (some none) && (decide (PySem.W.subIn K (.ref D) (.type "BaseException") = some true) && (PySem.W.hasDictIn K D &&
    (He.eqO (PySem.W.findIn K (.ref D) "__class__") (some (some (.builtin "object.__class__"))) && (He.eqO (PySem.W.specialIn K (.builtin "object.__class__") "__get__") (some (some (.builtin "getset_descriptor.__get__"))) && (decide (PySem.W.takesIn K (.builtin "object.__class__") = some true) && decide (PySem.W.mroIn K D (.type "object") = some true)))))))
theorem excB_ok {K : PySem.W.Frag} {D : Addr} (h : excB K D = true) : L2.ExcC K D := by
  unfold excB at h
  simp only [Bool.and_eq_true, decide_eq_true_eq] at h
  obtain ⟨h1, h2, h3, h4, h5, h6, h7, h8⟩ := h
  exact ⟨He.eqO_ok h1, He.eqO_ok h2, h3, h4, He.eqO_ok h5, He.eqO_ok h6, h7, h8⟩
def extK (K : PySem.W.Frag) : Bool := (He.Fa.ok K (.glo "AirError")) && (List.range 12).all fun j =>
  He.Fa.ok K (.glo (kN j)) && (excB K (He.ga K (kN j)) && ((decide (PySem.W.kitOne K (.ref (He.ga K (kN j))) (.type "ValueError") = some true) && decide (PySem.W.exmOne K (.ref (He.ga K (kN j))) (.ref (He.ga K "AirError")) = some true)) &&
    (List.range 12).all fun i => decide (PySem.W.kitOne K (.ref (He.ga K (kN j))) (.ref (He.ga K (kN i))) = some (decide (i = j)))))
theorem kfacts_ok {K : PySem.W.Frag} {h : Heap} {mg : Str → Option Value} (X : K.In h) (G : h.Ns mainGlobals mg) (e : extK K = true) : KFacts K mg (He.ga K) := by
  obtain ⟨e1, e2⟩ := Bool.and_eq_true_iff.mp e
  have one : ∀ j, j < 12 → He.Fa.ok K (.glo (kN j)) = true ∧ excB K (He.ga K (kN j)) = true ∧ (PySem.W.kitOne K (.ref (He.ga K (kN j))) (.type "ValueError") = some true ∧ PySem.W.exmOne K (.ref (He.ga K (kN j))) (.ref (He.ga K "AirError")) = some true) ∧
      ∀ i, i < 12 → PySem.W.kitOne K (.ref (He.ga K (kN j))) (.ref (He.ga K (kN i))) = some (decide (i = j)) := fun j hj => by
    have z := List.all_eq_true.mp e2 j (List.mem_range.mpr hj)
    simp only [Bool.and_eq_true, decide_eq_true_eq] at z
    obtain ⟨z1, z2, ⟨z3, z4⟩, z5⟩ := z
    exact ⟨z1, z2, ⟨z3, z4⟩, fun i hi => of_decide_eq_true (List.all_eq_true.mp z5 i (List.mem_range.mpr hi))⟩
  exact ⟨fun j hj => He.glo_ok X G (one j hj).1, fun j hj => excB_ok (one j hj).2.1, fun i j hi hj => (one j hj).2.2.2 i hi, fun j hj => (one j hj).2.2.1.1, He.glo_ok X G e1, fun j hj => (one j hj).2.2.1.2⟩
theorem code_of {K : PySem.W.Frag} {st : Stmt} {f g c P : Addr} {fd : FuncData} {x : Str} {oc cdv : Value} {od : Option Addr} {osl : Array (Option Value)} {h : Heap} {mg : Str → Option Value} (X : K.In h) (G : h.Ns mainGlobals mg) (ht : PySem.W.tabIn K x = some (c, P)) (hm : mg x = some (.ref f))
    (lk : K.lookup f = some ⟨oc, od, .func fd, osl⟩) : fd.code = .ref c := PySem.W.law_code X G ht hm (X _ _ lk) rfl
theorem walk_tb {l : PySem.W.OpenLaw} {n k : Nat} {q : Program} {loose : List Str} {XP : (Str → Option Value) → Heap → Prop} {YP : World → Heap → Prop} {d : DefRec} {CX : CXT} {x : Str} (hn : l.most = some n) (hn2 : n ≤ sizeLine) (hdf : d.params.defaults = []) (hr : Room k callerA)
    (F : ∀ (w : World) (mg : Str → Option Value) (fa : Addr) (h : Heap), YP w h → h.Ns mainGlobals mg → mg d.name = some (.ref fa) → ∃ (K : PySem.W.Frag) (fd : FuncData) (c P : Addr) (sp : Sp), K.In h ∧ h.get? P = some { cls := .none, data := .fields #[] } ∧ K.lookup P = none ∧ PySem.W.CodeHd h c P ∧
      (∀ (s : Shared) (u : Value), BindsTo s fd ⟨[u], []⟩ [(x, u)]) ∧ (∀ (H : Hp) (a : Addr) (ns : List Int), H P = some (.tbl #[]) → SqL K H a (ns.map V.int) → sp [.ref a] H (fun v _ => v = .bl true) fun _ _ _ => False) ∧
      ∀ base : Heap, K.In base → base.Ns mainGlobals mg → LamX.TabB base mg c P → FnOk l.prog w K mg base CX k fa fd [x] sp)
    (hCX : ∀ (H : Hp) (s : Shared) (e : Value) (s' : Shared), CX [] H s (fun _ _ _ => False) e s' → False) : PySem.W.WalkO q loose XP YP l.row.toRowW d [] (fun f vs => PySem.call f vs) := by
  refine Att.attach_callB hn hdf fun w _ s1 mg mb fa o pm cd doc a vs ns G Y ho hd hcd hmg hobj hints hlen hbits hg => ?_
  obtain ⟨K, fd, c, P, sp, KX, hT, nT, C, hb, hsp, hF⟩ := F w mg fa _ Y G.T.g hmg
  exact LamX.law_callTs (cs := [(c, P)]) KX G.T.g G.T.b G.T.builtins G.T.nolimit hg (fun p hp => by rw [List.mem_singleton.mp hp]; exact hT) (fun p hp => by rw [List.mem_singleton.mp hp]; exact nT) (fun p hp => by rw [List.mem_singleton.mp hp]; exact C) G.T.bmain hobj hints (Nat.le_trans hlen hn2) hr
    (fun base b1 b2 b3 => hF base b1 b2 (b3 (c, P) (List.mem_singleton.mpr rfl))) hb (fun H hH hS => hsp H a ns (hH (c, P) (List.mem_singleton.mpr rfl)) hS) fun H e s' => hCX H s1 e s'
end DL
set_option maxHeartbeats 4000000
namespace DL
open PySem L2
abbrev kE (a : Addr) (j i : Nat) : PF := pIsE 1 a (decide (i = j))
def w_kind (a : Addr) (j : Nat) : WS := sSeq (sSet 2 (wP (pLst (aCons (kE a j 0) (aCons (kE a j 1) (aCons (kE a j 2) (aCons (kE a j 3) aNil)))))))
  (sSeq (sSet 2 (wP (p2 catL (pVar 2) (pLst (aCons (kE a j 4) (aCons (kE a j 5) (aCons (kE a j 6) aNil)))))))
  (sSeq (sSet 2 (wP (p2 catL (pVar 2) (pLst (aCons (kE a j 7) (aCons (kE a j 8) (aCons (kE a j 9) aNil)))))))
  (sSeq (sSet 2 (wP (p2 catL (pVar 2) (pLst (aCons (kE a j 10) (aCons (kE a j 11) aNil))))))
  (sSeq (sIf (wT (tOr2 (tc2 (neT 8) (p2 cntD (pDr (pVar 2)) (pBl true)) (pInt 1)) (tNot1 (tOf (pIsE 1 a true))))) (sRet (wP (pStr "other"))) sNext)
  (sSeq (sSet 3 (wP (pLst (aCons (pStr "BadRows") (aCons (pStr "BadLog") (aCons (pStr "BadText") (aCons (pStr "BadEnd") (aCons (pStr "BadFillers") (aCons (pStr "BadRoom") (aCons (pStr "BadSecond") (aCons (pStr "BadCount") aNil)))))))))))
  (sSeq (sSet 3 (wP (p2 catL (pVar 3) (pLst (aCons (pStr "NotLive") (aCons (pStr "BadRow") (aCons (pStr "BadPlace") (aCons (pStr "NoRow") aNil))))))))
  (sSeq (sSet 4 (wP (p2 idxD (pDr (pVar 2)) (pBl true))))
  (sRet (wP (pIf (tc2 cGt (pDr (pVar 4)) (pInt 2)) (pLf (p2 ixQ (pDr (pVar 3)) (pDr (pVar 4)))) (fun _ _ => ⟨False, .non⟩)))))))))))
def bls (j : Nat) (n : Nat) : List D := (List.range n).map fun i => D.bl (decide (i = j))
def kWs : List D := kNames.map D.str
theorem ok_bls {j n : Nat} : okD 8 (.lst (bls j n)) := fun d hd => by
  obtain ⟨i, _, rfl⟩ := List.mem_map.mp hd
  trivial
theorem cnt_bls {j : Nat} (h : j < 12) : cntD (.lst (bls j 12)) (.bl true) = ⟨True, .int 1⟩ := by
  have e : ((bls j 12).countP fun z => eqD z (.bl true)) = 1 := by
    have e1 : (fun z => eqD z (.bl true)) ∘ (fun i => D.bl (decide (i = j))) = fun i => decide (i = j) := by
      funext i
      show eqD (.bl (decide (i = j))) (.bl true) = _
      rw [eqD_bl]; by_cases z : i = j <;> simp [z]
    unfold bls
    rw [List.countP_map, e1]
    have : ∀ j : Fin 12, (List.range 12).countP (fun i => decide (i = j.val)) = 1 := by decide
    exact this ⟨j, h⟩
  unfold cntD
  rw [toL_lst, e]
  congr 1
  exact eq_true ⟨ok_bls, trivial, trivial⟩
theorem idx_bls {j : Nat} (h : j < 12) : idxD (.lst (bls j 12)) (.bl true) = ⟨True, .int j⟩ := by
  have e : ((bls j 12).findIdx? fun z => eqD z (.bl true)) = some j := by
    have e1 : (fun z => eqD z (.bl true)) ∘ (fun i => D.bl (decide (i = j))) = fun i => decide (i = j) := by
      funext i
      show eqD (.bl (decide (i = j))) (.bl true) = _
      rw [eqD_bl]; by_cases z : i = j <;> simp [z]
    unfold bls
    rw [List.findIdx?_map, e1]
    have : ∀ j : Fin 12, (List.range 12).findIdx? (fun i => decide (i = j.val)) = some j.val := by decide
    exact this ⟨j, h⟩
  unfold idxD
  rw [toL_lst, e]
  congr 1
  exact eq_true ⟨ok_bls, trivial, trivial, rfl⟩
theorem catL_l {a b : List D} (h : a.length + b.length ≤ SZ) : catL (.lst a) (.lst b) = ⟨True, .lst (a ++ b)⟩ := by
  unfold catL
  rw [toL_lst, toL_lst]
  congr 1
  exact eq_true ⟨trivial, trivial, h⟩
theorem sz4 {n : Nat} (h : n ≤ 4) : n ≤ SZ := Nat.le_trans h (by decide)
theorem r_kind {a : Addr} {j : Nat} (h2 : 2 < j) (h : j < 12) : w_kind a j { nx := fun _ _ => False, rt := fun d _ => d = .str (kN j) } [none, some (.ref a), none, none, none] fun _ => none := by
  unfold w_kind
  have step : ∀ (x2 x3 x4 : Option D) (i : Nat), (kE a j i [none, some (.ref a), x2, x3, x4] fun _ => none) = ⟨True, .bl (decide (i = j))⟩ := fun x2 x3 x4 i => by
    unfold kE pIsE
    congr 1
    exact eq_true rfl
  refine st_set (.lst (bls j 4)) ?c0 rfl ?_
  case c0 =>
    simp only [pLst, aCons, step, aNil]
    exact ⟨⟨⟨trivial, trivial, trivial, trivial, trivial⟩, sz4 (Nat.le_of_ble_eq_true rfl)⟩, rfl⟩
  refine st_set (.lst (bls j 7)) ?c1 rfl ?_
  case c1 =>
    show (p2 catL (pVar 2) _ [none, some (.ref a), some (.lst (bls j 4)), none, none] _).ok ∧ (p2 catL (pVar 2) _ [none, some (.ref a), some (.lst (bls j 4)), none, none] _).val = _
    simp only [p2, pLst, aCons, step, aNil]
    rw [show (pVar 2 [none, some (.ref a), some (.lst (bls j 4)), none, none] fun _ => none) = ⟨True, .lst (bls j 4)⟩ by unfold pVar; congr 1; exact eq_true rfl, catL_l (by simp [bls]; decide)]
    exact ⟨⟨trivial, ⟨⟨trivial, trivial, trivial, trivial⟩, sz4 (Nat.le_of_ble_eq_true rfl)⟩, trivial⟩, rfl⟩
  refine st_set (.lst (bls j 10)) ?c2 rfl ?_
  case c2 =>
    show (p2 catL (pVar 2) _ [none, some (.ref a), some (.lst (bls j 7)), none, none] _).ok ∧ (p2 catL (pVar 2) _ [none, some (.ref a), some (.lst (bls j 7)), none, none] _).val = _
    simp only [p2, pLst, aCons, step, aNil]
    rw [show (pVar 2 [none, some (.ref a), some (.lst (bls j 7)), none, none] fun _ => none) = ⟨True, .lst (bls j 7)⟩ by unfold pVar; congr 1; exact eq_true rfl, catL_l (by simp [bls]; decide)]
    exact ⟨⟨trivial, ⟨⟨trivial, trivial, trivial, trivial⟩, sz4 (Nat.le_of_ble_eq_true rfl)⟩, trivial⟩, rfl⟩
  refine st_set (.lst (bls j 12)) ?c3 rfl ?_
  case c3 =>
    show (p2 catL (pVar 2) _ [none, some (.ref a), some (.lst (bls j 10)), none, none] _).ok ∧ (p2 catL (pVar 2) _ [none, some (.ref a), some (.lst (bls j 10)), none, none] _).val = _
    simp only [p2, pLst, aCons, step, aNil]
    rw [show (pVar 2 [none, some (.ref a), some (.lst (bls j 10)), none, none] fun _ => none) = ⟨True, .lst (bls j 10)⟩ by unfold pVar; congr 1; exact eq_true rfl, catL_l (by simp [bls]; decide)]
    exact ⟨⟨trivial, ⟨⟨trivial, trivial, trivial⟩, sz4 (Nat.le_of_ble_eq_true rfl)⟩, trivial⟩, rfl⟩
  have d2 : ∀ x3 x4 : Option D, (pDr (pVar 2) [none, some (.ref a), some (.lst (bls j 12)), x3, x4] fun _ => none) = ⟨True, .lst (bls j 12)⟩ := fun x3 x4 => by unfold pDr pVar; congr 1; exact eq_true rfl
  refine st_ifF ?c4 ?_
  case c4 =>
    show (tOr2 _ _ [none, some (.ref a), some (.lst (bls j 12)), none, none] _).ok ∧ (tOr2 _ _ [none, some (.ref a), some (.lst (bls j 12)), none, none] _).b = false
    simp only [tOr2, tc2, p2, d2, pBl, cnt_bls h, pInt, tNot1, tOf, pIsE]
    have e : neT 8 (.int 1) (.int 1) = ⟨True, false⟩ := by
      unfold neT
      rw [eqD_int]
      congr 1
      exact eq_true ⟨trivial, trivial⟩
    rw [e]
    exact ⟨⟨⟨⟨trivial, trivial, trivial⟩, trivial, trivial⟩, fun _ => ⟨rfl, trivial⟩⟩, rfl⟩
  refine st_set (.lst (kWs.take 8)) ⟨⟨⟨trivial, trivial, trivial, trivial, trivial, trivial, trivial, trivial, trivial⟩, Nat.le_of_ble_eq_true rfl⟩, rfl⟩ rfl ?_
  refine st_set (.lst kWs) ?c5 rfl ?_
  case c5 =>
    show (p2 catL (pVar 3) _ [none, some (.ref a), some (.lst (bls j 12)), some (.lst (kWs.take 8)), none] _).ok ∧ (p2 catL (pVar 3) _ [none, some (.ref a), some (.lst (bls j 12)), some (.lst (kWs.take 8)), none] _).val = _
    simp only [p2, pLst, aCons, pStr, aNil]
    rw [show (pVar 3 [none, some (.ref a), some (.lst (bls j 12)), some (.lst (kWs.take 8)), none] fun _ => none) = ⟨True, .lst (kWs.take 8)⟩ by unfold pVar; congr 1; exact eq_true rfl, catL_l (by decide)]
    exact ⟨⟨trivial, by decide, trivial⟩, rfl⟩
  refine st_set (.int j) ?c6 rfl ?_
  case c6 =>
    show (p2 idxD _ _ [none, some (.ref a), some (.lst (bls j 12)), some (.lst kWs), none] _).ok ∧ (p2 idxD _ _ [none, some (.ref a), some (.lst (bls j 12)), some (.lst kWs), none] _).val = _
    simp only [p2, d2, pBl, idx_bls h]
    exact ⟨⟨trivial, trivial, trivial⟩, trivial⟩
  show sRet _ _ [none, some (.ref a), some (.lst (bls j 12)), some (.lst kWs), some (.int j)] _
  have d3 : (pDr (pVar 3) [none, some (.ref a), some (.lst (bls j 12)), some (.lst kWs), some (.int j)] fun _ => none) = ⟨True, .lst kWs⟩ := by unfold pDr pVar; congr 1; exact eq_true rfl
  have d4 : (pDr (pVar 4) [none, some (.ref a), some (.lst (bls j 12)), some (.lst kWs), some (.int j)] fun _ => none) = ⟨True, .int j⟩ := by unfold pDr pVar; congr 1; exact eq_true rfl
  have e1 : atI kWs (j : Int) = some (.str (kN j)) := by
    rw [atI_nat]
    have : ∀ j : Fin 12, kWs[j.val]? = some (.str (kN j.val)) := fun j => by
      match j with
      | ⟨0, _⟩ => rfl
      | ⟨1, _⟩ => rfl
      | ⟨2, _⟩ => rfl
      | ⟨3, _⟩ => rfl
      | ⟨4, _⟩ => rfl
      | ⟨5, _⟩ => rfl
      | ⟨6, _⟩ => rfl
      | ⟨7, _⟩ => rfl
      | ⟨8, _⟩ => rfl
      | ⟨9, _⟩ => rfl
      | ⟨10, _⟩ => rfl
      | ⟨11, _⟩ => rfl
    exact this ⟨j, h⟩
  have e2 : ixQ (.lst kWs) (.int j) = ⟨True, .str (kN j)⟩ := by
    unfold ixQ
    rw [toL_lst, toI_int, e1]
    congr 1
    exact eq_true ⟨trivial, trivial, rfl⟩
  have et : (tc2 cGt (pDr (pVar 4)) (pInt 2) [none, some (.ref a), some (.lst (bls j 12)), some (.lst kWs), some (.int j)] fun _ => none) = ⟨True, true⟩ := by
    simp only [tc2, d4, pInt, cGt, cI]
    congr 1
    · exact eq_true ⟨trivial, trivial, trivial, trivial⟩
    · show decide ((2 : Int) < (j : Int)) = true
      exact decide_eq_true (by omega)
  refine ⟨?_, ?_⟩
  · show (pIf _ _ _ _ _).ok
    unfold pIf
    rw [et]
    exact ⟨trivial, by simp only [if_true, pLf, p2, d3, d4, e2]; exact ⟨⟨trivial, trivial, trivial⟩, trivial⟩⟩
  · show (pIf _ _ _ _ _).val = _
    unfold pIf
    rw [et]
    simp only [if_true, pLf, p2, d3, d4, e2]
theorem kd0_ok {K : PySem.W.Frag} {mg : Str → Option Value} {CX : Str → Addr} (KF : KFacts K mg CX) {z : Exc} {dk : D} (h : KD0 CX z dk) : z.arg = none ∧ lf dk ∧ PySem.W.exmOne K (.ref z.cls) (.ref (CX "AirError")) = some true := by
  obtain ⟨h1, j, h2, h3, h4, rfl⟩ := h
  exact ⟨h1, trivial, by rw [h4]; exact KF.exm j h3⟩
theorem lt64 {A : Around} (h : A.units + 65 < cLine) : A.units + 64 < cLine := Nat.lt_of_succ_lt h
theorem lam_body {X : Cx} {A : Around} {outer : List Env} {s : Shared} {H : Hp} {E : XK} {sc : Scope} {f b : Addr} {bd : Expr} {w : WE} (k : Passes (L2.CX X.prog X.w) (LamX.lamCx X A outer s H E sc f b) E → DE (LamX.lamCx X A outer s H E sc f b) E bd w) : DE (LamX.lamCx X A outer s H E sc f b) E bd w := k lam_passes
theorem okXC {P : Program} {w : World} {K : PySem.W.Frag} {mg : Str → Option Value} {base : Heap} {x qual : Str} {st : Stmt} {f : Addr} {fd : FuncData} {N ps : List Str} {k : Nat} {sp : Sp} (F : L2.Fun K x qual st f fd) (S : FnScope N ps (defScope st)) (len : ∀ vs H Q E, sp vs H Q E → vs.length = ps.length)
    (hb : ∀ cdv, fd.code = cdv → ∀ (A : Around) (outer : List Env) (s : Shared) (H : Hp) (vs : List V) (Q : VK) (E : XK), Room k (A.deeper (PyProof.Rows.envOfC qual (defScope st) s.heap.objs.size f cdv)) → sp vs H Q E →
      ∃ t, PSs (cxOf (L2.CX P w) P w K mg base N qual (defScope st) f cdv A outer s H E) (defBody st) t ∧ t { nx := fun _ H' => Q .non H', rt := Q } (L2.start N vs) H) : FnOk P w K mg base (L2.CX P w) (k + 1) f fd ps sp := by
  obtain ⟨oc, od, kV, doc, pm, an, cdv, ct, osl, rfl, lk, hcd⟩ := F.ex
  exact fn_of lk hcd S len fun A outer s H vs Q E hr h => hb cdv rfl A outer s H vs Q E hr h
def lamq : Str := (("law" : Str) ++ ".<locals>.") ++ "<lambda>"
end DL
set_option maxHeartbeats 4000000
namespace DL
open PySem PySem.Spec PyProof.Rows L2
section
variable {X : Cx} {pins : List (Addr × Obj)} {σ : L2.St} {H : Hp} {s : Shared}
abbrev dObj (X : Cx) (pr : Arguments) (bd : Expr) (sc : Scope) (tA : Addr) (doc pm : Value) (b : Addr) (ct : Value) : Obj :=
  PySem.W.kdv_obj "<lambda>" (X.env.qual ++ "<lambda>") pr (.expr bd) sc (cloFrom X.env.cells sc.names []) (.ref tA) doc pm b ct
theorem lamD_new {a0 a : Addr} {ps : Array Value} {pr : Arguments} {bd : Expr} {sc : Scope} {pos p1 : Pos} {i : Int} {j : Nat} {E Q : Value → Shared → Prop} (I : Inv X pins σ H s) (tb : LamX.TabB X.base X.mg a0 a) (ec : X.env.code = .ref a0) (hp : H a = some (.tbl ps)) (tr : TriplesOk ps.toList)
    (kn : ∀ cv, codeAmong pos ps.toList = some cv → ∃ b, cv = .ref b ∧ H b = some (LamX.CodeO b (X.env.qual ++ "<lambda>"))) (hd : pr.defaults = [.Constant (.int i) j p1]) (hk : pr.kw_defaults = []) (fr : ∀ y ∈ sc.names, y.2 = .free → ∃ z, X.env.cells.lookup y.1 = some z)
    (hE : ∀ u s', X.xe u s' → E u s')
    (k : ∀ (f b tA : Addr) (doc pm ct : Value) (tk : Tok) (H1 : Hp) (s1 : Shared), Inv X pins σ H1 s1 → (H1 = H ∨ (H b = none ∧ H1 = tbNew H a ps pos b (X.env.qual ++ "<lambda>"))) → H1 b = some (LamX.CodeO b (X.env.qual ++ "<lambda>")) →
      s1.heap.get? f = some (dObj X pr bd sc tA doc pm b ct) → H1 f = none → f ∉ frs X.stack → s1.heap.get? tA = some (PySem.W.kdv_tup [.int i tk]) → H1 tA = none → tA ∉ frs X.stack → Q (.ref f) s1) :
    wpAny (model X.prog X.w) X.A (eval (.Lambda pr bd sc pos) X.env) Q E s := by
  refine PySem.W.kdv_lam (by rw [hd]; rfl) hk ?_
  rw [hd]
  refine PySem.W.kdv_all1 (wpAny_mono ((pe_int (X := X) (i := i)).run pins s σ H (fun v H1 => v = .int i ∧ H1 = H) I ⟨rfl, rfl⟩) (fun u s0 hu => ?_) hE)
  obtain ⟨v, H0, I0, ru, rfl, rfl⟩ := hu
  obtain ⟨tk0, rfl⟩ := ru
  refine PySem.W.kdv_all0 ?_
  rw [makeFunction_eq]
  simp only [List.zip_nil_right, List.filterMap_nil, List.isEmpty_nil, List.isEmpty_cons, if_true, pure_bind, Bool.false_eq_true, if_false]
  refine wpAny_bind (wpAny_newTextTuple ?_)
  have hT0 : (s0.heap.push (PySem.W.kdv_tup [.int i tk0])).get? s0.heap.objs.size = some (PySem.W.kdv_tup [.int i tk0]) := Heap.get?_push_size _ rfl
  have J0 : Inv X pins σ H0 { s0 with heap := s0.heap.push (PySem.W.kdv_tup [.int i tk0]) } := I0.kept fun z o h => Heap.get?_push_of_some _ h
  have nT : H0 s0.heap.objs.size = none := I0.hok.fresh (Nat.le_refl _)
  have b3 : ∀ f, s0.heap.objs.size ≤ f → f ∉ frs X.stack := fun f hf z => by
    rcases List.mem_cons.mp (I0.stkSub _ z) with h | h
    · have := I0.lt
      rw [← h] at this
      exact absurd hf (Nat.not_le_of_lt this)
    · exact I0.nofs hf h
  have hsz : s0.heap.objs.size ≤ (s0.heap.push (PySem.W.kdv_tup [.int i tk0])).objs.size := by rw [Heap.size_push]; omega
  have b1 : (s0.heap.push (PySem.W.kdv_tup [.int i tk0])).BuiltinsAt X.mg a := tb.bm.keeps J0.bk
  have b2 : (s0.heap.push (PySem.W.kdv_tup [.int i tk0])).get? a = some { cls := .none, data := .fields ps } := J0.hok a _ hp
  cases hc : codeAmong pos ps.toList with
  | some cv =>
    obtain ⟨b, rfl, hb⟩ := kn cv hc
    refine PySem.W.kdv_makeTailHit (s := { s0 with heap := s0.heap.push (PySem.W.kdv_tup [.int i tk0]) }) (P := a) (ps := ps) (mg := X.mg) (c := a0) (closure_ok fr) J0.ok.glob (J0.mod.glob.keeps J0.bk) ec (tb.code.keeps J0.bk) b2 tr hc b1 fun ct doc h1 tk hx hs => ?_
    have J : Inv X pins σ H0 { s0 with heap := h1.push (dObj X pr bd sc s0.heap.objs.size doc ((X.mg "__name__").getD .none) b ct), toks := tk } := J0.kept fun z o h => Heap.get?_push_of_some _ (hx z o h)
    exact k _ b _ doc _ ct tk0 H0 _ J (.inl rfl) hb (Heap.get?_push_size _ rfl) (J0.hok.fresh hs) (b3 _ (Nat.le_trans hsz hs)) (Heap.get?_push_of_some _ (hx _ _ hT0)) nT (b3 _ (Nat.le_refl _))
  | none =>
    refine PySem.W.kdv_makeTail (s := { s0 with heap := s0.heap.push (PySem.W.kdv_tup [.int i tk0]) }) (P := a) (ps := ps) (mg := X.mg) (c := a0) (closure_ok fr) J0.ok.glob (J0.mod.glob.keeps J0.bk) ec (tb.code.keeps J0.bk) b2 tr hc tb.gP b1 fun b ct doc h1 tk hx hge hlt hr ht => ?_
    obtain ⟨b', oc, vs, t, eb, h2, h3, h4⟩ := hr
    cases eb
    have hge : (s0.heap.push (PySem.W.kdv_tup [.int i tk0])).objs.size ≤ b := hge
    have hs : (s0.heap.push (PySem.W.kdv_tup [.int i tk0])).objs.size ≤ h1.objs.size := Nat.le_trans hge (Nat.le_of_lt hlt)
    have hbn : H0 b = none := J0.hok.fresh hge
    have nTa : s0.heap.objs.size ≠ a := fun z => by rw [z, hp] at nT; cases nT
    have nTb : s0.heap.objs.size ≠ b := fun z => by rw [Heap.size_push] at hge; omega
    have J := LamX.inv_table (q := X.env.qual ++ "<lambda>") (t' := tk) (more := #[rawInt pos.line, rawInt pos.col, .ref b]) (h' := h1.push (dObj X pr bd sc s0.heap.objs.size doc ((X.mg "__name__").getD .none) b ct)) J0 hp
      (fun z o n h => Heap.get?_push_of_some _ (hx z o n h)) (Heap.get?_push_of_some _ ht) hge ⟨oc, vs, t, Heap.get?_push_of_some _ h2, h3, h4⟩
    refine k h1.objs.size b _ doc _ ct tk0 _ _ J (.inr ⟨hbn, rfl⟩) upd_same (Heap.get?_push_size _ rfl) ?_ (b3 _ (Nat.le_trans hsz hs)) (Heap.get?_push_of_some _ (hx _ _ nTa hT0)) ?_ (b3 _ (Nat.le_refl _))
    · rw [upd_ne (Nat.ne_of_gt hlt), upd_ne (Nat.ne_of_gt (Nat.lt_of_lt_of_le (Heap.lt_size b2) hs))]
      exact J0.hok.fresh hs
    · rw [upd_ne nTb, upd_ne nTa]; exact nT
structure LamO (sc scope : Scope) (N : List Str) : Prop where
  fun_ : scope.kind = .function
  noco : scope.isCoroutine = false
  nogen : scope.isGenerator = false
  nocell : ∀ y ∈ scope.names, y.2 ≠ .cell
  mine : ∀ y ∈ scope.names, y.2 = .local → y.1 ∉ N
  capt : ∀ y ∈ scope.names, y.2 = .free → sc.names.lookup y.1 = some .cell ∨ sc.names.lookup y.1 = some .free
def lamOB (sc scope : Scope) (N : List Str) : Bool :=
  decide (scope.kind = .function) && !scope.isCoroutine && !scope.isGenerator && scope.names.all fun y => !decide (y.2 = .cell) && (!decide (y.2 = .local) || !decide (y.1 ∈ N)) && (!decide (y.2 = .free) || decide (sc.names.lookup y.1 = some .cell) || decide (sc.names.lookup y.1 = some .free))
theorem lamO_by {sc scope : Scope} {N : List Str} (h : lamOB sc scope N = true) : LamO sc scope N := by
  unfold lamOB at h
  simp only [Bool.and_eq_true, Bool.or_eq_true, Bool.not_eq_true', decide_eq_true_eq, decide_eq_false_iff_not, List.all_eq_true] at h
  obtain ⟨⟨⟨h1, h2⟩, h3⟩, h4⟩ := h
  refine ⟨h1, h2, h3, fun y hy => (h4 y hy).1.1, fun y hy e => ?_, fun y hy e => ?_⟩
  · rcases (h4 y hy).1.2 with z | z
    · exact absurd e z
    · exact z
  · rcases (h4 y hy).2 with (z | z) | z
    · exact absurd e z
    · exact .inl z
    · exact .inr z
theorem LamO.there {scope : Scope} (L : LamO X.env.scope scope X.N) (ok : X.Ok) : ∀ y ∈ scope.names, y.2 = .free → ∃ z, X.env.cells.lookup y.1 = some z := fun y hy e => (L.capt y hy e).elim (fun k => ok.has _ (.inl k)) fun k => ok.has _ (.inr k)
theorem lamD_start {HZ : Hp} {s1 : Shared} {A : Around} {outer : List Env} {E : XK} {scope : Scope} {f b : Addr} {h1 : Heap} {tk : Nat} {m1 : Str → Option Value} (I : Inv X pins σ H s) (L : LamO X.env.scope scope X.N) (e0 : Env0 X.prog X.w X.K X.mg X.base A outer s1 HZ) (hd : A.handled = none)
    (un : Un (frs X.stack) [] H HZ s.heap s1.heap) (hns : h1.Ns s1.heap.objs.size m1) (kp : ∀ z o, s1.heap.get? z = some o → h1.get? z = some o) : Inv (LamX.lamCx X A outer s1 HZ E scope f b) [] σ HZ { s1 with heap := h1, toks := tk } := by
  have frd := L.there I.ok
  have back : ∀ {y z}, (cloFrom X.env.cells scope.names []).lookup y = some z → X.env.cells.lookup y = some z := fun {y z} e => by
    rcases cloFrom_mem (PySem.mem_of_lookup e) with hm | ⟨g1, g2⟩
    · cases hm
    · obtain ⟨z1, hz⟩ := frd _ g1 rfl
      have hz : X.env.cells.lookup y = some z1 := hz
      have e2 : z = z1 := by rw [g2, hz] <;> rfl
      rw [e2]; exact hz
  have forth : ∀ {y}, scope.names.lookup y = some .free → ∃ z, (cloFrom X.env.cells scope.names []).lookup y = some z := fun {y} hl => mem_lookup (cloFrom_has (cells := X.env.cells) (acc := []) (show (y, NameKind.free) ∈ scope.names from PySem.mem_of_lookup hl))
  have cellQ : ∀ {z : Addr} {v : Option Value}, H z = none → s.heap.IsCell z v → h1.IsCell z v := fun {z v} n ⟨o, ho, hv⟩ => by
    obtain ⟨sl, q⟩ := un.any ho n (by simp)
    exact ⟨_, kp _ _ q, hv⟩
  have none_ : ∀ z : Addr, z ∉ (LamX.lamCx X A outer s1 HZ E scope f b).ex := fun z k => absurd (show z ∈ ([] : List Addr) from k) (by simp)
  have okN : (LamX.lamCx X A outer s1 HZ E scope f b).Ok := {
    mod := e0.mod, kind := L.fun_, glob := rfl, blt := rfl, above := Nat.le_refl _
    inj := fun y z c e1 e2 => I.ok.inj y z c (back e1) (back e2)
    has := fun y hy => by
      have hy : scope.names.lookup y = some .cell ∨ scope.names.lookup y = some .free := hy
      rcases hy with hy | hy
      · exact absurd rfl (L.nocell _ (PySem.mem_of_lookup hy))
      · exact forth hy
    cab := fun y c z _ => by have z : false = true := z; cases z
    hd := fun _ => hd, frames := Around.frames_deeper e0.frames, stk := .inr ⟨rfl, rfl⟩, exf := fun z k => absurd k (none_ z), bs := e0.bs, bsz := e0.bsz, noex := fun z _ _ => none_ z, exfs := fun z k => absurd k (none_ z), funs := e0.funs, frf := e0.frf }
  refine ⟨okN, rfl, e0.bare, Un.kept kp, ⟨_, hns, fun i y v e1 e2 e3 => ?_⟩, fun y c e => ?_, e0.hok.fresh (Nat.le_refl _), fun y c e => ?_, fun q hq => absurd (show q ∈ ([] : List (Addr × Obj)) ++ [] from hq) (by simp), e0.hok.kept kp, I.len⟩
  · have e3 : Vis scope y := e3
    rcases e3 with k | k | k
    · exact absurd (List.mem_of_getElem? (show X.N[i]? = some y from e1)) (L.mine _ (PySem.mem_of_lookup k) rfl)
    · exact absurd rfl (L.nocell _ (PySem.mem_of_lookup k))
    · obtain ⟨m, hn, hl⟩ := I.loc
      have vis : Vis X.env.scope y := (L.capt _ (PySem.mem_of_lookup k) rfl).elim (fun k => .inr (.inl k)) fun k => .inr (.inr k)
      obtain ⟨w', r, q⟩ := hl i y v e1 e2 vis
      obtain ⟨c2, g2⟩ := forth k
      refine ⟨w', r, .inr ⟨.inr k, c2, g2, ?_⟩⟩
      have g1 := back g2
      rcases q with ⟨k', _⟩ | ⟨_, c3, e', z⟩
      · have k' : X.env.scope.names.lookup y = some .local := k'
        rcases L.capt _ (PySem.mem_of_lookup k) rfl with k2 | k2
        · rw [show X.env.scope.names.lookup y = _ from k2] at k'; cases k'
        · rw [show X.env.scope.names.lookup y = _ from k2] at k'; cases k'
      · rw [g1] at e'
        cases e'
        exact cellQ (I.freeC y _ g1) z
  · obtain ⟨w', z⟩ := I.cell y c (back e)
    exact ⟨w', cellQ (I.freeC y c (back e)) z⟩
  · obtain ⟨v, o, ho, hv⟩ := I.cell y c (back e)
    exact un.free c o ho (I.freeC y c (back e)) (by simp)
theorem pe_actD {CXg : CXT} {Eg : XK} {Ng : List Str} {qg y px : Str} {sg : Scope} {g f b tA : Addr} {cdg doc pm ctv : Value} {pr : Arguments} {bd : Expr} {sc : Scope} {k j : Nat} {pn : List (Addr × Obj)} {xe : Value → Shared → Prop} {W : WX} {E : XK} {t : TE} {p1 p2 : Pos} {i : Int} {tk0 : Tok}
    (I : Inv X pins σ H s) (L : LamO X.env.scope sc X.N) (hf : s.heap.get? f = some (dObj X pr bd sc tA doc pm b ctv)) (hfn : H f = none) (hfr : f ∉ frs X.stack) (ht : s.heap.get? tA = some (PySem.W.kdv_tup [.int i tk0])) (htn : H tA = none) (htr : tA ∉ frs X.stack) (hpx : sc.names.lookup px = some .local)
    (hb1 : ∃ kk : Option (Array Value) → Sem (List (Str × Value)), bindArgs (PySem.W.kdv_fn "<lambda>" (X.env.qual ++ "<lambda>") pr (.expr bd) sc (cloFrom X.env.cells sc.names []) (.ref tA) doc pm (.ref b) ctv) ⟨[], []⟩ = seqItems? (.ref tA) >>= kk ∧ ∀ u, kk (some #[u]) = pure [(px, u)])
    (tk : Takes ((cxOf CXg X.prog X.w X.K X.mg X.base Ng qg sg g cdg X.A X.stack s H Eg).tr pn xe) W) (hW : ∀ cls d σ' H', E cls d H' → W cls d σ' H') (hr : Room (k + 1) (X.A.deeper (envOfC qg sg s.heap.objs.size g cdg)))
    (hbody : ∀ (A : Around) (outer : List Env) (s : Shared) (H : Hp), Room k (A.deeper (LamX.lamEnv X sc s.heap.objs.size f b)) → PE (LamX.lamCx X A outer s H E sc f b) bd t)
    (hN : Ng[j]? = some y) (hv : Vis sg y) (hd : (y == ("__debug__" : Str)) = false := by decide) (hcd : (y == ("__classdict__" : Str)) = false := by decide) :
    PE ((cxOf CXg X.prog X.w X.K X.mg X.base Ng qg sg g cdg X.A X.stack s H Eg).tr pn xe) (.Call (.Name y p1) [] [] p2) (fun σZ HZ Q => σZ[j]? = some (some (.ref f)) ∧ HZ b = some (LamX.CodeO b (X.env.qual ++ "<lambda>")) ∧ t σ HZ Q) := by
  refine ⟨fun pinsZ sZ σZ HZ Q IZ ⟨hs, hc, hq0⟩ => ?_⟩
  refine wpAny_Call_Name_kw (thn ((pe_var (pos := p1) (i := j) hN hv hd hcd).run pinsZ sZ σZ HZ (fun v H1 => v = .ref f ∧ H1 = HZ) IZ ⟨.ref f, hs, rfl, rfl⟩) fun u s1 ⟨v, H1, I1, r1, q1⟩ => ?_)
  obtain ⟨rfl, rfl⟩ := q1
  obtain rfl : u = Value.ref f := r1
  have of1 : s1.heap.get? f = some (dObj X pr bd sc tA doc pm b ctv) := I1.base.keep f _ hf hfn hfr (fun z => nomatch (show f ∈ ([] : List Addr) from z))
  have ot1 : s1.heap.get? tA = some (PySem.W.kdv_tup [.int i tk0]) := I1.base.keep tA _ ht htn htr (fun z => nomatch (show tA ∈ ([] : List Addr) from z))
  refine PySem.W.callWith_F0 ⟨_, _, _, _, of1⟩ ?_
  have un : Un (frs X.stack) [] H H1 s.heap s1.heap := I1.base
  obtain ⟨⟨oc, vs, tt, hoc, hdc, hvc⟩, _, _⟩ := I1.hok b _ hc
  obtain ⟨kk, hk1, hk2⟩ := hb1
  have rc : codeAny (model X.prog X.w) (X.A.deeper (envOfC qg sg s.heap.objs.size g cdg)) (.call (.ref f) ⟨[], []⟩) (CR (L2.CX X.prog X.w) (envOfC qg sg s.heap.objs.size g cdg :: X.stack) X.prog X.w H1 s1 Q E) s1 := by
    refine PySem.W.kla_callFunE hr.depth of1 rfl L.noco L.nogen rfl ⟨b, oc, vs, tt, rfl, hoc, hdc, hvc⟩ ?_
    refine BindsTo.of_defaults (T := tA) (items := #[.int i tk0]) (k := kk) rfl ot1 rfl hk1 (hk2 _) _ _ _ _ ?_
    refine wpAny_newFunctionEnv L.nocell (fun z hz => by rw [List.mem_singleton.mp hz]; exact hpx) (fun h1 hns hsb => ⟨I1.nolimit.fresh _ hsb, ?_⟩) L.fun_
    show codeAny _ _ (.expr bd (LamX.lamEnv X sc s1.heap.objs.size f b)) _ _
    have kp : ∀ z o, s1.heap.get? z = some o → h1.get? z = some o := fun z o e => hsb.extBut z o (Nat.ne_of_lt (Heap.lt_size e)) (Heap.get?_push_of_some _ e)
    have J : Inv (LamX.lamCx X (X.A.deeper (envOfC qg sg s.heap.objs.size g cdg)) (envOfC qg sg s.heap.objs.size g cdg :: X.stack) s1 H1 E sc f b) [] σ H1 { s1 with heap := h1, toks := s1.toks + ([(px, Value.int i tk0)] : List (Str × Value)).length } := lamD_start I L I1.env0 hr.hd un hns kp
    refine PySem.W.kla_codeExpr (wpAny_mono ((hbody _ _ s1 H1 (hr.deeper _)).run [] _ _ H1 Q J hq0) (fun v s' ⟨w', H', J', rv, q⟩ => ⟨w', H', J'.os, J'.bare, J'.base, J'.hok, rv, q⟩) fun e s' hq => hq)
  refine wpAny_call (codeAny_mono rc fun r s2 hq => ?_)
  cases r with
  | error e => exact passes_call tk hW pinsZ σZ H1 s1 e s2 I1 hq
  | ok fl =>
    cases fl with
    | next => exact False.elim hq
    | brk => exact False.elim hq
    | cont => exact False.elim hq
    | ret u => exact I1.after hq
theorem pe_lamD {TT : (XK → Hp → VK → Prop) → Hp → VK → Prop} {x y px : Str} {g a0 a : Addr} {n j : Nat} {i : Int} {pg : Arguments} {bg : List Stmt} {sg : Scope} {dV kV doc pm cdv ct oc : Value} {an od : Option Addr} {osl : Array (Option Value)} {Ng : List Str}
    {pr : Arguments} {bd : Expr} {sc : Scope} {t : XK → TE} {p lp pos p1 : Pos} (hg : Gl X x) (hm : X.mg x = some (.ref g)) (hk : PySem.W.keepIn X.K (.ref g) = true)
    (lk : X.K.lookup g = some ⟨oc, od, .func (PySem.W.fnOf x x pg bg sg dV kV doc pm an cdv ct), osl⟩) (hcg : PySem.W.codeIn X.K cdv x = true) (hb : L2.Binds X.K (PySem.W.fnOf x x pg bg sg dV kV doc pm an cdv ct) [y] []) (Sg : FnScope Ng [y] sg) (hNg : Ng[0]? = some y) (hva : Vis sg y)
    (hG : LamX.GivesTo X Ng x sg g cdv bg y (X.env.qual ++ "<lambda>") TT) (tb : LamX.TabB X.base X.mg a0 a) (ec : X.env.code = .ref a0) (hr : Room (n + 2) X.A) (L : LamO X.env.scope sc X.N) (hd : pr.defaults = [.Constant (.int i) j p1]) (hkd : pr.kw_defaults = []) (hpx : sc.names.lookup px = some .local)
    (hb1 : ∀ (tA b : Addr) (doc pm ctv : Value), ∃ kk : Option (Array Value) → Sem (List (Str × Value)), bindArgs (PySem.W.kdv_fn "<lambda>" (X.env.qual ++ "<lambda>") pr (.expr bd) sc (cloFrom X.env.cells sc.names []) (.ref tA) doc pm (.ref b) ctv) ⟨[], []⟩ = seqItems? (.ref tA) >>= kk ∧ ∀ u, kk (some #[u]) = pure [(px, u)])
    (hbody : ∀ (A : Around) (outer : List Env) (s : Shared) (H : Hp) (E : XK) (f b : Addr), Room n (A.deeper (LamX.lamEnv X sc s.heap.objs.size f b)) → PE (LamX.lamCx X A outer s H E sc f b) bd (t E))
    (h1 : (x == ("__debug__" : Str)) = false := by decide) (h2 : (y == ("__debug__" : Str)) = false := by decide) (h3 : (y == ("__classdict__" : Str)) = false := by decide) :
    PE X (.Call (.Name x p) [.Lambda pr bd sc lp] [] pos) (tLam1 a (X.env.qual ++ "<lambda>") lp TT t) := by
  refine ⟨fun pins s σ H Q I ⟨ps, e1, e2, e3, e4⟩ => ?_⟩
  refine wpAny_Call_Name_kw (ld_glob I hg hm ?_ h1)
  refine PySem.W.callWith_K (h₀ := X.base) I.ok.mod.kin hk ?_ (by rfl) (by rfl)
  show wpAny _ _ (spliced ((false, eval (.Lambda pr bd sc lp) X.env) :: backTo pos (starEach [] X.env))) _ _ s
  refine Calls.spliced_cons (lamD_new I tb ec e1 e2 e3 hd hkd (L.there I.ok) (fun u s' z => z) fun f b tA doc' pm' ctv tk0 H1 s1 J hH hco hf hfn hfr ht htn htr => ?_)
  refine Calls.spliced_nil ⟨J.kIn, ?_⟩
  have run : codeAny (model X.prog X.w) X.A (.call (.ref g) ⟨[.ref f], []⟩) (CR C8.CX0 X.stack X.prog X.w H1 s1 Q C8.E0) s1 := by
    refine LamX.run_ofS (N := Ng) (ps := [y]) (us := [.ref f]) (vs := [.ref f]) lk hcg Sg hr J.env0 (hb s1 [.ref f] J.kIn rfl) (.cons rfl .nil) rfl fun hr1 => ?_
    obtain ⟨u, hu, q⟩ := hG f b s1 H1 Q (fun E H' Q' => t E σ H' Q') (fun W pn xe E p1 p2 tk hW => pe_actD (j := 0) J L hf hfn hfr ht htn htr hpx (hb1 _ _ _ _ _) tk hW hr1 (fun A outer s2 H2 hr2 => hbody A outer s2 H2 E f b hr2) hNg hva h2 h3) hco (e4 b H1 hH hco)
    exact ⟨u, hu.nox, q⟩
  refine wpAny_call (codeAny_mono run fun r s2 hq => ?_)
  cases r with
  | error e => exact (show False from hq).elim
  | ok fl =>
    cases fl with
    | next => exact False.elim hq
    | brk => exact False.elim hq
    | cont => exact False.elim hq
    | ret u => exact J.after hq
theorem kind_of {E0 : XK} {KD : Exc → D → Prop} {a : Addr} {w : WE} {q : Str} {lp : Pos} {e : Expr} (k : PE X e (tLam1 a q lp (TTk KD) fun E => tDE E w)) : DE X E0 e (wKind a q KD w) := by
  refine pe_imp k fun σ H Q h => ?_
  obtain ⟨δ, N, F, P, Q', E', o, ⟨hN, hw⟩, qq, qe⟩ := h
  obtain ⟨ps, e1, e2, e3, grow⟩ := o.tabbed hN
  refine ⟨ps, e1, e2, e3 _, fun b H1 hH1 hb => ?_⟩
  have key : ∀ P1, Ok δ N F P1 σ H1 → Tr F P H F P1 H1 → TTk KD (fun E H' Q' => tDE E w σ H' Q') H1 Q := fun P1 o1 t1 => by
    refine ⟨δ, N, F, P1, _, _, o1, hw, fun v H2 F2 P2 d N2 fp t2 o2 r2 k2 q2 => qq (.str "") H2 F2 P2 (.str "") N2 [] (t1.trans t2) o2 ⟨rfl, rfl⟩ (by simp) q2, fun z cls dd H2 F2 P2 N2 t2 w2 r hx => ?_⟩
    obtain ⟨dk, hk, hq⟩ := hx
    refine ⟨z, dk, r, hk, fun v H3 ex rv => ?_⟩
    obtain ⟨o3, t3⟩ := (o1.after t2 w2).ex ex
    exact qq v H3 F2 P2 dk N2 [] ((t1.trans t2).trans t3) o3 rv (by simp) hq
  rcases hH1 with rfl | ⟨hn, rfl⟩
  · exact key P o Tr.refl
  · exact key _ (grow _ b hn).1 (grow _ b hn).2
theorem de_kindD {E0 : XK} {KD : Exc → D → Prop} {x y px : Str} {a0 a : Addr} {n j : Nat} {i : Int} {pr : Arguments} {bd : Expr} {sc : Scope} {w : WE} {q : Str} {p lp pos p1 : Pos} (h : HasK X.K X.mg x y KD) (hq : X.env.qual ++ "<lambda>" = q) (hg : Gl X x)
    (tb : LamX.TabB X.base X.mg a0 a) (ec : X.env.code = .ref a0) (hr : Room (n + 2) X.A) (L : LamO X.env.scope sc X.N) (hpx : sc.names.lookup px = some .local)
    (hbody : ∀ (A : Around) (outer : List Env) (s : Shared) (H : Hp) (E : XK) (f b : Addr), Room n (A.deeper (LamX.lamEnv X sc s.heap.objs.size f b)) → DE (LamX.lamCx X A outer s H E sc f b) E bd w) (hd : pr.defaults = [.Constant (.int i) j p1] := by rfl) (hkd : pr.kw_defaults = [] := by rfl)
    (hb1 : ∀ (tA b : Addr) (doc pm ctv : Value), ∃ kk : Option (Array Value) → Sem (List (Str × Value)), bindArgs (PySem.W.kdv_fn "<lambda>" (X.env.qual ++ "<lambda>") pr (.expr bd) sc (cloFrom X.env.cells sc.names []) (.ref tA) doc pm (.ref b) ctv) ⟨[], []⟩ = seqItems? (.ref tA) >>= kk ∧ ∀ u, kk (some #[u]) = pure [(px, u)] := by intros; exact ⟨_, rfl, fun u => rfl⟩)
    (h1 : (x == ("__debug__" : Str)) = false := by decide) (h2 : (y == ("__debug__" : Str)) = false := by decide) (h3 : (y == ("__classdict__" : Str)) = false := by decide) :
    DE X E0 (.Call (.Name x p) [.Lambda pr bd sc lp] [] pos) (wKind a q KD w) := by
  subst hq
  obtain ⟨st, Ng, g, fd, F, hm, hb, Sg, h0, hv, hG⟩ := h.ex
  obtain ⟨oc, od, kV, doc, pm, an, cdv, ct, osl, rfl, lk, hcd⟩ := F.ex
  exact kind_of (pe_lamD (t := fun E => tDE E w) hg hm F.kp lk hcd hb Sg h0 hv (hG X n cdv _ rfl rfl hr) tb ec hr L hd hkd hpx hb1 hbody h1 h2 h3)
end
end DL
set_option maxHeartbeats 4000000
namespace DL
open PySem L2
theorem Ok.fill {δ : Loc} {N : Nm} {F P : Addr → Prop} {σ : St} {H : Hp} {a : Addr} {d : D} {v : V} {fq : List Addr} (o : Ok δ N F P σ H) (hN : N a = some ⟨true, .lst []⟩) (r : Rp H d v fq) (k : ∀ p ∈ fq, F p) :
    ∃ F' P', Ok δ (updN N a ⟨false, .lst [d]⟩) F' P' σ (upd H a (.lst [v])) ∧ Tr F P H F' P' (upd H a (.lst [v])) := by
  obtain ⟨⟨fpm, w⟩, sr⟩ := o
  obtain ⟨⟨p0, vs, f', e0, hpa, rl, ef⟩, am⟩ := w.cell a _ hN
  cases e0
  obtain ⟨_, own⟩ := w.own a _ hN rfl
  have pa : P a := own a am
  have na : ¬ F a := fun z => (w.fr a z).1 pa
  have aq : a ∉ fq := fun z => na (k a z)
  have other : ∀ b c, b ≠ a → N b = some c → a ∉ fpm b := fun b c n hb => w.sep a b _ c (Ne.symm n) hN rfl hb a am
  have tup : ∀ q ws, H q = some (.tup ws) → upd H a (.lst [v]) q = some (.tup ws) := fun q ws z => by
    rw [upd_ne (fun z' => by rw [z', hpa] at z; cases z)]; exact z
  have th : ∀ q ob, H q = some ob → ∃ o', upd H a (.lst [v]) q = some o' := fun q ob h => by
    by_cases z : q = a
    · subst z; exact ⟨_, upd_same⟩
    · exact ⟨ob, by rw [upd_ne z]; exact h⟩
  have r' : Rp (upd H a (.lst [v])) d v fq := Rp.keep tup _ _ _ r fun q hq => upd_ne fun z => aq (z ▸ hq)
  have cell' : ∀ b c, updN N a ⟨false, .lst [d]⟩ b = some c → (b = a ∧ c = ⟨false, .lst [d]⟩) ∨ (b ≠ a ∧ N b = some c) := fun b c h => by
    by_cases z : b = a
    · subst z; rw [updN_same] at h; exact .inl ⟨rfl, (Option.some.inj h).symm⟩
    · rw [updN_ne z] at h; exact .inr ⟨z, h⟩
  refine ⟨fun p => F p ∨ p = a, fun p => P p ∧ p ≠ a, ⟨⟨fun z => if z = a then a :: fq else fpm z, ⟨fun b c h => ?_, fun b c h hw => ?_, fun b b' c e n h hw h' => ?_, fun p h => ?_, fun p h => ?_⟩⟩, ⟨sr.len, fun p h => ?_, fun i dd q => ?_⟩⟩,
    ⟨fun p h => .inl h, fun p ob h n => ?_, th, fun p h => .inl h.1, fun p h => h.elim .inl fun (z : p = a) => .inr (.inl (by rw [z]; exact pa))⟩⟩
  · rcases cell' b c h with ⟨rfl, rfl⟩ | ⟨n, hb⟩
    · simp only [if_true]
      exact ⟨⟨b, [v], fq, rfl, upd_same, RpL.one r', rfl⟩, by simp⟩
    · simp only [if_neg n]
      exact ⟨Rp.keep tup _ _ _ (w.cell b c hb).1 fun q hq => upd_ne fun z => other b c n hb (z ▸ hq), (w.cell b c hb).2⟩
  · rcases cell' b c h with ⟨rfl, rfl⟩ | ⟨n, hb⟩
    · cases hw
    · simp only [if_neg n]
      exact ⟨(w.own b c hb hw).1, fun p hp => ⟨(w.own b c hb hw).2 p hp, fun z => other b c n hb (z ▸ hp)⟩⟩
  · rcases cell' b c h with ⟨rfl, rfl⟩ | ⟨nb, hb⟩
    · cases hw
    · simp only [if_neg nb]
      intro p hp
      rcases cell' b' e h' with ⟨rfl, rfl⟩ | ⟨nb', hb'⟩
      · simp only [if_true]
        intro z
        rcases List.mem_cons.mp z with rfl | z
        · exact other b c nb hb hp
        · exact (w.fr p (k p z)).1 ((w.own b c hb hw).2 p hp)
      · simp only [if_neg nb']
        exact w.sep b b' c e n hb hw hb' p hp
  · rcases h with h | rfl
    · obtain ⟨n, ob, ho⟩ := w.fr p h
      exact ⟨fun z => n z.1, th p ob ho⟩
    · exact ⟨fun z => z.2 rfl, _, upd_same⟩
  · obtain ⟨ob, h1, h2⟩ := w.pr p h.1
    exact ⟨ob, by rw [upd_ne h.2]; exact h1, h2⟩
  · rcases h with h | rfl
    · obtain ⟨n, ob, ho⟩ := w.fr p h
      exact th p ob ho
    · exact ⟨_, upd_same⟩
  · obtain ⟨u, fp, h1, h2, h3⟩ := sr.at_ i dd q
    exact ⟨u, fp, h1, Rp.keep tup _ _ _ h2 fun q hq => upd_ne fun z => na (z ▸ h3 q hq), fun p hp => .inl (h3 p hp)⟩
  · rw [upd_ne (fun z => n (by rw [z]; exact pa))]; exact h
def wAppZ (i : Nat) (w : WE) : WE := fun δ N Q E => lk δ i = some (.ref (rA (lk δ i))) ∧ (∃ c, N (rA (lk δ i)) = some c ∧ IsL c.d) ∧ w δ N (fun d N1 => N1 (rA (lk δ i)) = some ⟨true, .lst []⟩ ∧ Q .non (updN N1 (rA (lk δ i)) ⟨false, .lst [d]⟩)) E
section
variable {X : Cx} {E : XK} {pos p : Pos}
theorem de_appZ {a : Expr} {y : Str} {ny : Pos} {w : WE} {apos ppos : Pos} (i : Nat)
    (hbm : PE X (.Call (.Attribute (.Name y ny) "append" apos) [a] [] ppos) (tBM X.K "list" rAppend (tVar i) (tCons (tDE E w) tNil))) : DE X E (.Call (.Attribute (.Name y ny) "append" apos) [a] [] ppos) (wAppZ i w) := pe_imp hbm fun σ H Q h => by
  obtain ⟨δ, N, F, P, Q', E', o, ⟨o1, ⟨c, hc, hl⟩, q⟩, qq, qe⟩ := h
  obtain ⟨v, fp, h1, h2, h3⟩ := o.sr.at_ i _ (lk_get o1)
  have ev : v = .ref (rA (lk δ i)) := h2.1
  subst ev
  obtain ⟨fp0, r0, _⟩ := o.nr _ _ hc
  obtain ⟨p0, vs0, f0, e0, hp0, _, _⟩ := r0.lst_ hl
  cases e0
  refine ⟨_, h1, .inl ⟨rfl, _, SqL.of hp0⟩, δ, N, F, P, _, E', o, q, fun v H1 F1 P1 d N1 fq t1 oo r1 k1 q1 => ?_, qe⟩
  obtain ⟨hN1, q2⟩ := q1
  obtain ⟨fp1, rr, _⟩ := oo.nr _ _ hN1
  obtain ⟨p, vs, f', e1, hp, rl, rfl⟩ := rr
  cases e1
  have ev : vs = [] := List.length_eq_zero_iff.mp (by rw [← rl.length]; rfl)
  subst ev
  refine ⟨_, [], v, rfl, rfl, hp, sz (Nat.le_of_ble_eq_true rfl), ?_⟩
  obtain ⟨F', P', o', t'⟩ := oo.fill hN1 r1 k1
  exact qq _ _ F' P' .non _ [] (t1.trans t') o' ⟨rfl, rfl⟩ (by simp) q2
end
end DL
set_option maxHeartbeats 4000000
namespace DL
open PySem L2
theorem rpl_lf {H : Hp} : ∀ {ds : List D} {vs : List V} {fp : List Addr}, RpL H ds vs fp → (∀ d ∈ ds, lf d) → fp = []
  | [], _, _, h, _ => h.2
  | d :: ds, _, _, h, k => by
    obtain ⟨v, vr, f, g, rfl, h1, h2, rfl⟩ := h
    rw [Rp.lf _ _ _ h1 (k d (by simp)), rpl_lf h2 fun e he => k e (by simp [he])]
    rfl
def sExtR (i : Nat) (w : WE) : WS := fun K δ N => lk δ i = some (.ref (rA (lk δ i))) ∧ (∃ c, N (rA (lk δ i)) = some c ∧ IsL c.d) ∧ w δ N (fun d N1 => ∃ ys xs, d = .lst ys ∧ (∀ y ∈ ys, lf y) ∧ N1 (rA (lk δ i)) = some ⟨true, .lst xs⟩ ∧ xs.length + ys.length ≤ SZ ∧ K.nx δ (updN N1 (rA (lk δ i)) ⟨true, .lst (xs ++ ys)⟩)) K.ex
section
variable {X : Cx} {E : XK} {rc : Bool} {pos p : Pos}
theorem ds_extR {a : Expr} {y : Str} {ny : Pos} {w : WE} {apos ppos : Pos} (i : Nat) (hs : swapsWith (.Call (.Attribute (.Name y ny) "extend" apos) [a] [] ppos) none pos.line X.env = pure false := by rfl)
    (hbm : PE X (.Call (.Attribute (.Name y ny) "extend" apos) [a] [] ppos) (tBM X.K "list" rExtend (tVar i) (tCons (tDE E w) tNil))) : DS X E rc (.Expr (.Call (.Attribute (.Name y ny) "extend" apos) [a] [] ppos) pos) (sExtR i w) := ps_imp (ps_expr hbm hs) fun D σ H h => by
  obtain ⟨δ, N, F, P, K, o, ⟨o1, ⟨c, hc, hl⟩, q⟩, e⟩ := h
  obtain ⟨v, fp, h1, h2, h3⟩ := o.sr.at_ i _ (lk_get o1)
  have ev : v = .ref (rA (lk δ i)) := h2.1
  subst ev
  obtain ⟨fp0, r0, _⟩ := o.nr _ _ hc
  obtain ⟨p0, vs0, f0, e0, hp0, _, _⟩ := r0.lst_ hl
  cases e0
  refine ⟨_, h1, .inl ⟨rfl, _, SqL.of hp0⟩, δ, N, F, P, _, K.ex, o, q, fun v H1 F1 P1 d N1 fq t1 oo r1 k1 q1 => ?_, e.ex⟩
  obtain ⟨ys, xs, rfl, hlf, hN1, hz, q2⟩ := q1
  obtain ⟨b, ws, f1, rfl, hb, rl1, rfl⟩ := r1
  have ef : f1 = [] := rpl_lf rl1 hlf
  subst ef
  obtain ⟨fp1, rr, _⟩ := oo.nr _ _ hN1
  obtain ⟨p, vs, f', e1, hp, rl, rfl⟩ := rr
  cases e1
  refine ⟨_, b, vs, ws, rfl, rfl, hp, hb, Nat.le_trans (by rw [← rl.length, ← rl1.length]; exact hz) (sz (Nat.le_refl _)), ?_⟩
  obtain ⟨P', o', t'⟩ := oo.writeL (π := []) (xs := xs) (ys := xs ++ ys) (ws := vs ++ ws) (g := []) (Ex.refl _) hN1 .nil hp (by simp) List.nodup_nil fun f r nd ng =>
    ⟨f, by have := RpL.append r rl1; rw [List.append_nil] at this; exact this, nd, fun q hq => .inl hq⟩
  exact e.nx σ _ F1 P' δ _ (t1.trans t') o' q2
end
end DL
set_option maxHeartbeats 4000000
namespace DL
open PySem L2
section
variable {X : Cx} {E : XK} {pos p : Pos}
theorem de_ne {a b : Expr} {w u : WE} (hu : X.A.units + 64 < cLine) (ha : DE X E a w) (hb : DE X E b u) : DE X E (.Compare a [.NotEq] [b] pos) (w2c (neT 8) w u) := de_cmp (op_neD hu) cmpd_ne ha hb (nomark _)
end
end DL
set_option maxHeartbeats 4000000
namespace DL
open PySem L2
section
variable {X : Cx} {E : XK} {c c1 c2 : Cl} {pos p p2 pos2 : Pos} {rc : Bool}
def dgetF (x y : D) : PV := match x with
  | .fdic ks xs => ⟨isKey y ∧ (getK ks xs (toK y)).isSome = true, (getK ks xs (toK y)).getD .non⟩
  | _ => ⟨False, .non⟩
theorem dp_dgetF {a b : Expr} {f g : PF} (hu : X.A.units + 64 < cLine) (ha : DP X c a f) (hb : DP X c1 b g) (hs : NoSl b := by exact fun _ _ => rfl) : DP X c (.Subscript a b pos) (DL.p2 dgetF f g) := by
  refine pe_imp (pe_dget (hu1 hu) ha hb hs) fun σ H Q h => ?_
  obtain ⟨δ, N, F, hS, hn, ⟨o1, o2, o3⟩, q⟩ := h
  simp only [DL.p2] at q
  refine ⟨δ, N, F, hS, hn, o1, fun v H1 fa e1 r1 k1 => ⟨δ, N, F, hS.ex e1, hn.ex e1, o2, fun w H2 fb e2 r2 k2 => ?_⟩⟩
  generalize (f δ N).val = x at r1 o3 q
  cases x <;> first | (exact False.elim o3) | skip
  rename_i ks xs
  obtain ⟨o4, o5⟩ := o3
  obtain ⟨d, ed⟩ := Option.isSome_iff_exists.mp o5
  obtain ⟨pp, vs, f', ob, rfl, hp, rl, hl, rfl⟩ := r1.ex e2
  have hw := r2.key_ o4
  subst hw
  have z := getK_rd (ks := ks) (k := toK (g δ N).val) rl
  rw [ed] at z
  obtain ⟨u, fu, h1, h2, h3, h4⟩ := z
  refine ⟨pp, u, rfl, by rw [← h1]; exact .inl ⟨_, _, .inr ⟨ob, hp⟩, rfl, rfl⟩, q u H2 fu (e1.trans e2) ?_ (Cl.sub k1 (fun z hz => by simp [h3 z hz]) fun n => h4 (List.nodup_cons.mp n).2)⟩
  simp only [dgetF, ed]; exact h2
end
theorem RpL.lockAt {H : Hp} {p : Addr} {kvs : List (Key × V)} {od : Obj} (ht : H p = some (.dK kvs)) : ∀ {ds : List D} {vs : List V} {f : List Addr} {n : Nat} {ks2 : List Key} {xs : List D}, RpL H ds vs f → f.Nodup → ds[n]? = some (.dic ks2 xs) → vs[n]? = some (.ref p) → RpL (upd H p (.frz od (.dK kvs))) (ds.set n (.fdic ks2 xs)) vs f
  | [], _, _, _, _, _, _, _, h, _ => by simp at h
  | d :: ds, vs, f, n, ks2, xs, h, nd, hd, hv => by
    have tup : ∀ q ws, H q = some (.tup ws) → upd H p (.frz od (.dK kvs)) q = some (.tup ws) := fun q ws z => by rw [upd_ne (fun e => by rw [e, ht] at z; cases z)]; exact z
    obtain ⟨v, vr, f1, g, rfl, h1, h2, rfl⟩ := h
    obtain ⟨n1, n2, n3⟩ := List.nodup_append.mp nd
    cases n with
    | zero =>
      simp at hd hv
      subst hd hv
      obtain ⟨p', us, f', e, hp, rl, hl, rfl⟩ := h1
      cases e
      rw [ht] at hp
      cases hp
      have pf : p ∉ f' := (List.nodup_cons.mp n1).1
      have pg : p ∉ g := fun z => n3 p (by simp) p z rfl
      exact ⟨.ref p, vr, p :: f', g, rfl, ⟨p, us, f', od, rfl, upd_same, RpL.keep tup _ _ _ rl fun q hq => upd_ne fun z => pf (z ▸ hq), hl, rfl⟩, RpL.keep tup _ _ _ h2 fun q hq => upd_ne fun z => pg (z ▸ hq), rfl⟩
    | succ n =>
      rw [List.getElem?_cons_succ] at hd hv
      obtain ⟨u, fu, g1, g2, g3, g4⟩ := h2.get hd
      rw [hv] at g1
      obtain rfl := Option.some.inj g1
      obtain ⟨p', us, f', e, hp, rl, hl, rfl⟩ := g2
      cases e
      have pg : p ∈ g := g3 p (by simp)
      have p1 : p ∉ f1 := fun z => n3 p z p pg rfl
      exact ⟨v, vr, f1, g, rfl, Rp.keep tup _ _ _ h1 fun q hq => upd_ne fun z => p1 (z ▸ hq), RpL.lockAt ht h2 n2 hd hv, rfl⟩
theorem Ok.lock {δ : Loc} {N : Nm} {F P : Addr → Prop} {σ : St} {H : Hp} {a : Addr} {ks ks2 : List Key} {ds xs : List D} {n : Nat} (o : Ok δ N F P σ H) (hN : N a = some ⟨true, .dic ks ds⟩) (hd : ds[n]? = some (.dic ks2 xs)) :
    ∃ (p : Addr) (vs us : List V) (f2 : List Addr) (P0 : Addr → Prop), H a = some (.dK (ks.zip vs)) ∧ vs[n]? = some (.ref p) ∧ ks.length = vs.length ∧ p ≠ a ∧ H p = some (.dK (ks2.zip us)) ∧ ks2.length = us.length ∧ RpL H xs us f2 ∧
      (∀ od, Ok δ (updN N a ⟨false, .dic ks (ds.set n (.fdic ks2 xs))⟩) F P0 σ (upd H p (.frz od (.dK (ks2.zip us))))) ∧
      ∀ (od : Obj) (δ' : Loc) (N' : Nm) (F' P' : Addr → Prop) (σ' : St) (H' : Hp), Ok δ' N' F' P' σ' H' → Tr F P0 (upd H p (.frz od (.dK (ks2.zip us)))) F' P' H' →
        H' p = some (.frz od (.dK (ks2.zip us))) ∧ (∀ q, F' q → q ≠ p) ∧ ∃ P2, Ok δ' (updN (DL.wtr N') a ⟨true, .dic ks ds⟩) F' P2 σ' (upd H' p (.dK (ks2.zip us))) ∧ Tr F P H F' P2 (upd H' p (.dK (ks2.zip us))) := by
  obtain ⟨⟨fpm, w⟩, sr⟩ := o
  obtain ⟨ra, am⟩ := w.cell a _ hN
  have ra0 := ra
  obtain ⟨nda, own⟩ := w.own a _ hN rfl
  obtain ⟨a', vs, f, e, ha, rl, hl, ef⟩ := ra
  cases e
  rw [ef] at nda
  obtain ⟨na, ndf⟩ := List.nodup_cons.mp nda
  obtain ⟨u, fu, g1, g2, g3, g4⟩ := rl.get hd
  obtain ⟨p, us, f2, eu, hp, rl2, hl2, efu⟩ := g2
  subst eu
  have pf : p ∈ f := g3 p (by rw [efu]; simp)
  have pa : p ≠ a := fun z => na (z ▸ pf)
  have pm : p ∈ fpm a := by rw [ef]; simp [pf]
  have other : ∀ b c, b ≠ a → N b = some c → p ∉ fpm b := fun b c nb hb => w.sep a b _ c (Ne.symm nb) hN rfl hb p pm
  have pF : ¬ F p := fun z => (w.fr p z).1 (own p pm)
  refine ⟨p, vs, us, f2, fun q => P q ∧ q ∉ fpm a, ha, g1, hl, pa, hp, hl2, rl2, fun od => ?_, fun od δ' N' F' P' σ' H' o' t => ?_⟩
  · obtain ⟨H0, hH0⟩ : ∃ H0, H0 = upd H p (.frz od (.dK (ks2.zip us))) := ⟨_, rfl⟩
    rw [← hH0]
    have ne : ∀ q, q ≠ p → H0 q = H q := fun q z => by rw [hH0]; exact upd_ne z
    have tup : ∀ q ws, H q = some (.tup ws) → H0 q = some (.tup ws) := fun q ws z => by rw [ne q (fun e => by rw [e, hp] at z; cases z)]; exact z
    have th : ∀ q ob, H q = some ob → ∃ o', H0 q = some o' := fun q ob z => by
      by_cases e : q = p
      · subst e; exact ⟨_, by rw [hH0]; exact upd_same⟩
      · exact ⟨ob, by rw [ne q e]; exact z⟩
    have cell' : ∀ b c, updN N a ⟨false, .dic ks (ds.set n (.fdic ks2 xs))⟩ b = some c → (b = a ∧ c = ⟨false, .dic ks (ds.set n (.fdic ks2 xs))⟩) ∨ (b ≠ a ∧ N b = some c) := fun b c h => by
      by_cases z : b = a
      · subst z; rw [updN_same] at h; exact .inl ⟨rfl, (Option.some.inj h).symm⟩
      · rw [updN_ne z] at h; exact .inr ⟨z, h⟩
    refine ⟨⟨fpm, ⟨fun b c h => ?_, fun b c h hw => ?_, fun b b' c e n h hw h' => ?_, fun q h => ?_, fun q h => ?_⟩⟩, ⟨sr.len, fun q h => ?_, fun i dd hq => ?_⟩⟩
    · rcases cell' b c h with ⟨rfl, rfl⟩ | ⟨nb, hb⟩
      · refine ⟨⟨b, vs, f, rfl, by rw [ne b (Ne.symm pa)]; exact ha, ?_, hl, ef⟩, am⟩
        rw [hH0]
        exact RpL.lockAt hp rl ndf hd g1
      · exact ⟨Rp.keep tup _ _ _ (w.cell b c hb).1 fun q hq => ne q fun z => other b c nb hb (z ▸ hq), (w.cell b c hb).2⟩
    · rcases cell' b c h with ⟨rfl, rfl⟩ | ⟨nb, hb⟩
      · cases hw
      · exact ⟨(w.own b c hb hw).1, fun q hq => ⟨(w.own b c hb hw).2 q hq, fun z => w.sep a b _ c (Ne.symm nb) hN rfl hb q z hq⟩⟩
    · rcases cell' b c h with ⟨rfl, rfl⟩ | ⟨nb, hb⟩
      · cases hw
      · rcases cell' b' e h' with ⟨rfl, rfl⟩ | ⟨nb', hb'⟩
        · exact w.sep b b' c _ nb hb hw hN
        · exact w.sep b b' c e n hb hw hb'
    · obtain ⟨h1, ob, h2⟩ := w.fr q h
      exact ⟨fun z => h1 z.1, th q ob h2⟩
    · obtain ⟨ob, h1, h2⟩ := w.pr q h.1
      exact ⟨ob, by rw [ne q (fun z => h.2 (z ▸ pm))]; exact h1, h2⟩
    · obtain ⟨h1, ob, h2⟩ := w.fr q h
      exact th q ob h2
    · obtain ⟨u', fp', h1, h2, h3⟩ := sr.at_ i dd hq
      exact ⟨u', fp', h1, Rp.keep tup _ _ _ h2 fun q hq => ne q fun z => pF (z ▸ h3 q hq), h3⟩
  · obtain ⟨H0, hH0⟩ : ∃ H0, H0 = upd H p (.frz od (.dK (ks2.zip us))) := ⟨_, rfl⟩
    rw [← hH0] at t
    have h0p : H0 p = some (.frz od (.dK (ks2.zip us))) := by rw [hH0]; exact upd_same
    have ne : ∀ q, q ≠ p → H0 q = H q := fun q z => by rw [hH0]; exact upd_ne z
    have hHp : H' p = some (.frz od (.dK (ks2.zip us))) := t.st p _ h0p fun z => z.2 pm
    have back : ∀ q, H0 q = none → H q = none := fun q z => by rw [← ne q (fun e => by rw [e, h0p] at z; cases z)]; exact z
    have inA : ∀ q, q ∈ fpm a → ∃ ob, H q = some ob := fun q hq => by obtain ⟨ob, h1, _⟩ := w.pr q (own q hq); exact ⟨ob, h1⟩
    have pPn : ∀ q, q ∈ fpm a → ¬ P' q := fun q hq z => by
      rcases t.pw q z with y | y
      · exact y.2 hq
      · obtain ⟨ob, h1⟩ := inA q hq; rw [back q y] at h1; cases h1
    have pFn : ∀ q, q ∈ fpm a → ¬ F' q := fun q hq z => by
      rcases t.fw q z with y | y | y
      · exact (w.fr q y).1 (own q hq)
      · exact y.2 hq
      · obtain ⟨ob, h1⟩ := inA q hq; rw [back q y] at h1; cases h1
    obtain ⟨⟨fpm', w'⟩, sr'⟩ := o'
    obtain ⟨H2, hH2⟩ : ∃ H2, H2 = upd H' p (.dK (ks2.zip us)) := ⟨_, rfl⟩
    rw [← hH2]
    have h2p : H2 p = H p := by rw [hH2, upd_same, hp]
    have ne2 : ∀ q, q ≠ p → H2 q = H' q := fun q z => by rw [hH2]; exact upd_ne z
    have tup2 : ∀ q ws, H' q = some (.tup ws) → H2 q = some (.tup ws) := fun q ws z => by rw [ne2 q (fun e => by rw [e, hHp] at z; cases z)]; exact z
    have th2 : ∀ q ob, H' q = some ob → ∃ o', H2 q = some o' := fun q ob z => by
      by_cases e : q = p
      · subst e; rw [h2p]; exact ⟨_, hp⟩
      · exact ⟨ob, by rw [ne2 q e]; exact z⟩
    have sameA : ∀ q, q ∈ fpm a → H2 q = H q := fun q hq => by
      by_cases e : q = p
      · subst e; exact h2p
      · obtain ⟨ob, h1⟩ := inA q hq
        rw [ne2 q e, h1]
        exact t.st q ob (by rw [ne q e]; exact h1) fun z => z.2 hq
    have tupA : ∀ q ws, H q = some (.tup ws) → H2 q = some (.tup ws) := fun q ws z => by
      have e : q ≠ p := fun e => by rw [e, hp] at z; cases z
      rw [ne2 q e]
      refine t.st q _ (by rw [ne q e]; exact z) fun y => ?_
      obtain ⟨ob, h1, h2⟩ := w.pr q y.1
      rw [z] at h1; cases h1; exact h2 _ rfl
    have cell' : ∀ b c, updN (DL.wtr N') a ⟨true, .dic ks ds⟩ b = some c → (b = a ∧ c = ⟨true, .dic ks ds⟩) ∨ (b ≠ a ∧ N' b = some c ∧ c.w = true) := fun b c h => by
      by_cases z : b = a
      · subst z; rw [updN_same] at h; exact .inl ⟨rfl, (Option.some.inj h).symm⟩
      · rw [updN_ne z] at h; exact .inr ⟨z, wtr_iff.mp h⟩
    have sub' : ∀ b c, N' b = some c → c.w = true → ∀ q ∈ fpm' b, q ∉ fpm a := fun b c hb hw q hq z => pPn q z ((w'.own b c hb hw).2 q hq)
    refine ⟨hHp, fun q hq z => pFn p pm (z ▸ hq), fun q => P' q ∨ q ∈ fpm a, ⟨⟨fun b => if b = a then fpm a else fpm' b, ⟨fun b c h => ?_, fun b c h hw => ?_, fun b b' c e n h hw h' => ?_, fun q h => ?_, fun q h => ?_⟩⟩, ⟨sr'.len, fun q h => ?_, fun i dd hq => ?_⟩⟩, ⟨t.fr, fun q ob h nP => ?_, fun q ob h => ?_, fun q h => ?_, fun q h => ?_⟩⟩
    · rcases cell' b c h with ⟨rfl, rfl⟩ | ⟨nb, hb, hw⟩
      · rw [if_pos rfl]
        exact ⟨Rp.keep tupA _ _ _ ra0 sameA, am⟩
      · rw [if_neg nb]
        exact ⟨Rp.keep tup2 _ _ _ (w'.cell b c hb).1 fun q hq => ne2 q fun z => sub' b c hb hw q hq (z ▸ pm), (w'.cell b c hb).2⟩
    · rcases cell' b c h with ⟨rfl, rfl⟩ | ⟨nb, hb, hw⟩
      · rw [if_pos rfl]
        exact ⟨by rw [ef]; exact nda, fun q hq => .inr hq⟩
      · rw [if_neg nb]
        exact ⟨(w'.own b c hb hw).1, fun q hq => .inl ((w'.own b c hb hw).2 q hq)⟩
    · rcases cell' b c h with ⟨rfl, rfl⟩ | ⟨nb, hb, hw⟩
      · rcases cell' b' e h' with ⟨rfl, rfl⟩ | ⟨nb', hb', hw'⟩
        · exact absurd rfl n
        · rw [if_pos rfl, if_neg nb']
          exact fun q hq z => sub' b' e hb' hw' q z hq
      · rcases cell' b' e h' with ⟨rfl, rfl⟩ | ⟨nb', hb', hw'⟩
        · rw [if_neg nb, if_pos rfl]
          exact fun q hq z => sub' b c hb hw q hq z
        · rw [if_neg nb, if_neg nb']
          exact w'.sep b b' c e n hb hw hb'
    · obtain ⟨h1, ob, h2⟩ := w'.fr q h
      exact ⟨fun z => z.elim h1 fun z => pFn q z h, th2 q ob h2⟩
    · rcases h with h | h
      · obtain ⟨ob, h1, h2⟩ := w'.pr q h
        exact ⟨ob, by rw [ne2 q (fun z => pPn p pm (z ▸ h))]; exact h1, h2⟩
      · obtain ⟨ob, h1, h2⟩ := w.pr q (own q h)
        exact ⟨ob, by rw [sameA q h]; exact h1, h2⟩
    · obtain ⟨h1, ob, h2⟩ := w'.fr q h
      exact th2 q ob h2
    · obtain ⟨u', fp', h1, h2, h3⟩ := sr'.at_ i dd hq
      exact ⟨u', fp', h1, Rp.keep tup2 _ _ _ h2 fun q hq => ne2 q fun z => pFn p pm (z ▸ h3 q hq), h3⟩
    · have e : q ≠ p := fun e => nP (e ▸ own p pm)
      rw [ne2 q e]
      exact t.st q ob (by rw [ne q e]; exact h) fun z => nP z.1
    · by_cases e : q = p
      · subst e; rw [h2p]; exact ⟨_, hp⟩
      · obtain ⟨o', h'⟩ := t.th q ob (by rw [ne q e]; exact h)
        exact ⟨o', by rw [ne2 q e]; exact h'⟩
    · rcases h with h | h
      · rcases t.pw q h with y | y
        · exact .inl y.1
        · exact .inr (back q y)
      · exact .inl (own q h)
    · rcases t.fw q h with y | y | y
      · exact .inl y
      · exact .inr (.inl y.1)
      · exact .inr (.inr (back q y))
end DL
set_option maxHeartbeats 4000000
namespace DL
open PySem L2
def sForK (i : Nat) (q : Str) (G : GF) (u : WS) : WS := fun K δ N => ∃ a ks ds n ks2 xs, lk δ i = some (.ref a) ∧ N a = some ⟨true, .dic ks ds⟩ ∧ idxOf_ (Sum.inr q : Key) ks = some n ∧ ds[n]? = some (.dic ks2 xs) ∧
  loopD G u { nx := fun δ' N' => K.nx δ' (updN (DL.wtr N') a ⟨true, .dic ks ds⟩), rt := fun d N' => K.rt d (updN (DL.wtr N') a ⟨true, .dic ks ds⟩), bk := fun _ _ => False, ct := fun _ _ => False, ex := E9 } (ks2.map kD) δ (updN N a ⟨false, .dic ks (ds.set n (.fdic ks2 xs))⟩)
section
variable {X : Cx} {E : XK} {tg : Expr} {pos p1 p2 p3 : Pos} {w : WS}
theorem ds_forK {y q : Str} {i : Nat} {c9 : Nat} {body : List Stmt} {sl : List Nat} {G : GF} (hp : PassesOwn (model X.prog X.w) X.A X.env X.xe) (hc : X.calm = true) (hu : X.A.units + 64 < cLine) (hN : X.N[i]? = some y) (hv : Vis X.env.scope y) (hg : DG X tg sl G) (hb : DSs X E false body w)
    (hd : (y == ("__debug__" : Str)) = false := by decide) (hcd : (y == ("__classdict__" : Str)) = false := by decide)
    (hs : ∀ x, foldedSetIterable (.Subscript (.Name y p1) (.Constant (.str q) c9 p2) p3) X.env x = pure x := by intro _; rfl) : DS X E false (.For tg (.Subscript (.Name y p1) (.Constant (.str q) c9 p2) p3) body [] pos) (sForK i q G w) :=
  ps_imp (ps_lock (ps_for hp hc (pi_keys (pe_dget (hu1 hu) (pe_var hN hv hd hcd) pe_str (fun _ _ => rfl))) hg hb hs)) fun D σ H h => by
  obtain ⟨δ, N, F, P, K, o, ⟨a, ks, ds, n, ks2, xs, h1, h2, h3, h4, ql⟩, e⟩ := h
  obtain ⟨p, vs, us, f2, P0, ha, hvp, hl, pa, hp', hl2, rl2, olock, unlock⟩ := o.lock h2 h4
  refine ⟨p, .dK (ks2.zip us), hp', trivial, fun od => ?_⟩
  obtain ⟨va, fa, g1, g2, _⟩ := o.sr.at_ i _ (lk_get h1)
  obtain rfl : va = .ref a := g2.1
  have o0 := olock od
  have unl := unlock od
  obtain ⟨H0, hH0⟩ : ∃ H0, H0 = upd H p (.frz od (.dK (ks2.zip us))) := ⟨_, rfl⟩
  rw [← hH0] at o0 unl
  rw [← hH0]
  have h0p : H0 p = some (.frz od (.dK (ks2.zip us))) := by rw [hH0]; exact upd_same
  have h0a : H0 a = some (.dK (ks.zip vs)) := by rw [hH0, upd_ne (Ne.symm pa)]; exact ha
  have hval : valV (ks.zip vs) (Sum.inr q) = some (.ref p) := by rw [valV_zip, h3]; exact hvp
  refine ⟨.ref a, g1, a, .ref p, rfl, .inl ⟨_, Sum.inr q, .inl h0a, rfl, hval.symm⟩, p, od, rfl, .inl ⟨_, h0p, ?_⟩⟩
  obtain ⟨K', hK'⟩ : ∃ K' : EndD, K' = { nx := fun δ' N' => K.nx δ' (updN (DL.wtr N') a ⟨true, .dic ks ds⟩), rt := fun d N' => K.rt d (updN (DL.wtr N') a ⟨true, .dic ks ds⟩), bk := fun _ _ => False, ct := fun _ _ => False, ex := E9 } := ⟨_, rfl⟩
  rw [← hK'] at ql
  have e' : SEnds E false K' ⟨fun σ' H' => H' p = some (.frz od (.dK (ks2.zip us))) ∧ D.nx σ' (upd H' p (.dK (ks2.zip us))), fun v H' => H' p = some (.frz od (.dK (ks2.zip us))) ∧ D.rt v (upd H' p (.dK (ks2.zip us))), fun σ' H' => H' p = some (.frz od (.dK (ks2.zip us))) ∧ D.bk σ' (upd H' p (.dK (ks2.zip us))), fun σ' H' => H' p = some (.frz od (.dK (ks2.zip us))) ∧ D.ct σ' (upd H' p (.dK (ks2.zip us)))⟩ F P0 H0 := by
    refine ⟨fun σ' H' F' P' δ' N' t' o' qk => ?_, fun σ' H' F' P' δ' N' t' o' qk => ?_, fun σ' H' F' P' δ' N' t' o' qk => ?_, fun v H' F' P' d N' fp t' wf r rtc qk => ?_, ?_⟩
    · obtain ⟨z1, _, P2, o2, t2⟩ := unl δ' N' F' P' σ' H' o' t'
      rw [hK'] at qk
      exact ⟨z1, e.nx σ' _ F' P2 δ' _ t2 o2 qk⟩
    · rw [hK'] at qk; exact False.elim qk
    · rw [hK'] at qk; exact False.elim qk
    · have o' : Ok [] N' F' P' [] H' := ⟨wf, ⟨rfl, fun z hz => by obtain ⟨fpm, w⟩ := wf; exact (w.fr z hz).2, fun i d z => by simp at z⟩⟩
      obtain ⟨z1, z2, P2, o2, t2⟩ := unl [] N' F' P' [] H' o' t'
      rw [hK'] at qk
      have rtc' : ∀ z ∈ fp, F' z := by unfold RtC at rtc; rw [if_neg Bool.false_ne_true] at rtc; exact rtc
      have r2 : Rp (upd H' p (.dK (ks2.zip us))) d v fp := Rp.keep (fun z ws y => by rw [upd_ne (fun e => by rw [e, z1] at y; cases y)]; exact y) _ _ _ r fun z hz => upd_ne (z2 z (rtc' z hz))
      exact ⟨z1, e.rt v _ F' P2 d _ fp t2 o2.wf r2 (by unfold RtC; rw [if_neg Bool.false_ne_true]; exact rtc') qk⟩
    · rw [hK']; exact EC.no
  have hkl : (ks2.zip us).length = ks2.length := by rw [List.length_zip, hl2, Nat.min_self]
  refine ⟨fun j m σ' H' => m = ks2.length - j ∧ j ≤ ks2.length ∧ ∃ δ' N' F' P', Tr F P0 H0 F' P' H' ∧ Ok δ' N' F' P' σ' H' ∧ loopD G w K' ((ks2.map kD).drop j) δ' N', ⟨ks2.length, rfl, Nat.zero_le _, δ, _, F, P0, Tr.refl, o0, ql⟩, ?_⟩
  rintro j m σ' H' ⟨rfl, hj, δ', N', F', P', t', o', q'⟩
  obtain ⟨z1, _⟩ := unl δ' N' F' P' σ' H' o' t'
  by_cases hlt : j < ks2.length
  · obtain ⟨k, hk⟩ : ∃ k, ks2[j]? = some k := ⟨_, List.getElem?_eq_getElem hlt⟩
    have edrop : (ks2.map kD).drop j = kD k :: (ks2.map kD).drop (j + 1) := by
      have hlt' : j < (ks2.map kD).length := by rw [List.length_map]; exact hlt
      rw [List.drop_eq_getElem_cons hlt']
      congr 1
      rw [List.getElem_map]
      congr 1
      exact Option.some.inj ((List.getElem?_eq_getElem hlt).symm.trans hk)
    rw [edrop] at q'
    obtain ⟨og, qb⟩ := q'
    refine .inr ⟨⟨z1, by rw [hkl]; exact hlt⟩, fun σ2 H2 => ∃ δ' N' F' P', Tr F P0 H0 F' P' H2 ∧ Ok δ' N' F' P' σ2 H2 ∧ loopD G w K' ((ks2.map kD).drop (j + 1)) δ' N', fun σ2 H2 h => ⟨ks2.length - (j + 1), by omega, rfl, hlt, h⟩, fun v H2 y => ?_⟩
    obtain ⟨rfl, key, w', hkw, rfl⟩ := y
    obtain ⟨hkey, _⟩ := List.getElem?_zip_eq_some.mp hkw
    obtain rfl : key = k := Option.some.inj (hkey.symm.trans hk)
    refine ⟨δ', F', kD key, [], o'.sr, Rp.kD key, by simp, og, fun σ3 s3 _ _ => ?_⟩
    have o3 : Ok (G (kD key) δ').loc N' F' P' σ3 H2 := ⟨o'.wf, s3⟩
    have again : SC (loopD G w K' ((ks2.map kD).drop (j + 1))) (fun σ2 H2 => ∃ δ' N' F' P', Tr F P0 H0 F' P' H2 ∧ Ok δ' N' F' P' σ2 H2 ∧ loopD G w K' ((ks2.map kD).drop (j + 1)) δ' N') F' P' H2 := fun σ4 H4 F4 P4 δ4 N4 t4 o4 q4 =>
      ⟨δ4, N4, F4, P4, t'.trans t4, o4, q4⟩
    have e4 := e'.tr t'
    exact ⟨_, N', F', P', _, o3, qb, again, e4.nx, again, e4.rt, e4.ex⟩
  · have ej : j = ks2.length := by omega
    subst ej
    rw [List.drop_eq_nil_of_le (by rw [List.length_map]; exact Nat.le_refl _)] at q'
    exact .inl ⟨⟨z1, by rw [hkl]; exact Nat.le_refl _⟩, e'.nx σ' H' F' P' δ' N' t' o' q'⟩
end
end DL
set_option maxHeartbeats 4000000
namespace DL
open PySem L2
def movs (xs : List D) : List D := (xs.map m3).filter fun m => !isN m
def pMoV (i : Nat) (q : Str) (k : Nat) : PF := fun δ N =>
  ⟨k < δ.length ∧ ∃ a cc ks ds n ks2 xs, lk δ i = some (.ref a) ∧ N a = some cc ∧ cc.d = .dic ks ds ∧ idxOf_ (Sum.inr q : Key) ks = some n ∧ ds[n]? = some (.dic ks2 xs) ∧ ks2.length < SZ ∧ ∀ d ∈ xs, ∃ a b c m, d = .tup [a, b, c, m] ∧ IsMo m,
   .lst (movs (kids ((kids (drf N ((lk δ i).getD .non))).getD ((idxOf_ (Sum.inr q : Key) (toKs (drf N ((lk δ i).getD .non)))).getD 0) .non)))⟩
def moV : D → V | .int i => .int i | _ => .non
theorem RpL.mos {H : Hp} : ∀ (ms : List D), (∀ m ∈ ms, IsMo m) → RpL H ms (ms.map moV) []
  | [], _ => RpL.nil
  | m :: ms, h => by
    refine ⟨moV m, _, [], [], rfl, ?_, RpL.mos ms fun z hz => h z (by simp [hz]), rfl⟩
    rcases h m (by simp) with k | rfl
    · cases m <;> first | exact k.elim | exact ⟨rfl, rfl⟩
    · exact ⟨rfl, rfl⟩
theorem Rp.moV {H : Hp} {m : D} {v : V} {fp : List Addr} (h : IsMo m) (r : Rp H m v fp) : v = DL.moV m := by
  rcases h with h | rfl
  · cases m <;> first | exact h.elim | exact r.1
  · exact r.1
theorem movs_snoc {xs : List D} {d0 d1 d2 dm : D} : movs (xs ++ [.tup [d0, d1, d2, dm]]) = movs xs ++ (if isN dm = true then [] else [dm]) := by
  unfold movs
  rw [List.map_append, List.filter_append]
  congr 1
  show [dm].filter _ = _
  cases h : isN dm <;> simp [h]
theorem movs_mo {xs : List D} (h : ∀ d ∈ xs, ∃ a b c m, d = .tup [a, b, c, m] ∧ IsMo m) : ∀ m ∈ movs xs, IsMo m := fun m hm => by
  obtain ⟨d, hd, rfl⟩ := List.mem_map.mp (List.mem_filter.mp hm).1
  obtain ⟨a, b, c, m, rfl, hmo⟩ := h d hd
  exact hmo
theorem movs_len {xs : List D} : (movs xs).length ≤ xs.length := by
  have := List.length_filter_le (fun m => !isN m) (xs.map m3)
  rwa [List.length_map] at this
section
variable {X : Cx} {c : Cl} {pos p1 p2 p3 p4 p5 p6 p7 p8 p9 p10 p11 p12 p13 p14 : Pos} {scope : Scope}
theorem dp_moV {y nm q : Str} {i k : Nat} {c1 c2 c3 c4 : Nat} (hu : X.A.units + 64 < cLine) (hc : X.calm = true) (hN : X.N.Nodup) (hi : X.N[i]? = some nm) (hk : X.N[k]? = some y) (hik : i ≠ k)
    (hvi : Vis X.env.scope nm) (vy : Vis (relabel scope X.env) y) (ly : L2.Loc (relabel scope X.env) y) (ok : BlkOk X.N X.env.scope scope [(y, k)]) (fy : (relabel scope X.env).names.lookup y = some .local)
    (dnm : (nm == ("__debug__" : Str)) = false) (cnm : (nm == ("__classdict__" : Str)) = false) (dy : (y == ("__debug__" : Str)) = false) (cy : (y == ("__classdict__" : Str)) = false)
    (hbase : attributeBase (.Subscript (.Name nm p3) (.Constant (.str q) c1 p4) p5) "values" X.env (eval (.Subscript (.Name nm p3) (.Constant (.str q) c1 p4) p5) X.env) = eval (.Subscript (.Name nm p3) (.Constant (.str q) c1 p4) p5) X.env := by rfl) (hline : (p6.endLine == p7.line) = true := by rfl) :
    DP X c (.ListComp (.Subscript (.Name y p1) (.Constant (.int 3) c2 p12) p13) [⟨.Name y p2, .Call (.Attribute (.Subscript (.Name nm p3) (.Constant (.str q) c1 p4) p5) "values" p6) [] [] p7, [.Compare (.Subscript (.Name y p8) (.Constant (.int 3) c3 p9) p10) [.IsNot] [.Constant .none c4 p11] p14], 0⟩] scope pos) (pMoV i q k) := by
  have hY : ∀ s H D cl fp p, PE (X.blk s H scope (compEnvC scope cl D X.env) fp) (.Name y p) (tVar k) := fun s H D cl fp p => pe_var (X := X.blk s H scope (compEnvC scope cl D X.env) fp) hk vy dy cy
  have hIx : ∀ s H D cl fp p c0 pa pb, PE (X.blk s H scope (compEnvC scope cl D X.env) fp) (.Subscript (.Name y p) (.Constant (.int 3) c0 pa) pb) (tOp (rIxT X.K) (tVar k) (tC (.int 3))) := fun s H D cl fp p c0 pa pb => pe_ix (X := X.blk s H scope (compEnvC scope cl D X.env) fp) ix_tup (hY s H D cl fp p) pe_int (fun _ _ => rfl)
  have hR : PE X (.Subscript (.Name nm p3) (.Constant (.str q) c1 p4) p5) (tDGet (tVar i) (tC (.str q))) := pe_dget (hu1 hu) (pe_var hi hvi dnm cnm) pe_str (fun _ _ => rfl)
  refine pe_imp (pe_lock (pe_lc (own := [(y, k)]) hc hN (pi_values (tg := .Name y p2) hR hbase hline) ok (g := gName k) (fun s H D cl fp => pg_name (X := X.blk s H scope (compEnvC scope cl D X.env) fp) hN hk ly (.inr fy)) (fun s H D cl fp => pts_one (pt_cmpR (X := X.blk s H scope (compEnvC scope cl D X.env) fp) op_notN (hIx s H D cl fp p8 c3 p9 p10) pe_non (nomark _))) (fun s H D cl fp => hIx s H D cl fp p1 c2 p12 p13))) fun σ H Q h => ?_
  obtain ⟨δ, N, F, hS, hn', ⟨okl, a, cc, ks, ds, n, ks2, xs, h1, h2, h2d, h3, h4, hsz, hmo⟩, qq⟩ := h
  obtain ⟨va, fa, g1, g2, _⟩ := hS.at_ i _ (lk_get h1)
  obtain rfl : va = .ref a := g2.1
  obtain ⟨fpa, ra, _⟩ := hn' a cc h2
  rw [h2d] at ra
  obtain ⟨a', vs, f, e, ha, rl, hl, ef⟩ := ra
  cases e
  obtain ⟨u, fu, gu, ru, _, _⟩ := rl.get h4
  obtain ⟨p, us, f2, rfl, hp, rl2, hl2, _⟩ := ru
  have hval : valV (ks.zip vs) (Sum.inr q) = some (.ref p) := by rw [valV_zip, h3]; exact gu
  have hv : (pMoV i q k δ N).val = .lst (movs xs) := by
    show D.lst (movs (kids ((kids (drf N ((lk δ i).getD .non))).getD ((idxOf_ (Sum.inr q : Key) (toKs (drf N ((lk δ i).getD .non)))).getD 0) .non))) = _
    rw [h1]
    show D.lst (movs (kids ((kids (drf N (.ref a))).getD ((idxOf_ (Sum.inr q : Key) (toKs (drf N (.ref a)))).getD 0) .non))) = _
    rw [drf_ref h2, h2d]
    show D.lst (movs (kids (ds.getD ((idxOf_ (Sum.inr q : Key) ks).getD 0) .non))) = _
    rw [h3]
    show D.lst (movs (kids (ds.getD n .non))) = _
    rw [List.getD_eq_getElem?_getD, h4]
    rfl
  rw [hv] at qq
  refine ⟨p, .dK (ks2.zip us), hp, trivial, fun od => ?_⟩
  have hRd : Rd (upd H p (.frz od (.dK (ks2.zip us)))) a (.dK (ks.zip vs)) := by
    by_cases z : a = p
    · subst z
      rw [ha] at hp
      exact .inr ⟨od, by rw [upd_same, ← Option.some.inj hp]⟩
    · exact .inl (by rw [upd_ne z]; exact ha)
  refine ⟨.ref a, g1, a, .ref p, rfl, .inl ⟨_, Sum.inr q, hRd, rfl, hval.symm⟩, p, od, _, rfl, upd_same, fun D hD => ?_⟩
  have hkl : (ks2.zip us).length = xs.length := by rw [List.length_zip, hl2, Nat.min_self, rl2.length]
  have hxl : xs.length = ks2.length := by rw [rl2.length, hl2]
  have hDp : D ≠ p := fun z => by rw [z, upd_same] at hD; cases hD
  have hD0 : H D = none := by rw [upd_ne hDp] at hD; exact hD
  refine ⟨fun i' m H3 => m = xs.length - i' ∧ i' ≤ xs.length ∧ H3 = upd (upd H p (.frz od (.dK (ks2.zip us)))) D (.lst ((movs (xs.take i')).map moV)), ⟨xs.length, rfl, Nat.zero_le _, rfl⟩, ?_⟩
  rintro i' m H3 ⟨rfl, hle, rfl⟩
  have h3p : upd (upd H p (.frz od (.dK (ks2.zip us)))) D (.lst ((movs (xs.take i')).map moV)) p = some (.frz od (.dK (ks2.zip us))) := by rw [upd_ne (Ne.symm hDp), upd_same]
  by_cases hlt : i' < xs.length
  · refine .inr ⟨⟨h3p, by rw [hkl]; exact hlt⟩, fun H' => H' = upd (upd H p (.frz od (.dK (ks2.zip us)))) D (.lst ((movs (xs.take (i' + 1))).map moV)), fun H' e => ⟨xs.length - (i' + 1), by omega, rfl, hlt, e⟩, fun xk H' yl => ?_⟩
    obtain ⟨rfl, key, hkw⟩ := yl
    obtain ⟨hkey, hw⟩ := List.getElem?_zip_eq_some.mp hkw
    obtain ⟨d, hd⟩ : ∃ d, xs[i']? = some d := ⟨_, List.getElem?_eq_getElem hlt⟩
    obtain ⟨w', fw, hw', rw', _, _⟩ := rl2.get hd
    obtain rfl : w' = xk := by rw [hw] at hw'; exact (Option.some.inj hw').symm
    obtain ⟨d0, d1, d2, dm, rfl, hm⟩ := hmo d (List.mem_of_getElem? hd)
    obtain ⟨t, ws, rfl, ht, ru⟩ := rw'
    obtain ⟨u3, f3, hu3, r3, _, _⟩ := ru.get (i := 3) (d := dm) rfl
    obtain rfl := Rp.moV hm r3
    have htp : t ≠ p := fun z => by rw [z, hp] at ht; cases ht
    have htD : t ≠ D := fun z => by rw [z, hD0] at ht; cases ht
    have hkσ : k < σ.length := by rw [← hS.len]; exact okl
    have s2k : ((wipe σ [k]).set k (some (.ref t)))[k]? = some (some (.ref t)) := by
      show ((σ.set k none).set k _)[k]? = _
      rw [List.getElem?_set_self (by rw [List.length_set]; exact hkσ)]
    have etk : xs.take (i' + 1) = xs.take i' ++ [.tup [d0, d1, d2, dm]] := by rw [List.take_succ, hd]; rfl
    have hsq : SqT X.K (upd (upd H p (.frz od (.dK (ks2.zip us)))) D (.lst ((movs (xs.take i')).map moV))) t ws := SqT.of (by rw [upd_ne htD, upd_ne htp]; exact ht)
    have hat : atI ws 3 = some (DL.moV dm) := by rw [show (3 : Int) = ((3 : Nat) : Int) from rfl, atI_nat]; exact hu3
    have hb : isN dm = decide (DL.moV dm = V.non) := by
      rcases hm with hm | rfl
      · cases dm <;> first | exact hm.elim | rfl
      · rfl
    refine ⟨by show ((σ.set k none).set k _).set k none = σ.set k none; rw [List.set_set, List.set_set], .ref t, s2k, t, ws, 3, _, rfl, rfl, hsq, hat, rfl, _, rfl, ?_⟩
    show (if (!decide (DL.moV dm = V.non)) = true then _ else _)
    rw [← hb]
    cases hn : isN dm with
    | false =>
      refine (if_pos rfl).mpr ⟨.ref t, s2k, t, ws, 3, _, rfl, rfl, hsq, hat, _, upd_same, ?_, ?_⟩
      · rw [List.length_map]
        have h1 := movs_len (xs := xs.take i')
        have h2 : (xs.take i').length ≤ xs.length := by rw [List.length_take]; exact Nat.min_le_right _ _
        exact Nat.lt_of_lt_of_le (Nat.lt_of_le_of_lt (Nat.le_trans h1 h2) (by rw [hxl]; exact hsz)) (sz (Nat.le_refl _))
      · show upd (upd _ D _) D _ = _
        rw [upd_upd, etk, movs_snoc, hn, if_neg Bool.false_ne_true, List.map_append]
        rfl
    | true =>
      refine (if_neg (by decide)).mpr ?_
      show _ = _
      rw [etk, movs_snoc, hn, if_pos rfl, List.append_nil]
  · have ei : i' = xs.length := by omega
    subst ei
    refine .inl ⟨⟨h3p, by rw [hkl]; exact Nat.le_refl _⟩, h3p, ?_⟩
    rw [List.take_length]
    have e : upd (upd (upd H p (.frz od (.dK (ks2.zip us)))) D (.lst ((movs xs).map moV))) p (.dK (ks2.zip us)) = upd H D (.lst ((movs xs).map moV)) := by
      funext z
      by_cases z1 : z = p
      · rw [z1, upd_same, upd_ne (Ne.symm hDp), hp]
      · rw [upd_ne z1]
        by_cases z2 : z = D
        · rw [z2, upd_same, upd_same]
        · rw [upd_ne z2, upd_ne z1, upd_ne z2]
    rw [e]
    exact new_lst (c := c) (F := F) (Ex.refl _) (RpL.mos _ (movs_mo hmo)) Cl.nil hD0 qq
end
end DL
set_option maxHeartbeats 4000000
namespace DL
open PySem L2
section
variable {X : Cx} {E : XK} {rc : Bool} {pos : Pos}
def sPar3 (i j l : Nat) (w : WA) : WS := fun K δ N => w δ N (fun ds N1 => ∃ d1 d2 d3, ds = [d1, d2, d3] ∧ K.nx (((δ.set i (some d1)).set j (some d2)).set l (some d3)) N1) K.ex
theorem ds_par3_ {i j l : Nat} {x y z : Str} {a b c : Expr} {g : WA} {px py pz pt : Pos} {kt k2 pt2} (hc : X.calm = true) (hN : X.N.Nodup) (hi : X.N[i]? = some x) (hj : X.N[j]? = some y) (hl : X.N[l]? = some z) (hij : i ≠ j) (hil : i ≠ l) (hjl : j ≠ l)
    (hx : X.env.scope.names.lookup x = some .local) (hy : X.env.scope.names.lookup y = some .local) (hz : X.env.scope.names.lookup z = some .local) (ha : DAE X E [a, b, c] g)
    (hw : swappedStores [.Tuple [.Name x px, .Name y py, .Name z pz] kt pt] (.Tuple [a, b, c] k2 pt2) X.env = pure (some [x, y, z]))
    (hs : swapsWithSole [.Tuple [.Name x px, .Name y py, .Name z pz] kt pt] (.Tuple [a, b, c] k2 pt2) pos.line X.env = pure false := by rfl) :
    DS X E rc (.Assign [.Tuple [.Name x px, .Name y py, .Name z pz] kt pt] (.Tuple [a, b, c] k2 pt2) pos) (sPar3 i j l g) := ps_imp (ps_par3 hc hN hi hj hl hij hil hjl hx hy hz ha hw hs) fun D σ H h => by
  obtain ⟨δ, N, F, P, K, o, q, e⟩ := h
  refine ⟨δ, N, F, P, _, K.ex, o, q, fun vs H1 F1 P1 ds N1 fp t1 o1 r1 kk q1 => ?_, e.ex⟩
  obtain ⟨d1, d2, d3, rfl, q1⟩ := q1
  obtain ⟨v, vr, f, f', rfl, ra, rb, rfl⟩ := r1
  obtain ⟨v2, vr2, g1, g2, rfl, rb, rc', rfl⟩ := rb
  obtain ⟨v3, vr3, h1, h2, rfl, rc', rn, rfl⟩ := rc'
  obtain ⟨rfl, rfl⟩ := rn
  exact ⟨_, _, _, rfl, e.nx _ H1 F1 P1 _ _ t1 ⟨o1.wf, ((o1.sr.set ra fun p hp => kk p (by simp [hp])).set rb fun p hp => kk p (by simp [hp])).set rc' fun p hp => kk p (by simp [hp])⟩ q1⟩
end
end DL
set_option maxHeartbeats 4000000
namespace SrtO
open PySem PySem.Spec PyProof.Rows
def IsT1 (h : Heap) (v : Value) (x : Int) : Prop := ∃ a o t us n, v = .ref a ∧ h.get? a = some o ∧ o.cls = .type "tuple" ∧ o.data = .seq (Value.int x t :: us).toArray n
theorem IsT1.keeps {h h' : Heap} {v : Value} {x : Int} (p : IsT1 h v x) (k : ∀ b o, h.get? b = some o → o.cls = .type "tuple" → h'.get? b = some o) : IsT1 h' v x := by
  obtain ⟨a, o, t, us, n, e, ho, hc, hd⟩ := p
  exact ⟨a, o, t, us, n, e, k _ _ ho hc, hc, hd⟩
theorem firsts_t1 {h : Heap} : ∀ {vs : List Value}, (∀ v ∈ vs, ∃ x, IsT1 h v x) → ∃ fs : List Value, PySem.W.KatTups h vs fs ∧ fs.length = vs.length ∧ ∀ f ∈ fs, ∃ x t, f = Value.int x t
  | [], _ => ⟨[], PySem.W.KatTups.nil, rfl, fun _ hm => by simp at hm⟩
  | v :: vs, hp => by
    obtain ⟨fs, h1, h2, h3⟩ := firsts_t1 (vs := vs) fun v' hm => hp v' (List.mem_cons_of_mem _ hm)
    obtain ⟨x, a, o, t, us, n, e, ho, hc, hd⟩ := hp v (List.mem_cons_self ..)
    subst e
    refine ⟨.int x t :: fs, PySem.W.KatTups.cons ho hc hd rfl h1, by rw [List.length_cons, List.length_cons, h2], fun f hm => ?_⟩
    rcases List.mem_cons.mp hm with rfl | hm
    · exact ⟨x, t, rfl⟩
    · exact h3 f hm
section
variable {prog : Program} {w : World} {A : Around} {s : Shared} {E : Value → Shared → Prop}
theorem kat_same {b : Bool} {Q : Bool → Shared → Prop} (h : Q false s) : ∀ (us : List Value) (i : Nat), PySem.W.KatLex prog w A b false Q (us.zip us) i s
  | [], i => PySem.W.kat_nil h
  | u :: us, i => PySem.W.kat_cons (SeqAt.EqAt.same u prog w _ _ (PySem.W.kat_yes (kat_same h us (i + 1))))
theorem swo_1 (k : Value → Int) : Swo fun v u => decide (k v < k u) := by
  refine ⟨fun x y h => ?_, fun x y z h1 h2 => ?_⟩
  · have a := of_decide_eq_true h
    exact decide_eq_false (by omega)
  · have a := of_decide_eq_false h1
    have b := of_decide_eq_false h2
    exact decide_eq_false (by omega)
theorem t1_cmp {vs : List Value} {k : Value → Int} (hp : ∀ v ∈ vs, IsT1 s.heap v (k v)) (inj : ∀ v ∈ vs, ∀ u ∈ vs, k v = k u → v = u) : Cmp prog w A s (tuples' true) (fun p => p.1 ∈ vs) (lt2 fun v u => decide (k v < k u)) := by
  intro p q hm hm'
  show wpAny (model prog w) A (keyLt' (tuples' true) p.1 q.1) (fun r s' => s' = s ∧ r = decide (k p.1 < k q.1)) (fun _ _ => False) s
  have h1 := hp _ hm
  have h2 := hp _ hm'
  obtain ⟨a, o, t, us, n, e, ho, hc, hd⟩ := h1
  obtain ⟨a', o', t', us', n', e', ho', hc', hd'⟩ := h2
  by_cases ek : k p.1 = k q.1
  · have ep := inj _ hm _ hm' ek
    have e3 : decide (k p.1 < k q.1) = false := decide_eq_false (by omega)
    rw [e3]
    rw [← ep, e]
    refine PySem.W.kat_lt ho hd ho hd ?_
    rw [show decide ((Value.int (k p.1) t :: us).toArray.size < (Value.int (k p.1) t :: us).toArray.size) = false from decide_eq_false (Nat.lt_irrefl _)]
    exact kat_same (Q := fun r s' => s' = s ∧ r = false) ⟨rfl, rfl⟩ _ 0
  · rw [e, e'] 
    refine PySem.W.kat_lt ho hd ho' hd' ?_
    refine PySem.W.kat_cons (SeqAt.EqAt.int_int _ t _ t' prog w _ _ ?_)
    refine PySem.W.kat_go (fun e1 => absurd (by simpa using e1) ek) (fun e1 => ?_)
    rw [← e, ← e']
    exact PySem.W.kat_no (oneLt_int ⟨rfl, rfl⟩)
theorem t1_sortable {a : Addr} {vs : List Value} {k : Value → Int} (h0 : 0 < vs.length) (hp : ∀ v ∈ vs, IsT1 s.heap v (k v)) (inj : ∀ v ∈ vs, ∀ u ∈ vs, k v = k u → v = u) (ha : ∀ o, s.heap.get? a = some o → o.cls ≠ .type "tuple") : SortableO prog w A s a vs fun v u => decide (k v < k u) := by
  intro h' keep
  have hp' : ∀ v ∈ vs, IsT1 h' v (k v) := fun v hm => (hp v hm).keeps fun b o e c => keep b o (fun z => by subst z; exact ha o e c) e
  obtain ⟨fs, h1, h2, h3⟩ := firsts_t1 fun v hm => ⟨_, hp' v hm⟩
  refine ⟨tuples' true, fun Q E hq => ?_, t1_cmp hp' inj⟩
  refine PySem.W.kat_kind (T := .type "int") h1 (by omega) (fun f hm => ?_) (by rfl) ?_
  · obtain ⟨x, t, rfl⟩ := h3 f hm
    exact PySem.W.Looks.now
  · have e : (Value.type "int" != Value.type "tuple") = true := by first | decide +kernel | rfl | decide
    rw [e]
    exact hq
theorem sorted_t1 {l : Addr} {vs : List Value} {k : Value → Int} {Q : Value → Shared → Prop} (hl : s.heap.IsList l vs.toArray) (hz : vs.length ≤ sizeLine) (hp : ∀ v ∈ vs, IsT1 s.heap v (k v)) (up : vs.Pairwise fun v u => k v < k u)
    (h : ∀ (h' : Heap) (d : Addr), (∀ b o, s.heap.get? b = some o → h'.get? b = some o) → s.heap.objs.size ≤ d → (∃ n, h'.get? d = some (seqObj "list" vs.toArray n)) → Q (.ref d) { s with heap := h' }) :
    wpAny (model prog w) A (call (.builtin "sorted") [.ref l]) Q E s := by
  have inj : ∀ v ∈ vs, ∀ u ∈ vs, k v = k u → v = u := by
    clear hl hz hp h
    intro v hv u hu e
    induction vs with
    | nil => cases hv
    | cons x vs ih =>
      obtain ⟨u1, u2⟩ := List.pairwise_cons.mp up
      rcases List.mem_cons.mp hv with h1 | h1
      · rcases List.mem_cons.mp hu with h2 | h2
        · exact h1.trans h2.symm
        · have := u1 u h2; rw [h1] at e; omega
      · rcases List.mem_cons.mp hu with h2 | h2
        · have := u1 v h1; rw [h2] at e; omega
        · exact ih u2 h1 h2
  refine sorted_ord (swo_1 k) hl hz (fun h2 h₁ a ha kk => ?_) fun out hs hb => ?_
  · refine t1_sortable (s := { s with heap := h₁ }) (by omega) (fun v hm => (hp v hm).keeps fun b o e _ => (kk b o e).2) inj fun o e => ?_
    have e' : some o = some (seqObj "list" vs.toArray 0) := e.symm.trans ha
    cases e'
    intro c
    exact absurd (Value.type.inj c) (by decide)
  · have hv : Srtd (fun v u => decide (k v < k u)) vs := up.imp fun {v u} z => decide_eq_false (by omega)
    obtain rfl : out = vs := stb_uniq (swo_1 k) hs hv hb
    exact h _ _ (fun b o e => sortedAll_old e) (Nat.le_succ _) (sortedAll_at s.heap out out.toArray)
end
end SrtO
namespace DL
open PySem PySem.Spec PyProof.Rows L2
def rSortT1 (K : PySem.W.Frag) : List V → Hp → VK → Prop := fun vs H Q => ∃ (a : Addr) (xs : List V) (k : V → Int), vs = [V.ref a] ∧ SqL K H a xs ∧ (∀ x ∈ xs, ∃ t us, x = V.ref t ∧ H t = some (.tup (.int (k x) :: us))) ∧ xs.Pairwise (fun x y => k x < k y) ∧
  ∀ p, H p = none → Q (.ref p) (upd H p (.lst xs))
section
variable {X : Cx} {c c1 c2 : Cl} {pos p p2 : Pos}
theorem cr_sortedT1 : CallR X (.builtin "sorted") (rSortT1 X.K) := by
  intro pins s σ H vs us Q I r h
  obtain ⟨a, xs, k, rfl, hs, hx, up, q⟩ := h
  obtain ⟨its, rv, hl, hz⟩ := I.list hs
  obtain ⟨u, rfl, ru⟩ := vals1 r
  obtain rfl : u = Value.ref a := ru
  obtain ⟨e1, e2⟩ := refs_back rv fun x m => by
    obtain ⟨t, us, e, _⟩ := hx x m
    exact ⟨t, e⟩
  have up' : its.Pairwise fun v u => k (backV v) < k (backV u) := by
    rw [e1] at up
    exact (List.pairwise_map (R := fun x y => k x < k y)).mp up
  refine SrtO.sorted_t1 (k := fun u => k (backV u)) hl.isList (by rw [← rv.length]; exact hz) (fun v hv => ?_) up' fun h' d kp hd hn => ?_
  · obtain ⟨t, rfl⟩ := e2 v hv
    have hm : V.ref t ∈ xs := by rw [e1]; exact List.mem_map.mpr ⟨_, hv, rfl⟩
    obtain ⟨t', us, e, ht⟩ := hx _ hm
    cases e
    obtain ⟨_, its2, r2, o, ho, hc, n, hd⟩ := I.hok _ _ ht
    cases r2 with
    | cons r3 r4 =>
      obtain ⟨t1, rfl⟩ := r3
      exact ⟨t, o, t1, _, n, rfl, ho, hc, hd⟩
  · obtain ⟨n, hn⟩ := hn
    refine ⟨.ref d, upd H d (.lst xs), I.laid (t' := s.toks) kp hd ⟨hz, its, n, rv, hn⟩, rfl, q d (I.hok.fresh hd)⟩
def fstI (d : D) : Int := match d with | .tup (.int i :: _) => i | _ => 0
def isT1 (d : D) : Prop := match d with | .tup (.int _ :: _) => True | _ => False
def sortTD (d : D) : PV := ⟨IsL d ∧ (∀ x ∈ toL d, isT1 x ∧ lf x) ∧ (toL d).Pairwise (fun x y => fstI x < fstI y), .lst (toL d)⟩
theorem RpL.t1 {H : Hp} : ∀ {ds : List D} {vs : List V} {f : List Addr}, RpL H ds vs f → (∀ x ∈ ds, isT1 x) → (ds.Pairwise fun x y => fstI x < fstI y) → ∃ k : V → Int, (∀ x ∈ vs, ∃ t us, x = V.ref t ∧ H t = some (.tup (.int (k x) :: us))) ∧ vs.Pairwise fun x y => k x < k y := by
  intro ds vs f r h1 h2
  let k : V → Int := fun v => match v with
    | .ref t => (match H t with | some (.tup (.int i :: _)) => i | _ => 0)
    | _ => 0
  have key : ∀ {d : D} {v : V} {f : List Addr}, Rp H d v f → isT1 d → (∃ t us, v = V.ref t ∧ H t = some (.tup (.int (k v) :: us))) ∧ k v = fstI d := by
    intro d v f r h
    match d, h with
    | .tup (.int i :: ds), _ =>
      obtain ⟨t, ws, rfl, ht, ru⟩ := r
      obtain ⟨w0, wr, f0, g0, rfl, r0, r1, rfl⟩ := ru
      obtain ⟨rfl, _⟩ := r0
      have ek : k (V.ref t) = i := by show (match H t with | some (.tup (.int i :: _)) => i | _ => 0) = i; rw [ht]
      exact ⟨⟨t, wr, rfl, by rw [ek]; exact ht⟩, ek⟩
  refine ⟨k, ?_⟩
  clear_value k
  induction ds generalizing vs f with
  | nil =>
    obtain ⟨rfl, _⟩ := r
    exact ⟨fun x hx => (by cases hx), List.Pairwise.nil⟩
  | cons d ds ih =>
    obtain ⟨v, vr, f0, g0, rfl, r0, r1, rfl⟩ := r
    obtain ⟨u1, u2⟩ := List.pairwise_cons.mp h2
    obtain ⟨i1, i2⟩ := ih r1 (fun x hx => h1 x (by simp [hx])) u2
    obtain ⟨k1, k2⟩ := key r0 (h1 d (by simp))
    refine ⟨fun x hx => ?_, List.pairwise_cons.mpr ⟨fun x hx => ?_, i2⟩⟩
    · rcases List.mem_cons.mp hx with rfl | hx
      · exact k1
      · exact i1 x hx
    · obtain ⟨n, hn⟩ := List.getElem?_of_mem hx
      have hlen := r1.length
      have hlt : n < ds.length := by
        have : n < vr.length := (List.getElem?_eq_some_iff.mp hn).1
        omega
      obtain ⟨w, fw, hw, rw_, _, _⟩ := r1.get (List.getElem?_eq_getElem hlt)
      obtain rfl : w = x := Option.some.inj (hw.symm.trans hn)
      obtain ⟨_, k4⟩ := key rw_ (h1 _ (List.mem_cons_of_mem _ (List.getElem_mem hlt)))
      rw [k2, k4]
      exact u1 _ (List.getElem_mem hlt)
theorem dp_sortedT1 {a : Expr} {f : PF} (hg : Gl X "sorted") (hm : X.mg "sorted" = none) (ha : DP X c1 a f) (hs : starEach [a] X.env = (false, eval a X.env) :: starEach [] X.env := by rfl) : DP X c (.Call (.Name "sorted" p) [a] [] pos) (p1 sortTD f) :=
  cb1 (hf := sortTD) (fun h => pe_callB cr_sortedT1 hg hm (by decide +kernel) h (he := hs) (hpl := by rfl)) ha (fun F H H1 d v fp Q e1 r k ok q => by
    obtain ⟨o1, o2, o3⟩ := ok
    obtain ⟨pp, vs, f', rfl, hp, rl, rfl⟩ := r.lst_ o1
    obtain ⟨kf, k1, k2⟩ := RpL.t1 rl (fun x hx => (o2 x hx).1) o3
    have ef : f' = [] := RpL.lf _ _ _ rl (lfs_iff.mpr fun x hx => (o2 x hx).2)
    subst ef
    exact ⟨pp, vs, kf, rfl, SqL.of hp, k1, k2, fun l hl => new_lst (c := c) (F := F) e1 rl Cl.nil hl q⟩) hs
def neDD (x y : D) : TV := ⟨IsDic x ∧ y = x ∧ (toKs x).length = (kids x).length ∧ (toKs x).Nodup ∧ ∀ d ∈ kids x, flat d = true, false⟩
theorem valV_mem : ∀ {ks : List Key} {vs : List V}, ks.Nodup → ∀ p ∈ ks.zip vs, valV (ks.zip vs) p.1 = some p.2
  | [], vs, _, p, hp => by simp at hp
  | k :: ks, [], _, p, hp => by simp at hp
  | k :: ks, v :: vs, nd, p, hp => by
    obtain ⟨n1, n2⟩ := List.nodup_cons.mp nd
    rw [List.zip_cons_cons] at hp ⊢
    rcases List.mem_cons.mp hp with rfl | hp
    · unfold valV; simp
    · have hk : p.1 ∈ ks := (List.of_mem_zip hp).1
      have ne : k ≠ p.1 := fun e => n1 (e ▸ hk)
      have ih := valV_mem n2 p hp
      unfold valV at ih ⊢
      rw [List.find?_cons_of_neg (by simpa using ne)]
      exact ih
theorem dt_neDD {a b : Expr} {f g : PF} (hu : X.A.units + 64 < cLine) (ha : DP X c1 a f) (hb : DP X c2 b g) : DT X (.Compare a [.NotEq] [b] pos) (tc2 neDD f g) :=
  dt_cmp (hf := neDD) (op_ne_dictA (by omega)) ha hb (nomark _) fun H2 x y v w fa fb Q rx ry ok q => by
    obtain ⟨o1, rfl, o3, o4, o5⟩ := ok
    match y, o1 with
    | .dic ks xs, _ =>
      obtain ⟨a1, vs, f1, rfl, h1, r1, l1, _⟩ := rx
      obtain ⟨a2, us, f2, rfl, h2, r2, l2, _⟩ := ry
      have o5 : ∀ d ∈ xs, flat d = true := o5
      have ev : vs = us := by
        obtain ⟨z1, _⟩ := r1.flat_ o5
        obtain ⟨z2, _⟩ := r2.flat_ o5
        rw [z1, z2]
      subst ev
      refine ⟨a1, a2, _, _, rfl, rfl, h1, h2, rfl, fun p hp => ⟨valV_mem o4 p hp, ?_⟩, q⟩
      obtain ⟨z1, _⟩ := r1.flat_ o5
      have hm := (List.of_mem_zip hp).2
      rw [z1] at hm
      obtain ⟨d, hd, e⟩ := List.mem_map.mp hm
      have hfd := o5 d hd
      rw [← e]
      cases d <;> first | rfl | cases hfd
end
end DL
set_option maxHeartbeats 4000000
namespace DL
open PySem PySem.Spec PyProof.Rows L2
theorem keys_list {h : Heap} : ∀ {ps : List Addr} {prs : List (Key × Value)}, prs.length = ps.length → (∀ (j : Nat) (q : Key × Value), prs[j]? = some q → ∃ (b : Addr) (u : Value), ps[j]? = some b ∧ IsTup h b #[u, q.2] ∧ keyIs q.1 u = true) →
    ∃ L : List (Value × Value), L.length = prs.length ∧ ∀ (j : Nat) k v, L[j]? = some (k, v) → ∃ key b, prs[j]? = some (key, v) ∧ ps[j]? = some b ∧ IsTup h b #[k, v] ∧ keyIs key k = true
  | ps, [], _, _ => ⟨[], rfl, fun j k v e => by simp at e⟩
  | [], q :: prs, hl, _ => by simp at hl
  | p :: ps, q :: prs, hl, hq => by
    obtain ⟨L, h1, h2⟩ := keys_list (ps := ps) (prs := prs) (by simpa using hl) fun j q' e => by
      obtain ⟨b, u, a1, a2, a3⟩ := hq (j + 1) q' (by simpa using e)
      exact ⟨b, u, by simpa using a1, a2, a3⟩
    obtain ⟨b, u, a1, a2, a3⟩ := hq 0 q rfl
    refine ⟨(u, q.2) :: L, by simp [h1], fun j k v e => ?_⟩
    cases j with
    | zero =>
      have e : (u, q.2) = (k, v) := Option.some.inj e
      cases e
      exact ⟨q.1, b, rfl, a1, a2, a3⟩
    | succ j =>
      obtain ⟨key, b, z1, z2, z3, z4⟩ := h2 j k v (by simpa using e)
      exact ⟨key, b, by simpa using z1, by simpa using z2, z3, z4⟩
section
variable {X : Cx} {E : XK} {c c1 c2 c3 : Cl} {pos p pos' : Pos} {rc : Bool}
def rUpdP (K : PySem.W.Frag) : V → List V → Hp → VK → Prop := fun x vs H Q => ∃ (a b : Addr) (ps : List Addr) (kvs more : List (Key × V)), x = .ref a ∧ vs = [.ref b] ∧ H a = some (.dK kvs) ∧ SqL K H b (ps.map V.ref) ∧ Paired (fun p kv => SqT K H p [kV kv.1, kv.2]) ps more ∧ kvs.length + more.length ≤ sizeLine ∧ Q .non (upd H a (.dK (mergeK kvs more)))
theorem mt_updateP (hcalm : X.calm = true) : MtR X "dict.update" (rUpdP X.K) := by
  intro pins s σ H x vs v us Q I rx rv h
  obtain ⟨a, b, ps, kvs, more, rfl, rfl, ha, hq, hp, hz, q⟩ := h
  cases rx
  obtain ⟨u, rfl, ru⟩ := rv.one
  cases ru
  obtain ⟨z, hd, vs, rel, dd⟩ := dk_of I.hok ha
  obtain ⟨its, rv2, pl, hzl⟩ := I.list hq
  have ei := refs_at rv2
  subst ei
  obtain ⟨prs, rel2, hl2, hpr⟩ := pairs_of I hp
  obtain ⟨o, n, ho, hc, hdn, hdat⟩ := pl
  obtain ⟨L, l1, l2⟩ := keys_list hl2 hpr
  have hl : (mergeK kvs more).length ≤ sizeLine := Nat.le_trans (length_mergeK more kvs) hz
  have hty : ∀ o', s.heap.get? a = some o' → o'.cls = .type "dict" := fun o' e => by
    obtain ⟨o2, e2, e3⟩ := dd.typeIs
    rw [e] at e2
    cases e2
    exact e3
  have hab : a ≠ b := fun e => by
    have h1 := hty o (e ▸ ho)
    rw [hc] at h1
    exact absurd (Value.type.inj h1) (by decide)
  have hat : ∀ (j : Nat) (k v : Value), L[j]? = some (k, v) → a ≠ ps.getD j 0 := fun j k v e z => by
    obtain ⟨key, b', _, e2, ⟨o2, e3, e4, _⟩, _⟩ := l2 j k v e
    have e5 : ps.getD j 0 = b' := by rw [List.getD_eq_getElem?_getD, e2]; rfl
    have h1 := hty o2 (by rw [z, e5]; exact e3)
    rw [e4] at h1
    exact absurd (Value.type.inj h1) (by decide)
  refine call_update_pairs (prog := X.prog) (w := X.w) (knd := mixKind X.prog X.w) (acc := vs) (kvs := prs) (PairArg.list b (ps.map Value.ref).toArray (fun j => ps.getD j 0) L) (I.ok.hd hcalm) ⟨⟨o, n, ho, hc, hdn, hdat⟩, ?_, fun j k v e => ?_⟩ ?_ ⟨l1.symm, fun i key v e => ?_⟩ dd (by rw [l1, ← rel.length, ← rel2.length]; exact hz) fun h' tk dd' hk => ?_
  · rw [List.size_toArray, List.length_map, l1, hl2]
  · obtain ⟨key, b', _, e2, e3, _⟩ := l2 j k v e
    refine ⟨by simp [e2], .inl ?_⟩
    have e5 : ps.getD j 0 = b' := by rw [List.getD_eq_getElem?_getD, e2]; rfl
    show Heap.IsTuple s.heap (ps.getD j 0) #[k, v]
    rw [e5]; exact e3
  · intro hm
    rcases List.mem_cons.mp hm with e | hm
    · exact hab e
    · obtain ⟨j, hj, e⟩ := List.mem_map.mp hm
      have hj := List.mem_range.mp hj
      exact hat j L[j].1 L[j].2 (List.getElem?_eq_getElem hj) e.symm
  · obtain ⟨key', b', e1, _, _, e4⟩ := l2 i key v e
    exact ⟨key', e1, e4⟩
  · have he : ∃ q, h'.get? a = some q := let ⟨q, _, _, hq, _⟩ := dd'; ⟨q, hq⟩
    exact ⟨.non, _, I.write (x := a) (e := a) (by rw [ha]; exact True.intro) (.inl rfl) (fun b q hb z => hk b q hb (by simp) z) he (dk_new hl hd (KV.merge rel2 rel) dd'), rfl, q⟩
def sDUpdP (pl : PLF) (f : PF) : WS := fun K δ N => (pl δ N).ok ∧ (f δ N).ok ∧ ∃ t ks xs ks2 xs2, N (pl δ N).a = some ⟨true, t⟩ ∧ sub t (pl δ N).π = some (.dic ks xs) ∧ (dictD (f δ N).val).ok ∧ (dictD (f δ N).val).val = .dic ks2 xs2 ∧ (ks ++ ks2).Nodup ∧ ks.length + ks2.length ≤ SZ ∧
  K.nx δ (updN N (pl δ N).a ⟨true, put t (pl δ N).π (.dic (ks ++ ks2) (xs ++ xs2))⟩)
theorem ds_dupdP {e a : Expr} {pl : PLF} {f : PF} {apos ppos : Pos} (hp : PLc X e pl) (ha : DP X .frs a f) (hs : swapsWith (.Call (.Attribute e "update" apos) [a] [] ppos) none pos.line X.env = pure false := by rfl)
    (hbm : PE X (.Call (.Attribute e "update" apos) [a] [] ppos) (tBM X.K "dict" (rUpdP X.K) (tPl pl) (tCons (tP .frs f) tNil))) : DS X E rc (.Expr (.Call (.Attribute e "update" apos) [a] [] ppos) pos) (sDUpdP pl f) := ps_imp (ps_expr hbm hs) fun D σ H h => by
  obtain ⟨δ, N, F, P, K, o, ⟨o1, o2, t, ks, xs, ks2, xs2, hN, hsub, hdo, hdv, nd, hsz, q⟩, e⟩ := h
  refine ⟨δ, N, F, P, o, _, _, o1, hN, hsub, fun u H1 e1 at1 => ?_⟩
  obtain ⟨fp, r, _⟩ := o.nr _ _ hN
  obtain ⟨f1, f0, f2, rs, _, _⟩ := at1.zip (r.ex e1)
  obtain ⟨p, vs, f', rfl, hp, rl, hlen, rfl⟩ := rs
  refine ⟨.inr (.inr (.inl ⟨rfl, .inl ⟨_, hp⟩⟩)), δ, N, F, o.sr.ex e1, o.nr.ex e1, o2, fun v H2 fq e2 r2 k2 => ?_⟩
  obtain ⟨d1, d2, d3⟩ := hdo
  obtain ⟨p2, vs2, g, rfl, hp2, rl2, rfl⟩ := r2.lst_ d1
  obtain ⟨ps, ws, rfl, a2, a3, a4⟩ := pairs_rd (K := X.K) rl2 d2
  have hdv : DL.D.dic ((toL (f δ N).val).map pK) ((toL (f δ N).val).map pV) = DL.D.dic ks2 xs2 := hdv
  obtain ⟨rfl, rfl⟩ := DL.D.dic.inj hdv
  have hp' := e2 _ _ hp
  have hks : ks.length = xs.length := by rw [hlen, rl.length]
  refine ⟨p, p2, ps, _, _, rfl, rfl, hp', SqL.of hp2, a2, by rw [List.length_zip, List.length_zip, ← hlen, ← a4]; simp only [Nat.min_self]; exact Nat.le_trans hsz (sz (Nat.le_refl _)), ?_⟩
  rw [mergeK_nodup (by rw [List.map_append, zip_fst hlen, zip_fst a4]; exact nd), ← List.zip_append hlen]
  obtain ⟨gd1, gd2⟩ := List.nodup_cons.mp k2.1
  obtain ⟨P', o', t'⟩ := o.writeD (ks' := ks ++ (toL (f δ N).val).map pK) (ys := xs ++ (toL (f δ N).val).map pV) (ws := vs ++ ws) (g := g) (e1.trans e2) hN (at1.ex e2) hp' hlen (by rw [List.length_append, List.length_append, hlen, a4]) (fun q hq => e1.free (k2.2 q (by simp [hq]))) gd2 fun f r nd ng =>
    ⟨f ++ g, RpL.append r a3, List.nodup_append.mpr ⟨nd, gd2, fun x hx y hy z => ng x hx (z ▸ hy)⟩, fun q hq => List.mem_append.mp hq⟩
  exact e.nx σ _ F P' δ _ t' o' q
end
end DL
set_option maxHeartbeats 4000000
namespace DL
open PySem L2
def FrR (F' P' : Addr → Prop) (H : Hp) (fp : List Addr) : Prop := fp.Nodup ∧ ∀ p ∈ fp, H p = none ∧ ¬ P' p ∧ ¬ F' p
theorem FrR.tr {F P F1 P1 F' P' : Addr → Prop} {H H1 : Hp} {fp : List Addr} (h : FrR F' P' H1 fp) (t : Tr F P H F1 P1 H1) : FrR F' P' H fp := ⟨h.1, fun p hp => ⟨t.back (h.2 p hp).1, (h.2 p hp).2⟩⟩
def spMF (n : Nat) (sp : SpD) : Sp := fun vs H Q E => ∃ ds N F P Q' E' fps, ds.length = n ∧ (∃ fpm, Wf N F P H fpm) ∧ RpL H ds vs fps ∧ (∀ p ∈ fps, F p) ∧ sp ds N Q' E' ∧
  (∀ v H' F' P' d N' fp, Tr F P H F' P' H' → (∃ fpm, Wf N' F' P' H' fpm) → Rp H' d v fp → FrR F' P' H fp → Q' d N' → Q v H') ∧ EC E E' F P H
theorem Tr.frz {F P F' P' : Addr → Prop} {H H' : Hp} {fp : List Addr} (t : Tr F P H F' P' H') (k : FrR F' P' H fp) : Tr F P H (fun p => F' p ∨ p ∈ fp) P' H' :=
  ⟨fun p h => .inl (t.fr p h), t.st, t.th, t.pw, fun p h => h.elim (t.fw p) fun z => .inr (.inr (k.2 p z).1)⟩
theorem Wf.frz {N : Nm} {F P : Addr → Prop} {H H0 : Hp} {fpm : Addr → List Addr} {d : D} {v : V} {fp : List Addr} (w : Wf N F P H fpm) (r : Rp H d v fp) (k : FrR F P H0 fp) : Wf N (fun p => F p ∨ p ∈ fp) P H fpm :=
  ⟨w.cell, w.own, w.sep, fun p h => h.elim (w.fr p) fun z => ⟨(k.2 p z).2.1, let ⟨o, ho, _⟩ := Rp.there _ _ _ r p z; ⟨o, ho⟩⟩, w.pr⟩
theorem spM_F {n : Nat} {sp : SpD} {vs : List V} {H : Hp} {Q : VK} {E : XK} (h : spM n sp vs H Q E) : spMF n sp vs H Q E := by
  obtain ⟨ds, N, F, P, Q', E', fps, h1, h2, h3, h4, h5, q, qe⟩ := h
  refine ⟨ds, N, F, P, Q', E', fps, h1, h2, h3, h4, h5, fun v H' F' P' d N' fp t w r k q' => ?_, qe⟩
  obtain ⟨fpm, w⟩ := w
  exact q v H' _ P' d N' fp (t.frz k) ⟨fpm, w.frz r k⟩ r (fun p hp => .inr hp) q'
theorem HasM.toM {P : Program} {w : World} {K : PySem.W.Frag} {mg : Str → Option Value} {base : Heap} {C : Addr} {m : Str} {k n : Nat} {ps : List Str} {sp : SpD} (h : HasM P w K mg base C m k ps (spMF n sp)) : HasM P w K mg base C m k ps (spM n sp) := by
  obtain ⟨f, fd, F, m, b⟩ := h.ex
  exact ⟨f, fd, F.imp fun _ _ _ _ z => spM_F z, m, b⟩
theorem Has.toM {P : Program} {w : World} {K : PySem.W.Frag} {mg : Str → Option Value} {base : Heap} {x : Str} {k n : Nat} {ps : List Str} {sp : SpD} (h : Has P w K mg base x k ps (spMF n sp)) : Has P w K mg base x k ps (spM n sp) := by
  obtain ⟨f, fd, F, m, b⟩ := h.ex
  exact ⟨f, fd, F.imp fun _ _ _ _ z => spM_F z, m, b⟩
section
variable {P : Program} {w : World} {K : PySem.W.Frag} {mg : Str → Option Value} {base : Heap}
theorem fn_mutF {x qual : Str} {st : Stmt} {f : Addr} {fd : FuncData} {N ps : List Str} {k n : Nat} {sp : SpD} (F : L2.Fun K x qual st f fd) (S : FnScope N ps (defScope st)) (hn : ps.length = n) (hN : n ≤ N.length)
    (hbody : ∀ (cdv : Value) (A : Around) (outer : List Env) (s : Shared) (H : Hp) (E : XK), Room k (A.deeper (PyProof.Rows.envOfC qual (defScope st) s.heap.objs.size f cdv)) →
      ∃ w', DSs (cxOf (L2.CX P w) P w K mg base N qual (defScope st) f cdv A outer s H E) E true (defBody st) w' ∧
        ∀ ds M Q' E', ds.length = n → sp ds M Q' E' → w' { nx := fun _ M' => Q' .non M', rt := Q', ex := E' } (startD N.length ds) M) :
    FnOk P w K mg base (L2.CX P w) (k + 1) f fd ps (spMF n sp) := by
  refine F.okX S (fun vs H Q E h => ?_) (fun cdv A outer s H vs Q E hr h => ?_)
  · obtain ⟨ds, M, F', P', Q', E', fps, hl, _, rl, _⟩ := h
    rw [← rl.length, hl, hn]
  · obtain ⟨ds, M, F', P', Q', E', fps, hl, ⟨fpm, wf⟩, rl, hF, hsp, q, qe⟩ := h
    obtain ⟨w', hw, body⟩ := hbody cdv A outer s H E hr
    refine ⟨_, hw, ?_⟩
    have sr := srep_start (N := N) rl (F := F') hF (fun p hp => (wf.fr p hp).2) (by omega)
    refine ⟨startD N.length ds, M, F', P', _, ⟨⟨_, wf⟩, sr⟩, body ds M Q' E' hl hsp, ?_, ?_, ?_, ?_, qe⟩
    · exact fun σ' H' F1 P1 δ' N' t o e => q .non H' F1 P1 .non N' [] t o.wf ⟨rfl, rfl⟩ ⟨List.nodup_nil, by simp⟩ e
    · exact fun _ _ _ _ _ _ _ _ z => z.elim
    · exact fun _ _ _ _ _ _ _ _ z => z.elim
    · intro v H' F1 P1 d N' fp t w2 r rt re
      unfold RtC at rt
      rw [if_pos rfl] at rt
      exact q v H' F1 P1 d N' fp t w2 r rt re
end
def tDEF (E : XK) (w : WE) : TE := fun σ H Q => ∃ δ N F P Q' E', Ok δ N F P σ H ∧ w δ N Q' E' ∧ (∀ v H' F' P' d N' fp, Tr F P H F' P' H' → Ok δ N' F' P' σ H' → Rp H' d v fp → FrR F' P' H fp → Q' d N' → Q v H') ∧ EC E E' F P H
abbrev DEF (X : Cx) (E : XK) (e : Expr) (w : WE) : Prop := PE X e (tDEF E w)
section
variable {X : Cx} {E : XK} {c c1 c2 c3 : Cl} {pos p p2 : Pos} {x : Str} {rc : Bool} {C : Addr}
theorem def_if {e a b : Expr} {t : WT} {w u : WE} (ht : DTE X E e t) (ha : DEF X E a w) (hb : DEF X E b u) : DEF X E (.IfExp e a b pos) (wIf t w u) := by
  refine pe_imp (pe_ifExp ht ha hb) fun σ H Q h => ?_
  obtain ⟨δ, N, F, P, Q', E', o, q', q, qe⟩ := h
  refine ⟨δ, N, F, P, _, E', o, q', fun b H1 F1 P1 N1 t1 o1 q1 => ?_, qe⟩
  cases b with
  | true =>
    refine (if_pos rfl).mpr ?_
    exact ⟨δ, N1, F1, P1, Q', E', o1, by simpa using q1, fun v H2 F2 P2 d N2 fp t2 o2 r k q2 => q v H2 F2 P2 d N2 fp (t1.trans t2) o2 r (k.tr t1) q2, qe.tr t1⟩
  | false =>
    refine (if_neg Bool.false_ne_true).mpr ?_
    exact ⟨δ, N1, F1, P1, Q', E', o1, by simpa using q1, fun v H2 F2 P2 d N2 fp t2 o2 r k q2 => q v H2 F2 P2 d N2 fp (t1.trans t2) o2 r (k.tr t1) q2, qe.tr t1⟩
theorem def_call {k n : Nat} {ps : List Str} {sp : SpD} {e : Expr} {es : List Expr} {w : WA} (h : HasX X x k ps (spMF n sp)) (hr : Room k X.A) (hg : Gl X x) (hx : Passes (L2.CX X.prog X.w) X E) (ha : DAE X E (e :: es) w) (hdb : (x == ("__debug__" : Str)) = false := by decide)
    (he : starEach (e :: es) X.env = (false, eval e X.env) :: starEach es X.env := by rfl) (hpl : (backTo pos (starEach es X.env)).any (·.1) = false := by rfl) : DEF X E (.Call (.Name x p) (e :: es) [] pos) (wCall n sp w) := by
  obtain ⟨f', fd, Fn, hm, hk, hb⟩ := h.ex
  refine pe_imp (pe_call Fn hr hg hm hk hb .nil hx ha hdb he hpl) fun σ H Q h => ?_
  obtain ⟨δ, N, F, P, Q', E', o, q', q, qe⟩ := h
  refine ⟨δ, N, F, P, _, E', o, q', fun vs H1 F1 P1 ds N1 fp t1 o1 r1 k1 q1 => ?_, qe⟩
  show spMF n sp (vs ++ []) H1 Q E
  rw [List.append_nil]
  refine ⟨ds, N1, F1, P1, Q', E', fp, q1.1, o1.wf, r1, k1, q1.2, fun v H2 F2 P2 d N2 fq t2 w2 r2 k2 q2 => ?_, qe.tr t1⟩
  exact q v H2 F2 P2 d N2 fq (t1.trans t2) (o1.after t2 w2) r2 (k2.tr t1) q2
theorem def_meth {o e : Expr} {es : List Expr} {m : Str} {apos : Pos} {pl : Sem Bool} {w : WE} {u : WA} {k n : Nat} {ps : List Str} {sp : SpD} (hC : Cls X.K C) (h : HasMX X C m k ps (spMF n sp)) (hr : Room k X.A) (hx : Passes (L2.CX X.prog X.w) X E) (ho : DE X E o w) (ha : DAE X E (e :: es) u)
    (hst : starEach (e :: es) X.env = (false, eval e X.env) :: starEach es X.env := by rfl) (hpl : (backTo pos (starEach es X.env)).any (·.1) = false := by rfl)
    (ht : eval (.Call (.Attribute o m apos) (e :: es) [] pos) X.env = (do
      let ov ← eval o X.env
      standAt apos.atName
      let (f, first) ← holding [ov] (getMethod ov m pl)
      callWith pos f first (backTo pos (starEach (e :: es) X.env)) (backToKw pos (keywordEach [] X.env))) := by rfl) : DEF X E (.Call (.Attribute o m apos) (e :: es) [] pos) (wMeth C m n sp w u) := by
  obtain ⟨f', fd, Fn, hm, hb⟩ := h.ex
  refine pe_imp (pe_meth ho hC hm Fn hr hb .nil hx ha hst hpl ht) fun σ H Q h => ?_
  obtain ⟨δ, N, F, P, Q', E', o, q', q, qe⟩ := h
  refine ⟨δ, N, F, P, _, E', o, q', fun v H1 F1 P1 d N1 fp t1 o1 r1 k1 q1 => ?_, qe⟩
  obtain ⟨⟨a, cc, rfl, hN1, hob⟩, q2⟩ := q1
  have ev : v = .ref a := r1.1
  subst ev
  obtain ⟨fp0, r0, _⟩ := o1.nr _ _ hN1
  obtain ⟨a', dx, fs, ea, h1, h2⟩ := r0.ob hob
  cases ea
  refine ⟨a, dx, fs, rfl, h1, h2, δ, N1, F1, P1, _, E', o1, q2, fun vs H2 F2 P2 ds N2 fq t2 o2 r2 k2 q3 => ?_, qe.tr t1⟩
  show spMF n sp (.ref a :: (vs ++ [])) H2 Q E
  rw [List.append_nil]
  refine ⟨.ref a :: ds, N2, F2, P2, Q', E', [] ++ fq, by simpa using q3.1, o2.wf, RpL.cons ⟨rfl, rfl⟩ r2, by simpa using k2, q3.2, fun v H3 F3 P3 d N3 fr t3 w3 r3 k3 q4 => ?_, (qe.tr t1).tr t2⟩
  exact q v H3 F3 P3 d N3 fr ((t1.trans t2).trans t3) (o2.after t3 w3) r3 (k3.tr (t1.trans t2)) q4
theorem def_meth0 {o : Expr} {m : Str} {apos : Pos} {pl : Sem Bool} {w : WE} {k : Nat} {ps : List Str} {sp : SpD} (hC : Cls X.K C) (h : HasMX X C m k ps (spMF 1 sp)) (hr : Room k X.A) (hx : Passes (L2.CX X.prog X.w) X E) (ho : DE X E o w)
    (ht : eval (.Call (.Attribute o m apos) [] [] pos) X.env = (do
      let ov ← eval o X.env
      standAt apos.atName
      let (f, first) ← holding [ov] (getMethod ov m pl)
      callWith pos f first (backTo pos (starEach [] X.env)) (backToKw pos (keywordEach [] X.env))) := by rfl) : DEF X E (.Call (.Attribute o m apos) [] [] pos) (wMeth C m 1 sp w wANil) := by
  obtain ⟨f', fd, Fn, hm, hb⟩ := h.ex
  refine pe_imp (pe_meth0 ho hC hm Fn hr hb .nil hx ht) fun σ H Q h => ?_
  obtain ⟨δ, N, F, P, Q', E', o, q', q, qe⟩ := h
  refine ⟨δ, N, F, P, _, E', o, q', fun v H1 F1 P1 d N1 fp t1 o1 r1 k1 q1 => ?_, qe⟩
  obtain ⟨⟨a, cc, rfl, hN1, hob⟩, q2⟩ := q1
  have ev : v = .ref a := r1.1
  subst ev
  obtain ⟨fp0, r0, _⟩ := o1.nr _ _ hN1
  obtain ⟨a', dx, fs, ea, h1, h2⟩ := r0.ob hob
  cases ea
  refine ⟨a, dx, fs, rfl, h1, h2, ?_⟩
  show spMF 1 sp [.ref a] H1 Q E
  refine ⟨[.ref a], N1, F1, P1, Q', E', [], by simpa using q2.1, o1.wf, RpL.cons (f := []) (g := []) ⟨rfl, rfl⟩ RpL.nil, by simp, q2.2, fun v H3 F3 P3 d N3 fr t3 w3 r3 k3 q4 => ?_, qe.tr t1⟩
  exact q v H3 F3 P3 d N3 fr (t1.trans t3) (o1.after t3 w3) r3 (k3.tr t1) q4
theorem ds_retE {e : Expr} {w : WE} (h : DEF X E e w) : DS X E true (.Return (some e) pos) (sRet w) := ps_imp (ps_ret h) fun D σ H h => by
  obtain ⟨δ, N, F, P, K, o, q, e⟩ := h
  exact ⟨δ, N, F, P, _, K.ex, o, q, fun v H1 F1 P1 d N1 fp t1 o1 r1 k1 q1 => e.rt v H1 F1 P1 d N1 fp t1 o1.wf r1 (by unfold RtC; rw [if_pos rfl]; exact k1) q1, e.ex⟩
theorem ds_retP {e : Expr} {f : PF} (h : DP X .frs e f) : DS X E true (.Return (some e) pos) (sRet (wP f)) := ds_retF h
end
theorem Ok.fillR {δ : Loc} {N : Nm} {F0 P0 F P : Addr → Prop} {σ : St} {H0 H : Hp} {a b : Addr} {d : D} {fq : List Addr} (o : Ok δ N F P σ H) (hw : ∀ b c, N b = some c → c.w = true) (hN : N a = some ⟨true, .lst []⟩) (r : Rp H d (.ref b) fq) (hb : b ∈ fq) (k : FrR F P H0 fq) (t : Tr F0 P0 H0 F P H) :
    N b = none ∧ ∃ P', Ok δ (updN (updN N b ⟨true, d⟩) a ⟨true, .lst [.ref b]⟩) F P' σ (upd H a (.lst [.ref b])) ∧ Tr F0 P0 H0 F P' (upd H a (.lst [.ref b])) := by
  obtain ⟨⟨fpm, w⟩, sr⟩ := o
  obtain ⟨h1, w1⟩ := w.alloc r hb k.1 (fun q hq => (k.2 q hq).2.2) fun q hq b c h z => (k.2 q hq).2.1 ((w.own b c h (hw b c h)).2 q z)
  have hab : a ≠ b := fun z => by rw [z, h1] at hN; cases hN
  have o1 : Ok δ (updN N b ⟨true, d⟩) F (fun q => P q ∨ q ∈ fq) σ H := ⟨⟨_, w1⟩, sr⟩
  have t1 : Tr F0 P0 H0 F (fun q => P q ∨ q ∈ fq) H := ⟨t.fr, t.st, t.th, fun p h => h.elim (t.pw p) fun z => .inr (k.2 p z).1, t.fw⟩
  have hN1 : updN N b ⟨true, d⟩ a = some ⟨true, .lst []⟩ := by rw [updN_ne hab]; exact hN
  obtain ⟨⟨p0, vs, f', e0, hpa, rl, ef⟩, am⟩ := w.cell a _ hN
  cases e0
  obtain ⟨P', o2, t2⟩ := o1.writeL (H := H) (p := a) (t := .lst []) (π := []) (xs := []) (ys := [.ref b]) (ws := [.ref b]) (g := []) (Ex.refl _) hN1 AtV.nil hpa (by simp) List.nodup_nil fun f r nd _ => ⟨[], RpL.one ⟨rfl, rfl⟩, List.nodup_nil, by simp⟩
  exact ⟨h1, P', o2, t1.trans t2⟩
def wAppO (i : Nat) (w : WE) : WE := fun δ N Q E => lk δ i = some (.ref (rA (lk δ i))) ∧ (∃ c, N (rA (lk δ i)) = some c ∧ IsL c.d) ∧ w δ N (fun d N1 => N1 (rA (lk δ i)) = some ⟨true, .lst []⟩ ∧ IsC d ∧ ∀ b, wtr N1 b = none → Q .non (updN (updN (wtr N1) b ⟨true, d⟩) (rA (lk δ i)) ⟨true, .lst [.ref b]⟩)) E
section
variable {X : Cx} {E : XK} {pos p : Pos}
theorem de_appO {a : Expr} {y : Str} {ny : Pos} {w : WE} {apos ppos : Pos} (i : Nat)
    (hbm : PE X (.Call (.Attribute (.Name y ny) "append" apos) [a] [] ppos) (tBM X.K "list" rAppend (tVar i) (tCons (tDEF E w) tNil))) : DE X E (.Call (.Attribute (.Name y ny) "append" apos) [a] [] ppos) (wAppO i w) := pe_imp hbm fun σ H Q h => by
  obtain ⟨δ, N, F, P, Q', E', o, ⟨o1, ⟨c, hc, hl⟩, q⟩, qq, qe⟩ := h
  obtain ⟨v, fp, h1, h2, h3⟩ := o.sr.at_ i _ (lk_get o1)
  have ev : v = .ref (rA (lk δ i)) := h2.1
  subst ev
  obtain ⟨fp0, r0, _⟩ := o.nr _ _ hc
  obtain ⟨p0, vs0, f0, e0, hp0, _, _⟩ := r0.lst_ hl
  cases e0
  refine ⟨_, h1, .inl ⟨rfl, _, SqL.of hp0⟩, δ, N, F, P, _, E', o, q, fun v H1 F1 P1 d N1 fq t1 oo r1 k1 q1 => ?_, qe⟩
  obtain ⟨hN1, hC, q2⟩ := q1
  obtain ⟨fp1, rr, _⟩ := oo.nr _ _ hN1
  obtain ⟨p, vs, f', e1, hp, rl, rfl⟩ := rr
  cases e1
  have ev : vs = [] := List.length_eq_zero_iff.mp (by rw [← rl.length]; rfl)
  subst ev
  obtain ⟨b, rfl, hb⟩ := r1.cell hC
  refine ⟨_, [], _, rfl, rfl, hp, sz (Nat.le_of_ble_eq_true rfl), ?_⟩
  obtain ⟨hn, P', o', t'⟩ := oo.wtr.fillR (fun b c h => (wtr_iff.mp h).2) (wtr_iff.mpr ⟨hN1, rfl⟩) r1 hb k1 t1
  exact qq _ _ F1 P' .non _ [] t' o' ⟨rfl, rfl⟩ (by simp) (q2 b hn)
def addN : Nm → List Addr → List D → Nm
  | N, a :: as, d :: ds => addN (updN N a ⟨true, d⟩) as ds
  | N, _, _ => N
theorem Wf.allocs {F : Addr → Prop} {H : Hp} : ∀ {ds : List D} {N : Nm} {P : Addr → Prop} {fpm : Addr → List Addr} {vs : List V} {fp : List Addr}, Wf N F P H fpm → RpL H ds vs fp → fp.Nodup → (∀ q ∈ fp, ¬ F q) → (∀ q ∈ fp, ∀ b c, N b = some c → q ∉ fpm b) → (∀ d ∈ ds, IsC d) →
    ∃ as : List Addr, vs = as.map V.ref ∧ as.length = ds.length ∧ as.Nodup ∧ (∀ a ∈ as, N a = none) ∧ ∃ fpm' P', Wf (addN N as ds) F P' H fpm' ∧ ∀ p, P' p → P p ∨ p ∈ fp
  | [], N, P, fpm, vs, fp, w, r, _, _, _, _ => by
    obtain ⟨rfl, rfl⟩ := r
    exact ⟨[], rfl, rfl, List.nodup_nil, by simp, fpm, P, w, fun p h => .inl h⟩
  | d :: ds, N, P, fpm, vs, fp, w, r, nd, nf, f2, hC => by
    obtain ⟨v, vr, f, g, rfl, ra, rb, rfl⟩ := r
    obtain ⟨n1, n2, n3⟩ := List.nodup_append.mp nd
    obtain ⟨a, rfl, ha⟩ := ra.cell (hC d (by simp))
    obtain ⟨h1, w1⟩ := w.alloc ra ha n1 (fun q hq => nf q (by simp [hq])) fun q hq => f2 q (by simp [hq])
    obtain ⟨as, rfl, l1, nd1, hn, fpm', P', w2, hP⟩ := Wf.allocs w1 rb n2 (fun q hq => nf q (by simp [hq])) (fun q hq b c h z => by
      by_cases hb : b = a
      · subst hb
        rw [if_pos rfl] at z
        exact n3 q z q hq rfl
      · rw [updN_ne hb] at h
        rw [if_neg hb] at z
        exact f2 q (by simp [hq]) b c h z) fun d hd => hC d (by simp [hd])
    have hna : ∀ b ∈ as, b ≠ a ∧ N b = none := fun b hb => by
      have := hn b hb
      by_cases z : b = a
      · subst z; rw [updN_same] at this; cases this
      · rw [updN_ne z] at this; exact ⟨z, this⟩
    refine ⟨a :: as, rfl, by simp [l1], List.nodup_cons.mpr ⟨fun z => (hna a z).1 rfl, nd1⟩, fun b hb => ?_, fpm', P', w2, fun p h => ?_⟩
    · rcases List.mem_cons.mp hb with rfl | hb
      · exact h1
      · exact (hna b hb).2
    · rcases hP p h with (z | z) | z
      · exact .inl z
      · exact .inr (by simp [z])
      · exact .inr (by simp [z])
def sSetR (i : Nat) (g : AF) : WS := fun K δ N => (g δ N).ok ∧ (g δ N).vals.length ≤ SZ ∧ (∀ d ∈ (g δ N).vals, IsC d) ∧ ∀ as : List Addr, as.length = (g δ N).vals.length → as.Nodup → (∀ a ∈ as, N a = none) → K.nx (δ.set i (some (.lst (as.map D.ref)))) (addN N as (g δ N).vals)
theorem RpL.refs {H : Hp} : ∀ as : List Addr, RpL H (as.map D.ref) (as.map V.ref) []
  | [] => RpL.nil
  | a :: as => ⟨.ref a, as.map V.ref, [], [], rfl, ⟨rfl, rfl⟩, RpL.refs as, rfl⟩
theorem ds_setR {i : Nat} {y : Str} {es : List Expr} {g : AF} {pos' pos2 pos : Pos} {rc : Bool} (hN : X.N.Nodup) (hi : X.N[i]? = some y) (hx : L2.Loc X.env.scope y) (ha : DA X .frs es g) (hs : swapsWith (.List es pos2) (some (.Name y pos')) pos.line X.env = pure false := by rfl)
    (hf : X.fn y = true ∨ X.env.scope.names.lookup y = some .local := by first | exact .inl rfl | exact .inr rfl | assumption) : DS X E rc (.Assign [.Name y pos'] (.List es pos2) pos) (sSetR i g) := ps_imp (ps_set hN hi hx (pe_lst ha) hs hf) fun D σ H h => by
  obtain ⟨δ, N, F, P, K, o, ⟨ok, hl, hC, q⟩, e⟩ := h
  refine ⟨δ, N, F, o.sr, o.nr, ok, fun vs H1 fp e1 r1 kk => ⟨sz (by rw [← r1.length]; exact hl), fun p hp => ?_⟩⟩
  obtain ⟨fpm, w⟩ := o.wf
  have f1 : ∀ q ∈ fp, ¬ F q := fun q hq z => by
    obtain ⟨_, ob, ho⟩ := w.fr q z
    rw [kk.2 q hq] at ho; cases ho
  have f2 : ∀ q ∈ fp, ∀ b c, N b = some c → q ∉ fpm b := fun q hq b c h z => by
    obtain ⟨ob, ho, _⟩ := Rp.there _ _ _ (w.cell b c h).1 q z
    rw [kk.2 q hq] at ho; cases ho
  have w1 : Wf N F P H1 fpm := ⟨fun a c h => ⟨(w.cell a c h).1.ex e1, (w.cell a c h).2⟩, w.own, w.sep, fun p h => ⟨(w.fr p h).1, let ⟨_, ob, ho⟩ := w.fr p h; ⟨ob, e1 p ob ho⟩⟩, fun p h => let ⟨ob, h1, h2⟩ := w.pr p h; ⟨ob, e1 p ob h1, h2⟩⟩
  obtain ⟨as, rfl, l1, nd, hn, fpm', P', w2, hP⟩ := w1.allocs r1 kk.1 f1 f2 hC
  have e2 : Ex H1 (upd H1 p (.lst (as.map V.ref))) := Ex.new hp
  have hp0 : H p = none := e1.free hp
  have t : Tr F P H (fun q => F q ∨ q = p) P' (upd H1 p (.lst (as.map V.ref))) := ⟨fun _ h => .inl h, fun q ob h _ => e2 q ob (e1 q ob h), fun q ob h => ⟨ob, e2 q ob (e1 q ob h)⟩, fun q h => (hP q h).imp id fun z => kk.2 q z, fun q h => h.elim .inl fun (z : q = p) => .inr (.inr (z ▸ hp0))⟩
  have nPp : ¬ P' p := fun z => by
    obtain ⟨ob, ho, _⟩ := w2.pr p z
    rw [hp] at ho; cases ho
  have w3 : Wf (addN N as (g δ N).vals) (fun q => F q ∨ q = p) P' (upd H1 p (.lst (as.map V.ref))) fpm' :=
    ⟨fun a c h => ⟨(w2.cell a c h).1.ex e2, (w2.cell a c h).2⟩, w2.own, w2.sep, fun q h => by
      rcases h with h | rfl
      · exact ⟨(w2.fr q h).1, let ⟨_, ob, ho⟩ := w2.fr q h; ⟨ob, e2 q ob ho⟩⟩
      · exact ⟨nPp, _, upd_same⟩, fun q h => let ⟨ob, h1, h2⟩ := w2.pr q h; ⟨ob, e2 q ob h1, h2⟩⟩
  have sr1 : SRep (fun q => F q ∨ q = p) (upd H1 p (.lst (as.map V.ref))) σ δ := by
    have sr0 := o.sr.ex (e1.trans e2)
    exact ⟨sr0.len, fun q h => by
      rcases h with h | rfl
      · exact sr0.fr q h
      · exact ⟨_, upd_same⟩, fun j d h => let ⟨u, f, a1, a2, a3⟩ := sr0.at_ j d h; ⟨u, f, a1, a2, fun q hq => .inl (a3 q hq)⟩⟩
  exact e.nx _ _ _ P' _ _ t ⟨⟨_, w3⟩, sr1.set (d := .lst (as.map DL.D.ref)) (fp := [p]) ⟨p, as.map V.ref, [], rfl, upd_same, RpL.refs as, rfl⟩ (by simp)⟩ (q as l1 nd hn)
def pDrL (f : PF) : PF := fun δ N => ⟨(f δ N).ok ∧ IsL (f δ N).val, .lst ((toL (f δ N).val).map (drf N))⟩
theorem Rp.drf {N : Nm} {H : Hp} (n : NRep N H) {d : D} {v : V} {fp : List Addr} (r : Rp H d v fp) : ∃ fp', Rp H (DL.drf N d) v fp' := by
  cases d with
  | ref a =>
    cases h : N a with
    | none => exact ⟨fp, by simp only [DL.drf, h]; exact r⟩
    | some c =>
      have ev : v = .ref a := r.1
      subst ev
      obtain ⟨f, hf, _⟩ := n a c h
      exact ⟨f, by simp only [DL.drf, h]; exact hf⟩
  | _ => exact ⟨fp, r⟩
theorem RpL.drf {N : Nm} {H : Hp} (n : NRep N H) : ∀ {ds : List D} {vs : List V} {fp : List Addr}, RpL H ds vs fp → ∃ fp', RpL H (ds.map (DL.drf N)) vs fp'
  | [], vs, fp, r => ⟨fp, r⟩
  | d :: ds, vs, fp, r => by
    obtain ⟨v, vr, f, g, rfl, h1, h2, rfl⟩ := r
    obtain ⟨f', a1⟩ := Rp.drf n h1
    obtain ⟨g', a2⟩ := RpL.drf n h2
    exact ⟨f' ++ g', v, vr, f', g', rfl, a1, a2, rfl⟩
theorem dp_drL {c : Cl} {e : Expr} {f : PF} (h : DP X c e f) : DP X .any e (pDrL f) := by
  refine pe_imp h fun σ H Q h => ?_
  obtain ⟨δ, N, F, hs, hn, ⟨ok, hl⟩, q⟩ := h
  refine ⟨δ, N, F, hs, hn, ok, fun v H' fp e r k => ?_⟩
  obtain ⟨p, vs, f', rfl, hp, rl, rfl⟩ := r.lst_ hl
  obtain ⟨f2, r2⟩ := RpL.drf (hn.ex e) rl
  exact q _ H' _ e ⟨p, vs, f2, rfl, hp, r2, rfl⟩ trivial
def sAsgM (f : PF) (G : GF) : WS := fun K δ N => (f δ N).ok ∧ ∃ d1 d2, (f δ N).val = .tup [d1, d2] ∧ IsC d1 ∧ IsC d2 ∧ ∀ a b, a ≠ b → N a = none → N b = none → (G (.tup [.ref a, .ref b]) δ).ok ∧ K.nx (G (.tup [.ref a, .ref b]) δ).loc (updN (updN N a ⟨true, d1⟩) b ⟨true, d2⟩)
theorem ds_asgM {tg e : Expr} {sl : List Nat} {f : PF} {G : GF} {pos : Pos} {rc : Bool} (he : DP X .frs e f) (hg : DG X tg sl G) (hs : swapsWithSole [tg] e pos.line X.env = pure false := by rfl) (hw : swappedStores [tg] e X.env = pure none := by rfl)
    (h1 : (assignEach [tg] X.env).map (·.2) = [assign tg X.env] := by rfl) : DS X E rc (.Assign [tg] e pos) (sAsgM f G) := ps_imp (ps_asg he hg hs hw h1) fun D σ H h => by
  obtain ⟨δ, N, F, P, K, o, ⟨ok, d1, d2, ev, c1, c2, q⟩, e⟩ := h
  refine ⟨δ, N, F, o.sr, o.nr, ok, fun v H1 fp e1 r1 kk => ?_⟩
  rw [ev] at r1
  obtain ⟨p, vs, rfl, hp, rl⟩ := r1
  obtain ⟨fpm, w⟩ := o.wf
  have f1 : ∀ q ∈ fp, ¬ F q := fun q hq z => by
    obtain ⟨_, ob, ho⟩ := w.fr q z
    rw [kk.2 q hq] at ho; cases ho
  have f2 : ∀ q ∈ fp, ∀ b c, N b = some c → q ∉ fpm b := fun q hq b c h z => by
    obtain ⟨ob, ho, _⟩ := Rp.there _ _ _ (w.cell b c h).1 q z
    rw [kk.2 q hq] at ho; cases ho
  have w1 : Wf N F P H1 fpm := ⟨fun a c h => ⟨(w.cell a c h).1.ex e1, (w.cell a c h).2⟩, w.own, w.sep, fun p h => ⟨(w.fr p h).1, let ⟨_, ob, ho⟩ := w.fr p h; ⟨ob, e1 p ob ho⟩⟩, fun p h => let ⟨ob, h1, h2⟩ := w.pr p h; ⟨ob, e1 p ob h1, h2⟩⟩
  obtain ⟨as, rfl, l1, nd, hn, fpm', P', w2, hP⟩ := w1.allocs rl kk.1 f1 f2 (by intro d hd; simp at hd; rcases hd with rfl | rfl; exact c1; exact c2)
  match as, l1 with
  | [a, b], _ =>
    have hab : a ≠ b := fun z => by simp [z] at nd
    obtain ⟨g1, g2⟩ := q a b hab (hn a (by simp)) (hn b (by simp))
    have t : Tr F P H F P' H1 := ⟨fun _ h => h, fun q ob h _ => e1 q ob h, fun q ob h => ⟨ob, e1 q ob h⟩, fun q h => (hP q h).imp id fun z => kk.2 q z, fun q h => .inl h⟩
    exact ⟨δ, F, .tup [.ref a, .ref b], [], o.sr.ex e1, ⟨p, _, rfl, hp, RpL.refs [a, b]⟩, by simp, g1, fun σ' s' _ _ => e.nx σ' H1 F P' _ _ t ⟨⟨_, w2⟩, s'⟩ g2⟩
end
end DL
set_option maxHeartbeats 4000000
namespace L2
open PySem PySem.Spec PyProof.Rows
def toLeaf : Key → Leaf
  | .inl i => .num i
  | .inr x => .text x
theorem leaf_is {k : Key} {v : Value} (h : keyIs k v = true) : Leaf.isOf (toLeaf k) v = true := by
  rcases keyIs_shape h with ⟨i, t, rfl, rfl⟩ | ⟨x, t, rfl, rfl⟩
  · exact decide_eq_true rfl
  · exact h
theorem leaf_pairs {P : Program} {w : World} : ∀ {es : List DictEntry} {vs : List (Key × Value)}, Pairs (mixKind P w) es vs → Pairs (leafKind P w) es (vs.map fun kv => (toLeaf kv.1, kv.2))
  | _, _, .nil => .nil
  | _, _, .cons h1 h2 h3 => .cons (leaf_is h1) h2 (leaf_pairs h3)
theorem toLeaf_inj {a b : Key} (h : toLeaf a = toLeaf b) : a = b := by
  cases a <;> cases b <;> first | (injection h with h; rw [h]) | cases h
theorem dict_leaf {P : Program} {w : World} {h : Heap} {a : Addr} {vs : List (Key × Value)} (d : h.DictOf (mixKind P w) a vs) : h.DictOf (leafKind P w) a (vs.map fun kv => (toLeaf kv.1, kv.2)) := by
  obtain ⟨o, es, ep, h1, h2, h3, h4, h5, h6⟩ := d
  refine ⟨o, es, ep, h1, h2, h3, fun e he => ?_, leaf_pairs h5, ?_⟩
  · obtain ⟨k, k1, k2⟩ := h4 e he
    refine ⟨toLeaf k, leaf_is k1, k2.trans ?_⟩
    cases k <;> rfl
  · rw [List.map_map]
    have e : (vs.map ((fun x => x.1) ∘ fun kv : Key × Value => (toLeaf kv.1, kv.2))) = (vs.map (·.1)).map toLeaf := by rw [List.map_map]; rfl
    rw [e]
    exact List.pairwise_map.mpr (h6.imp fun hne z => hne (toLeaf_inj z))
section
variable {X : Cx} {pins : List (Addr × Obj)} {σ : St} {H : Hp} {s : Shared} {a : Addr} {kvs : List (Key × V)} {A : Around} {E : Value → Shared → Prop}
theorem d_popN {r : Value} {Q : Value → Shared → Prop} (I : Inv X pins σ H s) (e : H a = some (.dK kvs)) (h : ∀ s', Inv X pins σ H s' → Q r s') :
    wpAny (model X.prog X.w) A (call (.builtin "dict.pop") [.ref a, .none, r]) Q E s := by
  obtain ⟨z, hd, vs, rel, dd⟩ := dk_of I.hok e
  have hn : valueAt (vs.map fun kv => (toLeaf kv.1, kv.2)) Leaf.none = none := by
    unfold valueAt
    have e : ((vs.map fun kv => (toLeaf kv.1, kv.2)).find? fun kv => decide (kv.1 = Leaf.none)) = none := List.find?_eq_none.mpr fun p hp z => by
      obtain ⟨kv, _, rfl⟩ := List.mem_map.mp hp
      have z := of_decide_eq_true z
      cases hk : kv.1 <;> rw [hk] at z <;> cases z
    rw [e]; rfl
  exact call_meetsIn PySem.F.slot_dict_pop dd.typeIs PySem.F.entry_dict_pop (PySem.F.args_dict_pop_3 _ _ _) (meets_dict_pop_default (leafKind X.prog X.w) (k := Leaf.none) a rfl hd rfl r) ⟨_, dict_leaf dd, hn, h _ (I.tok _)⟩
end
section
variable {X : Cx} {o e f : Expr} {td ty tx : TE} {apos cpos : Pos}
def tDPopN (td ty tx : TE) : TE := fun σ H Q => td σ H fun x H1 => ∃ a, x = .ref a ∧ IsD H1 a ∧ ty σ H1 fun y H2 => tx σ H2 fun z H3 => ∃ kvs, H3 a = some (.dK kvs) ∧
  ((y = .non ∧ Q z H3) ∨ ∃ k, y = kV k ∧ (∀ v, valV kvs k = some v → Q v (upd H3 a (.dK (dropK kvs k)))) ∧ (valV kvs k = none → Q z H3))
theorem pe_dpopN (ho : PE X o td) (he : PE X e ty) (hf : PE X f tx) (m : M2 X o "pop" apos e f cpos) : PE X (.Call (.Attribute o "pop" apos) [e, f] [] cpos) (tDPopN td ty tx) := by
  refine ⟨fun pins s σ H Q I h => ?_⟩
  refine wpAny_Call_method m.base m.few m.line PySem.F.plainAttrs_dict PySem.F.slot_dict_pop PySem.F.type_dict_pop (thn (ho.run pins s σ H _ I h) fun u s1 ⟨x, H1, I1, rx, a, ex, d, q1⟩ => ?_)
  subst ex
  obtain rfl : u = Value.ref a := rx
  obtain ⟨t1, t2, _⟩ := isD_at I1 d
  refine ⟨t1, t2, ?_⟩
  rw [m.trees]
  refine Calls.callWith_builtin rfl (Calls.evalArgs_plain (Calls.spliced_cons (thn (he.run pins s1 σ H1 _ I1 q1) fun iv s2 ⟨y, H2, I2, ry, q2⟩ =>
    Calls.spliced_cons (thn (hf.run pins s2 σ H2 _ I2 q2) fun fv s3 ⟨z, H3, I3, rz, kvs, ea, q3⟩ => Calls.spliced_nil ?_))))
  rcases q3 with ⟨ey, q3⟩ | ⟨k, ey, q3, q4⟩
  · subst ey
    obtain rfl : iv = Value.none := ry
    exact d_popN I3 ea fun s4 I4 => ⟨z, H3, I4, rz, q3⟩
  · subst ey
    cases l : valV kvs k with
    | some v => exact d_pop I3 ea ry l (.inr ⟨fv, rfl⟩) fun w' s4 I4 rw' => ⟨v, _, I4, rw', q3 v l⟩
    | none => exact d_popD I3 ea ry l fun s4 I4 => ⟨z, H3, I4, rz, q4 l⟩
end
end L2
namespace DL
open PySem L2
theorem m2_ {X : Cx} {o e f : Expr} {m : Str} {apos cpos : Pos} (h1 : attributeBase o m X.env (eval o X.env) = eval o X.env := by rfl)
    (h2 : ((backTo cpos (starEach [e, f] X.env)).all (fun x => !x.1) && (backToKw cpos (keywordEach [] X.env)).all (fun x => x.1.isSome)
    && decide (([e, f] : List Expr).length + ([] : List Keyword).length + (if ([] : List Keyword).isEmpty then 0 else 1) < 30)) = true := by rfl)
    (h3 : (apos.endLine == cpos.line) = true := by rfl) (h4 : backTo cpos (starEach [e, f] X.env) = [(false, eval e X.env), (false, eval f X.env)] := by rfl) : M2 X o m apos e f cpos := ⟨h1, h2, h3, h4⟩
section
variable {X : Cx} {E : XK} {c c1 c2 : Cl} {pos p : Pos} {rc : Bool}
def sDPopN (pl : PLF) (f : PF) : WS := fun K δ N => (pl δ N).ok ∧ (f δ N).ok ∧ ∃ t ks xs, N (pl δ N).a = some ⟨true, t⟩ ∧ sub t (pl δ N).π = some (.dic ks xs) ∧ ks.Nodup ∧ ks.length = xs.length ∧
  (((f δ N).val = .non ∧ K.nx δ N) ∨ (isKey (f δ N).val ∧ ∃ n, idxOf_ (toK (f δ N).val) ks = some n ∧ K.nx δ (updN N (pl δ N).a ⟨true, put t (pl δ N).π (.dic (ks.eraseIdx n) (xs.eraseIdx n))⟩)))
theorem ds_dpopN {o e : Expr} {pl : PLF} {f : PF} {apos cpos p2 : Pos} {k : Nat} (hp : PLc X o pl) (he : DP X c1 e f) (m : M2 X o "pop" apos e (.Constant .none k p2) cpos) (hs : swapsWith (.Call (.Attribute o "pop" apos) [e, .Constant .none k p2] [] cpos) none pos.line X.env = pure false := by rfl) :
    DS X E rc (.Expr (.Call (.Attribute o "pop" apos) [e, .Constant .none k p2] [] cpos) pos) (sDPopN pl f) := ps_imp (ps_expr (pe_dpopN hp he pe_non m) hs) fun D σ H h => by
  obtain ⟨δ, N, F, P, K, o, ⟨o1, o2, t, ks, xs, hN, hsub, nd, hlk, q⟩, e⟩ := h
  refine ⟨δ, N, F, P, o, _, _, o1, hN, hsub, fun u H1 e1 at1 => ?_⟩
  obtain ⟨fp, r, _⟩ := o.nr _ _ hN
  obtain ⟨f1, f0, f2, rs, _, _⟩ := at1.zip (r.ex e1)
  obtain ⟨p, vs, f', rfl, hp, rl, hlen, rfl⟩ := rs
  refine ⟨p, rfl, .inl ⟨_, .inl hp⟩, δ, N, F, o.sr.ex e1, o.nr.ex e1, o2, fun kv H2 fk e2 r2 k2 => ?_⟩
  refine ⟨ks.zip vs, e2 _ _ hp, ?_⟩
  rcases q with ⟨hv, q⟩ | ⟨o3, n, hix, q⟩
  · rw [hv] at r2
    obtain ⟨o', t'⟩ := o.ex (e1.trans e2)
    exact .inl ⟨r2.1, e.nx σ _ F P δ _ t' o' q⟩
  · have hn : n < vs.length := by have := idx_lt hix; omega
    have hval : valV (ks.zip vs) (toK (f δ N).val) = some vs[n] := by rw [valV_zip, hix]; simp [hn]
    refine .inr ⟨toK (f δ N).val, kV_rp r2 o3, fun v hv => ?_, fun hv => by rw [hval] at hv; cases hv⟩
    rw [dropK_zip nd hlen hix]
    obtain ⟨P', o', t'⟩ := o.writeD (ks' := ks.eraseIdx n) (ys := xs.eraseIdx n) (ws := vs.eraseIdx n) (g := []) (e1.trans e2) hN (at1.ex e2) (e2 _ _ hp) hlen (by rw [List.length_eraseIdx, List.length_eraseIdx, hlen]) (by simp) List.nodup_nil fun f0 r0 nd0 _ => by
      obtain ⟨f', a1, a2, a3⟩ := RpL.eraseI (n := n) r0 nd0
      exact ⟨f', a1, a2, fun q hq => .inl (a3 q hq)⟩
    exact e.nx σ _ F P' δ _ t' o' q
end
end DL
set_option maxHeartbeats 4000000
namespace DL
open PySem L2
structure OwnInit (K : PySem.W.Frag) (CA : Addr) : Prop where
  rd : ClX.CRead K CA (.type "type")
  at_ : PySem.W.findCls K (.ref CA) (.type "type") "__init__" = some (.val (.builtin "ValueError.__init__"))
section
variable {X : Cx} {E : XK} {rc : Bool}
theorem pe_ownveinit {CA : Addr} {x : Str} {e : Expr} {es : List Expr} {ta : TA} {p1 p2 pos : Pos} {pl : Sem Bool} (T : OwnInit X.K CA) (hn : PE X (.Name x p1) (tC (.ref CA))) (ha : PA X (e :: es) ta)
    (hc : eval (.Call (.Attribute (.Name x p1) "__init__" p2) (e :: es) [] pos) X.env = (do
      let ov ← eval (.Name x p1) X.env
      standAt p2.atName
      let (f, first) ← holding [ov] (getMethod ov "__init__" pl)
      callWith pos f first (backTo pos (starEach (e :: es) X.env)) (backToKw pos (keywordEach [] X.env))) := by rfl)
    (he : starEach (e :: es) X.env = (false, eval e X.env) :: starEach es X.env := by rfl) (hpl : (backTo pos (starEach es X.env)).any (·.1) = false := by rfl) :
    PE X (.Call (.Attribute (.Name x p1) "__init__" p2) (e :: es) [] pos) (tVeI X.K ta) := by
  refine ⟨fun pins s σ H Q I h => ?_⟩
  refine PySem.W.methodCall_KW (thn (hn.run pins s σ H (fun y H0 => y = .ref CA ∧ H0 = H) I ⟨rfl, rfl⟩) fun u s1 ⟨y, H0, I0, ry, ey, eH⟩ => ?_) hc
  subst ey eH
  obtain rfl : u = Value.ref CA := ry
  refine PySem.W.method_cls I0.kIn T.rd.ga (PySem.W.cls_value I0.kIn T.rd.rd T.at_ (by decide +kernel) ?_)
  show wpAny _ _ (callWith pos (Value.builtin "ValueError.__init__") [] (backTo pos (starEach (e :: es) X.env)) []) _ _ _
  refine PyProof.Rows.callWith_method1 (thn (ha.run pos pins _ σ H0 _ (I0.tok _) h) fun us s1 ⟨vs, H1, I1, r1, a, C, ws, ev, hl, T, ea, q⟩ => ?_) he hpl
  subst ev
  cases r1 with
  | @cons _ u0 _ ur ra rw' =>
    obtain rfl : u0 = Value.ref a := ra
    have hlen : ur.length ≤ sizeLine := by
      rw [← Paired.length rw', sizeLine_eq]
      omega
    exact oinit_ok T I1 ea hlen fun s' J => ⟨.non, H1, J, rfl, q⟩
end
def sp_xinit (C : Addr) (f : Str) : Sp := fun vs H Q _ => ∃ a i, vs = [.ref a, .int i] ∧ H a = some (exo a C none) ∧ ∀ dx, H dx = none → dx ≠ a → Q .non (upd (upd H dx (exd dx [(f, .int i)])) a (exo a C (some dx)))
structure VxC (K : PySem.W.Frag) (C : Addr) (f : Str) : Prop where
  oex : OexC K C
  no : PySem.W.findIn K (.ref C) f = some none
structure ExV (P : Program) (w : World) (K : PySem.W.Frag) (mg : Str → Option Value) (base : Heap) (x : Str) (C : Addr) (f : Str) : Prop where
  glo : mg x = some (.ref C)
  oex : OexC K C
  fn : ∃ fI fd, FnOk P w K mg base (L2.CX P w) 1 fI fd [("self" : Str), f] (sp_xinit C f) ∧ PySem.W.findIn K (.ref C) "__init__" = some (some (.ref fI)) ∧ PySem.W.typeIn K (.ref fI) = some (.type "function") ∧ Binds K fd [("self" : Str), f] []
section
variable {P : Program} {w : World} {K : PySem.W.Frag} {mg : Str → Option Value} {base : Heap}
theorem fn_xinit {qual f : Str} {st : Stmt} {fI C : Addr} {fd : FuncData} {N : List Str} (F : L2.Fun K "__init__" qual st fI fd) (S : FnScope N [("self" : Str), f] (defScope st)) (hN : N = [("self" : Str), f]) (V : VxC K C f)
    (hb : ∀ (cdv : Value) (A : Around) (outer : List Env) (s : Shared) (H : Hp) (E : XK), PSs (cxOf (L2.CX P w) P w K mg base N qual (defScope st) fI cdv A outer s H E) (defBody st) (tSeq (tDrop (tVeI K (tCons (tVar 0) (tCons (tVar 1) tNil)))) (tOst K f (tVar 0) (tVar 1)))) :
    FnOk P w K mg base (L2.CX P w) 1 fI fd [("self" : Str), f] (sp_xinit C f) := by
  refine F.okX S (fun vs H Q E h => by obtain ⟨a, i, rfl, _⟩ := h; rfl) fun cdv A outer s H vs Q E hr h => ?_
  obtain ⟨a, i, rfl, e, q⟩ := h
  refine ⟨_, hb cdv A outer s H E, ?_⟩
  subst hN
  refine ⟨.ref a, rfl, .int i, rfl, a, C, [.int i], rfl, by show 1 ≤ 1000; decide, V.oex, e, ?_⟩
  exact ⟨.int i, rfl, .ref a, rfl, a, C, rfl, V.oex, V.no, .inl ⟨e, fun dx n ne => q dx n ne⟩⟩
end
def sRaiseV (C : Addr) (f : Str) (g : PF) : WS := fun K δ N => (g δ N).ok ∧ IsI (g δ N).val ∧ K.ex ⟨C, some (f, toI (g δ N).val)⟩ N
section
variable {X : Cx} {E : XK} {rc : Bool}
theorem ds_raiseV {x f : Str} {C : Addr} {e : Expr} {g : PF} {p pos pos' : Pos} (T : ExV X.prog X.w X.K X.mg X.base x C f) (hr : Room 2 X.A) (hc : X.calm = true) (tk : Takes X (fun cls d _ H => E cls d H)) (hg : Gl X x) (he : DP X .cln e g) (hdb : (x == ("__debug__" : Str)) = false := by decide)
    (hst : starEach [e] X.env = (false, eval e X.env) :: starEach [] X.env := by rfl) :
    DS X E rc (.Raise (some (.Call (.Name x p) [e] [] pos)) none pos') (sRaiseV C f g) := by
  obtain ⟨fI, fd, Fn, hi, ht, hb⟩ := T.fn
  refine ps_imp (ps_raise hc tk (pmk_oex T.oex hi ht Fn hr hb .nil passL hg T.glo (pa_cons he pa_nil hst) hdb hst)) fun D σ H h => ?_
  obtain ⟨δ, N, F, P, K, o, ⟨ok, hI, q⟩, e0⟩ := h
  refine ⟨δ, N, F, o.sr, o.nr, ok, fun v H1 fp e1 r1 k1 => ?_⟩
  have ev : v = .int (toI (g δ N).val) := r1.int_ hI
  subst ev
  obtain ⟨o1, t1⟩ := o.ex e1
  refine ⟨by show 1 ≤ 1000; decide, fun a ha => ⟨a, _, rfl, upd_same, fun dx n ne => ⟨rfl, dx, [(f, .int (toI (g δ N).val))], upd_same, ?_, ?_, ?_⟩⟩⟩
  · rw [upd_ne ne]; exact upd_same
  · rw [upd_ne ne] at n; exact n
  · rw [upd_ne ne] at n
    have eH : upd (del (upd (upd (upd H1 a (exo a C none)) dx (exd dx [(f, .int (toI (g δ N).val))])) a (exo a C (some dx))) a) dx (.xd [(f, .int (toI (g δ N).val))]) = upd H1 dx (.xd [(f, .int (toI (g δ N).val))]) := by
      funext b
      by_cases hb : b = dx
      · rw [hb, upd_same, upd_same]
      · rw [upd_ne hb, upd_ne hb]
        by_cases ha' : b = a
        · rw [ha', del_same, ha]
        · rw [del_ne ha', upd_ne ha', upd_ne hb, upd_ne ha']
    rw [eH]
    obtain ⟨o2, t2⟩ := o1.ex (Ex.new (o := .xd [(f, .int (toI (g δ N).val))]) n)
    exact e0.ex ⟨C, some (f, toI (g δ N).val)⟩ (.ref C) (some dx) _ F P N (t1.trans t2) o2.wf ⟨rfl, dx, rfl, upd_same⟩ q
end
end DL
set_option maxHeartbeats 4000000
namespace DL
open PySem L2
section
variable {X : Cx} {c c1 : Cl}
def rIsV (K : PySem.W.Frag) (D a dd : Addr) : List V → Hp → VK → Prop := fun xs H Q => ∃ (c : V) (cv : Value) (b : Bool) (fs : List (Str × V)), xs = [.ref a, c] ∧ (∀ u, RelV c u → u = cv) ∧ PySem.W.kitOne K (.ref D) cv = some b ∧ H dd = some (.xd fs) ∧ Q (.bl b) H
theorem call_isV {a D dd : Addr} {oe : Obj} {pn : List (Addr × Obj)} (C : L2.ExcC X.K D) (hz : Zc (.ref D) (some dd) oe) (hf : ∃ vs, oe.data = .fields vs) : CallR (X.suite a ((a, oe) :: pn)) (.builtin "isinstance") (rIsV X.K D a dd) := by
  intro pins s σ H xs us Q I r h
  obtain ⟨c, cv, b, fs, rfl, hcv, e, ed, q⟩ := h
  cases r with
  | cons rx rr =>
    cases rr with
    | cons rt rr =>
      cases rr
      cases rx
      have ec := hcv _ rt
      subst ec
      obtain ⟨hget, _⟩ := I.pin (a, oe) (List.mem_append.mpr (.inl List.mem_cons_self))
      obtain ⟨vs, hv⟩ := hf
      have hx : ObjOk X.prog X.w H s.heap dd (.xd fs) := I.hok dd _ ed
      obtain ⟨mA, hns, hr⟩ := hx
      obtain ⟨od, ho, hl⟩ := lookIn_ns hns
      have J : PySem.W.InstAt s.heap a oe D (some od) := ⟨hget, hz.1, by unfold PySem.W.notCls; rw [hv] <;> rfl, by rw [hz.2]; exact ho⟩
      obtain ⟨cd, hcd, _⟩ := PySem.W.any_some C.hd
      exact PySem.W.kia_one (PySem.W.kitx_exc (by rw [hcd]; rfl) C.hg C.hk C.hs C.ha C.hn C.ht C.hm) I.kIn J e (fun z => nomatch z) fun tk => ⟨.bl b, H, I.kept (t' := tk) fun _ _ z => z, rfl, q⟩
def pIsV (i : Nat) (a dd : Addr) (b : Bool) : PF := fun δ N => ⟨lk δ i = some (.ref a) ∧ ∃ f v, N dd = some ⟨false, .xdc f v⟩, .bl b⟩
theorem dp_isV {a C dd : Addr} {oe : Obj} {pn : List (Addr × Obj)} {cv : Value} {cw : V} {b : Bool} {i : Nat} {e k : Expr} {p pos : Pos} (T : L2.ExcC X.K C) (hz : Zc (.ref C) (some dd) oe) (hf : ∃ vs, oe.data = .fields vs) (ek : PySem.W.kitOne X.K (.ref C) cv = some b) (hw : ∀ u, RelV cw u → u = cv)
    (hg : Gl (X.suite a ((a, oe) :: pn)) "isinstance") (hm : X.mg "isinstance" = none) (he : DP (X.suite a ((a, oe) :: pn)) c1 e (pVar i)) (hk : PE (X.suite a ((a, oe) :: pn)) k (tC cw))
    (hs : starEach [e, k] X.env = (false, eval e X.env) :: starEach [k] X.env := by rfl) (hs2 : starEach [k] X.env = (false, eval k X.env) :: starEach [] X.env := by rfl)
    (hpl : (backTo pos (starEach [k] X.env)).any (·.1) = false := by rfl) : DP (X.suite a ((a, oe) :: pn)) c (.Call (.Name "isinstance" p) [e, k] [] pos) (pIsV i a dd b) := by
  refine pe_imp (pe_callB (call_isV T hz hf) hg hm (by decide +kernel) (pa_cons he (pa_cons hk pa_nil hs2) hs) (he := hs) (hpl := hpl)) fun σ H Q h => ?_
  obtain ⟨δ, N, F, hS, hn, ⟨ok, f, v0, hN⟩, q⟩ := h
  have ev : (pVar i δ N).val = .ref a := by show (lk δ i).getD .non = _; rw [ok]; rfl
  refine ⟨δ, N, F, hS, hn, by show (lk δ i).isSome = true; rw [ok]; rfl, fun v H1 fa e1 r1 k1 => ?_⟩
  rw [ev] at r1
  obtain ⟨rfl, _⟩ := r1
  obtain ⟨fp, ⟨p', ep, hp, _⟩, _⟩ := hn.ex e1 dd _ hN
  cases ep
  exact ⟨cw, cv, b, _, rfl, hw, ek, hp, q (.bl b) H1 [] e1 ⟨rfl, rfl⟩ Cl.nil⟩
def xdV : Option Cell → D
  | some ⟨_, .xdc _ i⟩ => .int i
  | _ => .non
def pXf (i : Nat) (a dd : Addr) (f : Str) : PF := fun δ N => ⟨lk δ i = some (.ref a) ∧ ∃ v, N dd = some ⟨false, .xdc f v⟩, xdV (N dd)⟩
theorem dp_xf {a C dd : Addr} {oe : Obj} {pn : List (Addr × Obj)} {n : Str} {i : Nat} {e : Expr} {pos : Pos} (T : L2.ExcC X.K C) (hno : PySem.W.findIn X.K (.ref C) n = some none) (hz : Zc (.ref C) (some dd) oe) (hf : ∃ vs, oe.data = .fields vs)
    (he : DP (X.suite a ((a, oe) :: pn)) c1 e (pVar i)) (hb : attributeBase e n X.env (eval e X.env) = eval e X.env := by rfl) : DP (X.suite a ((a, oe) :: pn)) c (.Attribute e n pos) (pXf i a dd n) := by
  refine pe_imp (pe_xf ⟨T.hg, T.hk, T.hs, T.hd⟩ hno hz hf he hb) fun σ H Q h => ?_
  obtain ⟨δ, N, F, hS, hn, ⟨ok, v0, hN⟩, q⟩ := h
  have ev : (pVar i δ N).val = .ref a := by show (lk δ i).getD .non = _; rw [ok]; rfl
  refine ⟨δ, N, F, hS, hn, by show (lk δ i).isSome = true; rw [ok]; rfl, fun v H1 fa e1 r1 k1 => ?_⟩
  rw [ev] at r1
  obtain ⟨rfl, _⟩ := r1
  obtain ⟨fp, ⟨p', ep, hp, _⟩, _⟩ := hn.ex e1 dd _ hN
  cases ep
  have q2 := q (.int v0) H1 [] e1
  rw [show (pXf i a dd n δ N).val = .int v0 from by show xdV (N dd) = _; rw [hN]; rfl] at q2
  exact ⟨rfl, rfl, dd, _, .int v0, rfl, hp, by simp [List.lookup], q2 ⟨rfl, rfl⟩ Cl.nil⟩
end
def kF (j : Nat) : Str := if j = 2 then "line" else "at"
def KD1 (CX : Str → Addr) : Exc → D → Prop := fun x d => KD0 CX x d ∨ ∃ (j : Nat) (i : Int), j < 3 ∧ x.cls = CX (kN j) ∧ x.arg = some (kF j, i) ∧ d = .tup [.str (kN j), .int i]
def nmX : Option (Str × Int) → Option Addr → Nm
  | some (f, i), some dd => fun b => if b = dd then some ⟨false, .xdc f i⟩ else none
  | _, _ => fun _ => none
section
variable {X : Cx}
theorem kind_gives1 {CX : Str → Addr} {Ng : List Str} {x y en ce : Str} {sg : Scope} {g ca : Addr} {cdg : Value} {q : Str} {KD : Exc → D → Prop} {suite : List Stmt} {b₀ : Stmt} {j : Nat} {p1 p2 p3 p4 p5 p6 p7 p8 : Pos} (hN : Ng.Nodup) (hlen : Ng.length = 5) (hi : Ng[1]? = some en)
    (hl : sg.names.lookup en = some .local) (hga : sg.names.lookup ce = some .globalImplicit) (hde : (ce == ("__debug__" : Str)) = false) (hma : X.mg ce = some (.ref ca))
    (hkd : ∀ z dk, KD z dk → (∀ H v fp, Rp H dk v fp → fp = []) ∧ PySem.W.exmOne X.K (.ref z.cls) (.ref ca) = some true)
    (hsu : ∀ z dk, KD z dk → ∀ (s : Shared) (H H1 : Hp) (a : Addr) (oe : Obj) (pn : List (Addr × Obj)) (d : Option Addr), Zc (.ref z.cls) d oe → (∃ vs, oe.data = .fields vs) → ExR H1 z (.ref z.cls) d →
      ∃ w, DSs ((cxOf C8.CX0 X.prog X.w X.K X.mg X.base Ng x sg g cdg X.A X.stack s H C8.E0).nox.suite a ((a, oe) :: pn)) (fun _ _ _ => False) false (b₀ :: suite) w ∧ w { nx := fun _ _ => False, rt := fun d _ => d = dk } [none, some (.ref a), none, none, none] (nmX z.arg d))
    (hsw : ∀ env, swapsWith (.Call (.Name y p1) [] [] p2) none p3.line env = pure false) :
    LamX.GivesTo X Ng x sg g cdg [.Try [.Expr (.Call (.Name y p1) [] [] p2) p3] [.ExceptHandler (some (.Name ce p4)) (some en) (b₀ :: suite) p5] [] [] p6, .Return (some (.Constant (.str "") j p7)) p8] y q (TTk KD) := by
  intro f c' s H Q tl act hc h
  have h0 : (L2.start Ng [V.ref f])[0]? = some (some (V.ref f)) := rfl
  refine ⟨_, pss_cons (ps_try_as (X := (cxOf C8.CX0 X.prog X.w X.K X.mg X.base Ng x sg g cdg X.A X.stack s H C8.E0).nox) (i := 1) (c := .ref ca) (Wout := fun _ _ _ _ => False)
    (tb := fun W D σ H => ∃ Ech : XK, (∀ cls d σ' H', σ'.length = 5 → Ech cls d H' → W cls d σ' H') ∧ σ[0]? = some (some (.ref f)) ∧ H c' = some (LamX.CodeO c' q) ∧ tl Ech H fun _ H' => D.nx σ H')
    (ts := fun a cls d D σ H => ∃ z dk, KD z dk ∧ ExR H z cls d ∧ σ.length = 5 ∧ σ[1]? = some (some (.ref a)) ∧ ∀ v H2, Ex H H2 → Rp H2 dk v [] → D.rt v H2)
    rfl rfl hN hi hl ⟨hga, hde, .inl hma⟩ takes0 (fun W pn xe tk _ => pss_one ⟨fun pins s1 σ1 H1 D I hh => ?_⟩) (fun a oe cls d pn hz hf => ⟨fun pins s1 σ1 H1 D I hh => ?_⟩)) (pss_one (ps_ret pe_str)), ?_⟩
  · obtain ⟨Ech, hW, h1, h2, h3⟩ := hh
    have tk2 : Takes ((cxOf C8.CX0 X.prog X.w X.K X.mg X.base Ng x sg g cdg X.A X.stack s H C8.E0).tr pn xe) (fun cls d σ' H' => σ'.length = 5 → W cls d σ' H') := fun u s' ⟨a, B, sI, pins, σ, H, cls, d, e, I, nb, up, sky, na, os, ag, w⟩ =>
      tk u s' ⟨a, B, sI, pins, σ, H, cls, d, e, I, nb, up, sky, na, os, ag, w (I.len.trans hlen)⟩
    exact (ps_expr (act (fun cls d σ' H' => σ'.length = 5 → W cls d σ' H') pn xe Ech p1 p2 tk2 fun cls d σ' H' he hl5 => hW cls d σ' H' hl5 he) (hsw _)).run pins s1 σ1 H1 D I ⟨h1, h2, h3⟩
  · obtain ⟨z, dk, hk, her, hl5, h1, hq⟩ := hh
    obtain ⟨rfl, hear⟩ := her
    have her : ExR H1 z (.ref z.cls) d := ⟨rfl, hear⟩
    obtain ⟨hfp, _⟩ := hkd z dk hk
    have hcell : ∀ b c, nmX z.arg d b = some c → c.w = false ∧ Rp H1 c.d (.ref b) [b] := fun b c e => by
      obtain ⟨zc, za⟩ := z
      cases za with
      | none => simp only [nmX] at e; cases e
      | some p =>
        obtain ⟨f1, i1⟩ := p
        obtain ⟨dd, rfl, hdd⟩ := (show ∃ a, d = some a ∧ H1 a = some (.xd [(f1, .int i1)]) from hear)
        simp only [nmX] at e
        by_cases hb : b = dd
        · subst hb
          rw [if_pos rfl] at e
          cases e
          exact ⟨rfl, b, rfl, hdd, rfl⟩
        · rw [if_neg hb] at e; cases e
    obtain ⟨w, hw, hrd⟩ := hsu z dk hk s H H1 a oe pn d hz hf her
    refine hw.run pins s1 σ1 H1 D I ⟨[none, some (.ref a), none, none, none], nmX z.arg d, fun _ => False, fun _ => False, _, ⟨⟨fun b => [b], ⟨fun b c e => ⟨(hcell b c e).2, by simp⟩, fun b c e h1 => (by rw [(hcell b c e).1] at h1; cases h1), fun b b' c e _ h1 h2 => (by rw [(hcell b c h1).1] at h2; cases h2), fun p hp => False.elim hp, fun p hp => False.elim hp⟩⟩, ⟨hl5.symm, fun p hp => False.elim hp, fun i d hd => ?_⟩⟩, hrd, ?_⟩
    · match i, hd with
      | 0, hd => simp at hd
      | 1, hd =>
        have e : d = .ref a := by simpa using hd.symm
        subst e
        exact ⟨.ref a, [], h1, ⟨rfl, rfl⟩, by simp⟩
      | 2, hd => simp at hd
      | 3, hd => simp at hd
      | 4, hd => simp at hd
      | i + 5, hd => simp at hd
    · refine ⟨fun _ _ _ _ _ _ _ _ z => False.elim z, fun _ _ _ _ _ _ _ _ z => False.elim z, fun _ _ _ _ _ _ _ _ z => False.elim z, fun v H2 F2 P2 d N2 fp t w2 r rt e => ?_, fun _ _ _ _ _ _ _ _ _ _ z => False.elim z⟩
      have e : d = dk := e
      subst e
      obtain rfl := hfp _ _ _ r
      exact hq v H2 (fun p o e => t.st p o e id) r
  · refine ⟨_, fun cls d σ' H' hl5 hx => ?_, h0, hc, h⟩
    obtain ⟨z, dk, he, hk, hq⟩ := hx
    obtain ⟨_, k3⟩ := hkd z dk hk
    exact ⟨true, by rw [he.1]; exact k3, fun _ a ha => ⟨z, dk, hk, he, by rw [List.length_set]; exact hl5, List.getElem?_set_self (by omega), hq⟩, fun z => by cases z⟩
end
end DL
set_option maxHeartbeats 4000000
namespace DL
open PySem L2
abbrev kV (a dd : Addr) (j i : Nat) : PF := pIsV 1 a dd (decide (i = j))
def w_kindV (a dd : Addr) (j : Nat) : WS := sSeq (sSet 2 (wP (pLst (aCons (kV a dd j 0) (aCons (kV a dd j 1) (aCons (kV a dd j 2) (aCons (kV a dd j 3) aNil)))))))
  (sSeq (sSet 2 (wP (p2 catL (pVar 2) (pLst (aCons (kV a dd j 4) (aCons (kV a dd j 5) (aCons (kV a dd j 6) aNil)))))))
  (sSeq (sSet 2 (wP (p2 catL (pVar 2) (pLst (aCons (kV a dd j 7) (aCons (kV a dd j 8) (aCons (kV a dd j 9) aNil)))))))
  (sSeq (sSet 2 (wP (p2 catL (pVar 2) (pLst (aCons (kV a dd j 10) (aCons (kV a dd j 11) aNil))))))
  (sSeq (sIf (wT (tOr2 (tc2 (neT 8) (p2 cntD (pDr (pVar 2)) (pBl true)) (pInt 1)) (tNot1 (tOf (pIsV 1 a dd true))))) (sRet (wP (pStr "other"))) sNext)
  (sSeq (sSet 3 (wP (pLst (aCons (pStr "BadRows") (aCons (pStr "BadLog") (aCons (pStr "BadText") (aCons (pStr "BadEnd") (aCons (pStr "BadFillers") (aCons (pStr "BadRoom") (aCons (pStr "BadSecond") (aCons (pStr "BadCount") aNil)))))))))))
  (sSeq (sSet 3 (wP (p2 catL (pVar 3) (pLst (aCons (pStr "NotLive") (aCons (pStr "BadRow") (aCons (pStr "BadPlace") (aCons (pStr "NoRow") aNil))))))))
  (sSeq (sSet 4 (wP (p2 idxD (pDr (pVar 2)) (pBl true))))
  (sRet (wP (pIf (tc2 cGt (pDr (pVar 4)) (pInt 2)) (fun _ _ => ⟨False, .non⟩)
    (pTup (aCons (pLf (p2 ixQ (pDr (pVar 3)) (pDr (pVar 4)))) (aCons (pIf (tc2 (eqT 8) (pDr (pVar 4)) (pInt 2)) (pXf 1 a dd "line") (pXf 1 a dd "at")) aNil)))))))))))))
theorem r_kindV {a dd : Addr} {j : Nat} {i : Int} (h2 : j < 3) : w_kindV a dd j { nx := fun _ _ => False, rt := fun d _ => d = .tup [.str (kN j), .int i] } [none, some (.ref a), none, none, none] (nmX (some (kF j, i)) (some dd)) := by
  have h : j < 12 := by omega
  have hN : nmX (some (kF j, i)) (some dd) dd = some ⟨false, .xdc (kF j) i⟩ := if_pos rfl
  generalize nmX (some (kF j, i)) (some dd) = N at hN
  unfold w_kindV
  have step : ∀ (x2 x3 x4 : Option D) (i : Nat), (kV a dd j i [none, some (.ref a), x2, x3, x4] N) = ⟨True, .bl (decide (i = j))⟩ := fun x2 x3 x4 i => by
    unfold kV pIsV
    congr 1
    exact eq_true ⟨rfl, _, _, hN⟩
  refine st_set (.lst (bls j 4)) ?c0 rfl ?_
  case c0 =>
    simp only [pLst, aCons, step, aNil]
    exact ⟨⟨⟨trivial, trivial, trivial, trivial, trivial⟩, sz4 (Nat.le_of_ble_eq_true rfl)⟩, rfl⟩
  refine st_set (.lst (bls j 7)) ?c1 rfl ?_
  case c1 =>
    show (p2 catL (pVar 2) _ [none, some (.ref a), some (.lst (bls j 4)), none, none] _).ok ∧ (p2 catL (pVar 2) _ [none, some (.ref a), some (.lst (bls j 4)), none, none] _).val = _
    simp only [p2, pLst, aCons, step, aNil]
    rw [show (pVar 2 [none, some (.ref a), some (.lst (bls j 4)), none, none] N) = ⟨True, .lst (bls j 4)⟩ by unfold pVar; congr 1; exact eq_true rfl, catL_l (by simp [bls]; decide)]
    exact ⟨⟨trivial, ⟨⟨trivial, trivial, trivial, trivial⟩, sz4 (Nat.le_of_ble_eq_true rfl)⟩, trivial⟩, rfl⟩
  refine st_set (.lst (bls j 10)) ?c2 rfl ?_
  case c2 =>
    show (p2 catL (pVar 2) _ [none, some (.ref a), some (.lst (bls j 7)), none, none] _).ok ∧ (p2 catL (pVar 2) _ [none, some (.ref a), some (.lst (bls j 7)), none, none] _).val = _
    simp only [p2, pLst, aCons, step, aNil]
    rw [show (pVar 2 [none, some (.ref a), some (.lst (bls j 7)), none, none] N) = ⟨True, .lst (bls j 7)⟩ by unfold pVar; congr 1; exact eq_true rfl, catL_l (by simp [bls]; decide)]
    exact ⟨⟨trivial, ⟨⟨trivial, trivial, trivial, trivial⟩, sz4 (Nat.le_of_ble_eq_true rfl)⟩, trivial⟩, rfl⟩
  refine st_set (.lst (bls j 12)) ?c3 rfl ?_
  case c3 =>
    show (p2 catL (pVar 2) _ [none, some (.ref a), some (.lst (bls j 10)), none, none] _).ok ∧ (p2 catL (pVar 2) _ [none, some (.ref a), some (.lst (bls j 10)), none, none] _).val = _
    simp only [p2, pLst, aCons, step, aNil]
    rw [show (pVar 2 [none, some (.ref a), some (.lst (bls j 10)), none, none] N) = ⟨True, .lst (bls j 10)⟩ by unfold pVar; congr 1; exact eq_true rfl, catL_l (by simp [bls]; decide)]
    exact ⟨⟨trivial, ⟨⟨trivial, trivial, trivial⟩, sz4 (Nat.le_of_ble_eq_true rfl)⟩, trivial⟩, rfl⟩
  have d2 : ∀ x3 x4 : Option D, (pDr (pVar 2) [none, some (.ref a), some (.lst (bls j 12)), x3, x4] N) = ⟨True, .lst (bls j 12)⟩ := fun x3 x4 => by unfold pDr pVar; congr 1; exact eq_true rfl
  refine st_ifF ?c4 ?_
  case c4 =>
    show (tOr2 _ _ [none, some (.ref a), some (.lst (bls j 12)), none, none] _).ok ∧ (tOr2 _ _ [none, some (.ref a), some (.lst (bls j 12)), none, none] _).b = false
    have e0 : (pIsV 1 a dd true [none, some (.ref a), some (.lst (bls j 12)), none, none] N) = ⟨True, .bl true⟩ := by
      unfold pIsV
      congr 1
      exact eq_true ⟨rfl, _, _, hN⟩
    simp only [tOr2, tc2, p2, d2, pBl, cnt_bls h, pInt, tNot1, tOf, e0]
    have e : neT 8 (.int 1) (.int 1) = ⟨True, false⟩ := by
      unfold neT
      rw [eqD_int]
      congr 1
      exact eq_true ⟨trivial, trivial⟩
    rw [e]
    exact ⟨⟨⟨⟨trivial, trivial, trivial⟩, trivial, trivial⟩, fun _ => ⟨trivial, trivial⟩⟩, rfl⟩
  refine st_set (.lst (kWs.take 8)) ⟨⟨⟨trivial, trivial, trivial, trivial, trivial, trivial, trivial, trivial, trivial⟩, Nat.le_of_ble_eq_true rfl⟩, rfl⟩ rfl ?_
  refine st_set (.lst kWs) ?c5 rfl ?_
  case c5 =>
    show (p2 catL (pVar 3) _ [none, some (.ref a), some (.lst (bls j 12)), some (.lst (kWs.take 8)), none] _).ok ∧ (p2 catL (pVar 3) _ [none, some (.ref a), some (.lst (bls j 12)), some (.lst (kWs.take 8)), none] _).val = _
    simp only [p2, pLst, aCons, pStr, aNil]
    rw [show (pVar 3 [none, some (.ref a), some (.lst (bls j 12)), some (.lst (kWs.take 8)), none] N) = ⟨True, .lst (kWs.take 8)⟩ by unfold pVar; congr 1; exact eq_true rfl, catL_l (by decide)]
    exact ⟨⟨trivial, by decide, trivial⟩, rfl⟩
  refine st_set (.int j) ?c6 rfl ?_
  case c6 =>
    show (p2 idxD _ _ [none, some (.ref a), some (.lst (bls j 12)), some (.lst kWs), none] _).ok ∧ (p2 idxD _ _ [none, some (.ref a), some (.lst (bls j 12)), some (.lst kWs), none] _).val = _
    simp only [p2, d2, pBl, idx_bls h]
    exact ⟨⟨trivial, trivial, trivial⟩, trivial⟩
  show sRet _ _ [none, some (.ref a), some (.lst (bls j 12)), some (.lst kWs), some (.int j)] _
  have d3 : (pDr (pVar 3) [none, some (.ref a), some (.lst (bls j 12)), some (.lst kWs), some (.int j)] N) = ⟨True, .lst kWs⟩ := by unfold pDr pVar; congr 1; exact eq_true rfl
  have d4 : (pDr (pVar 4) [none, some (.ref a), some (.lst (bls j 12)), some (.lst kWs), some (.int j)] N) = ⟨True, .int j⟩ := by unfold pDr pVar; congr 1; exact eq_true rfl
  have e1 : atI kWs (j : Int) = some (.str (kN j)) := by
    rw [atI_nat]
    match j, h2 with
    | 0, _ => rfl
    | 1, _ => rfl
    | 2, _ => rfl
  have e2 : ixQ (.lst kWs) (.int j) = ⟨True, .str (kN j)⟩ := by
    unfold ixQ
    rw [toL_lst, toI_int, e1]
    congr 1
    exact eq_true ⟨trivial, trivial, rfl⟩
  have et : (tc2 cGt (pDr (pVar 4)) (pInt 2) [none, some (.ref a), some (.lst (bls j 12)), some (.lst kWs), some (.int j)] N) = ⟨True, false⟩ := by
    simp only [tc2, d4, pInt, cGt, cI]
    congr 1
    · exact eq_true ⟨trivial, trivial, trivial, trivial⟩
    · show decide ((2 : Int) < (j : Int)) = false
      exact decide_eq_false (by omega)
  have ex : (pIf (tc2 (eqT 8) (pDr (pVar 4)) (pInt 2)) (pXf 1 a dd "line") (pXf 1 a dd "at") [none, some (.ref a), some (.lst (bls j 12)), some (.lst kWs), some (.int j)] N) = ⟨True, .int i⟩ := by
    have eb : (tc2 (eqT 8) (pDr (pVar 4)) (pInt 2) [none, some (.ref a), some (.lst (bls j 12)), some (.lst kWs), some (.int j)] N) = ⟨True, decide (j = 2)⟩ := by
      simp only [tc2, d4, pInt, eqT]
      rw [eqD_int]
      congr 1
      · exact eq_true ⟨trivial, trivial, trivial, trivial⟩
      · exact decide_eq_decide.mpr ⟨fun h => by omega, fun h => by omega⟩
    have ev : xdV (N dd) = .int i := by rw [hN]; rfl
    unfold pIf
    rw [eb]
    by_cases hj : j = 2
    · have hl : (pXf 1 a dd "line" [none, some (.ref a), some (.lst (bls j 12)), some (.lst kWs), some (.int j)] N) = ⟨True, .int i⟩ := by
        unfold pXf
        rw [ev]
        congr 1
        exact eq_true ⟨rfl, i, by rw [hN, hj]; rfl⟩
      simp only [hj, decide_true, if_true]
      rw [hj] at hl
      rw [hl]
      simp
    · have hl : (pXf 1 a dd "at" [none, some (.ref a), some (.lst (bls j 12)), some (.lst kWs), some (.int j)] N) = ⟨True, .int i⟩ := by
        unfold pXf
        rw [ev]
        congr 1
        exact eq_true ⟨rfl, i, by rw [hN]; unfold kF; rw [if_neg hj]⟩
      simp only [hj, decide_false, Bool.false_eq_true, if_false]
      rw [hl]
      simp
  have el : (pLf (p2 ixQ (pDr (pVar 3)) (pDr (pVar 4))) [none, some (.ref a), some (.lst (bls j 12)), some (.lst kWs), some (.int j)] N) = ⟨True, .str (kN j)⟩ := by
    simp only [pLf, p2, d3, d4, e2]
    congr 1
    exact eq_true ⟨⟨trivial, trivial, trivial⟩, trivial⟩
  generalize (pIf (tc2 (eqT 8) (pDr (pVar 4)) (pInt 2)) (pXf 1 a dd "line") (pXf 1 a dd "at")) = B at ex ⊢
  refine ⟨?_, ?_⟩
  · show (pIf _ _ _ _ _).ok
    unfold pIf
    rw [et]
    refine ⟨trivial, ?_⟩
    simp only [Bool.false_eq_true, if_false]
    dsimp only [pTup, aCons, aNil]
    rw [el, ex]
    exact ⟨⟨trivial, trivial, trivial⟩, by show 2 ≤ SZ; decide⟩
  · show (pIf _ _ _ _ _).val = _
    unfold pIf
    rw [et]
    simp only [Bool.false_eq_true, if_false]
    dsimp only [pTup, aCons, aNil]
    rw [el, ex]
theorem kd1_ok {K : PySem.W.Frag} {mg : Str → Option Value} {CX : Str → Addr} (KF : KFacts K mg CX) {z : Exc} {dk : D} (h : KD1 CX z dk) : (∀ H v fp, Rp H dk v fp → fp = []) ∧ PySem.W.exmOne K (.ref z.cls) (.ref (CX "AirError")) = some true := by
  rcases h with h | ⟨j, i, h1, h2, h3, rfl⟩
  · obtain ⟨_, k2, k3⟩ := kd0_ok KF h
    exact ⟨fun H v fp r => Rp.lf _ _ _ r k2, k3⟩
  · refine ⟨fun H v fp r => ?_, by rw [h2]; exact KF.exm j (by omega)⟩
    obtain ⟨p, vs, _, _, v1, vr, f1, g1, _, ⟨_, rfl⟩, ⟨v2, vr2, f2, g2, _, ⟨_, rfl⟩, ⟨_, rfl⟩, rfl⟩, rfl⟩ := r
    rfl
def oexB (K : PySem.W.Frag) (C : Addr) : Bool := match K.lookup C with
  | some ⟨.type "type", _, .cls cd, sl⟩ => (match cd.mro, sl.toList with
    | .ref C' :: bm, [_, _, _, _, some (.builtin n), _] => C' == C && (n == "ValueError.__new__" && (!cd.hasDel && (cd.hasDict && PySem.HandSPX.refsVE bm)))
    | _, _ => false)
  | _ => false
theorem oexB_ok {K : PySem.W.Frag} {C : Addr} (h : oexB K C = true) : ∃ nm q N bs bm sn sub ab col dd k0 k1 k2 k3 k5, K.lookup C = some (excClassObj nm q C N bs bm true sn sub ab col dd k0 k1 k2 k3 k5 "ValueError.__new__") ∧ PySem.HandSPX.refsVE bm = true := by
  unfold oexB at h
  split at h
  · rename_i dd cd sl ho
    split at h
    · rename_i C' bm k0 k1 k2 k3 n k5 hm hs
      simp only [Bool.and_eq_true, beq_iff_eq, Bool.not_eq_true'] at h
      obtain ⟨rfl, rfl, hdel, hd, hr⟩ := h
      obtain ⟨nm, bs, mro, ns, qn, hd', sn, sub, ab, col, del⟩ := cd
      dsimp only at hm hdel hd
      subst hm hdel hd
      have hsl : sl = #[k0, k1, k2, k3, some (.builtin "ValueError.__new__"), k5] := by
        obtain ⟨l⟩ := sl
        simp only at hs
        rw [hs]
      subst hsl
      exact ⟨nm, qn, ns, bs, bm, sn, sub, ab, col, dd, k0, k1, k2, k3, k5, ho, hr⟩
    · cases h
  · cases h
def vxB (K : PySem.W.Frag) (C : Addr) (f : Str) : Bool := oexB K C && (He.eqO (PySem.W.findIn K (.ref C) "__setattr__") (some (some (.builtin "object.__setattr__"))) && (decide (PySem.W.subIn K (.ref C) (.type "BaseException") = some true) && (decide (PySem.W.typeIn K (.ref C) = some (.type "type")) && (PySem.W.keepIn K (.ref C) && He.eqO (PySem.W.findIn K (.ref C) f) (some none)))))
theorem vxB_ok {K : PySem.W.Frag} {C : Addr} {f : Str} (h : vxB K C f = true) : VxC K C f := by
  unfold vxB at h
  simp only [Bool.and_eq_true, decide_eq_true_eq] at h
  obtain ⟨h1, h2, h3, h4, h5, h6⟩ := h
  exact ⟨⟨oexB_ok h1, He.eqO_ok h2, h3, h4, h5⟩, He.eqO_ok h6⟩
def ownB (K : PySem.W.Frag) (CA : Addr) : Bool := PySem.W.readsIn K CA (.type "type") && (He.eqO (PySem.W.specialIn K (.ref CA) "__getattribute__") (some (some (.builtin "type.__getattribute__"))) && (match PySem.W.findCls K (.ref CA) (.type "type") "__init__" with
  | some (.val (.builtin n)) => n == "ValueError.__init__"
  | _ => false))
theorem ownB_ok {K : PySem.W.Frag} {CA : Addr} (h : ownB K CA = true) : OwnInit K CA := by
  unfold ownB at h
  simp only [Bool.and_eq_true] at h
  obtain ⟨h1, h2, h3⟩ := h
  refine ⟨⟨h1, He.eqO_ok h2⟩, ?_⟩
  split at h3
  · rename_i n e
    rw [e, beq_iff_eq.mp h3]
  · cases h3
structure KFacts1 (K : PySem.W.Frag) (mg : Str → Option Value) (CX : Str → Addr) : Prop where
  kf : KFacts K mg CX
  own : OwnInit K (CX "AirError")
  vx : ∀ j, j < 3 → VxC K (CX (kN j)) (kF j)
  na : ∀ j, j < 3 → PySem.W.findIn K (.ref (CX (kN j))) "at" = some none ∧ PySem.W.findIn K (.ref (CX (kN j))) "line" = some none
def extV (K : PySem.W.Frag) : Bool := extK K && (ownB K (He.ga K "AirError") && (List.range 3).all fun j => vxB K (He.ga K (kN j)) (kF j) && (He.eqO (PySem.W.findIn K (.ref (He.ga K (kN j))) "at") (some none) && He.eqO (PySem.W.findIn K (.ref (He.ga K (kN j))) "line") (some none)))
theorem kfacts1_ok {K : PySem.W.Frag} {h : Heap} {mg : Str → Option Value} (X : K.In h) (G : h.Ns mainGlobals mg) (e : extV K = true) : KFacts1 K mg (He.ga K) := by
  unfold extV at e
  simp only [Bool.and_eq_true] at e
  obtain ⟨e1, e2, e3⟩ := e
  have e4 := fun j hj => List.all_eq_true.mp e3 j (List.mem_range.mpr hj)
  simp only [Bool.and_eq_true] at e4
  exact ⟨kfacts_ok X G e1, ownB_ok e2, fun j hj => vxB_ok (e4 j hj).1, fun j hj => ⟨He.eqO_ok (e4 j hj).2.1, He.eqO_ok (e4 j hj).2.2⟩⟩
theorem exv_of {P : Program} {w : World} {K : PySem.W.Frag} {mg : Str → Option Value} {base : Heap} {x f qual : Str} {C fI : Addr} {st : Stmt} {fd : FuncData} {N : List Str} (F : L2.Fun K "__init__" qual st fI fd) (M : L2.Meth K C "__init__" fI) (hm : mg x = some (.ref C)) (V : VxC K C f) (S : FnScope N [("self" : Str), f] (defScope st)) (hN : N = [("self" : Str), f])
    (hb : Binds K fd [("self" : Str), f] []) (hd : ∀ (cdv : Value) (A : Around) (outer : List Env) (s : Shared) (H : Hp) (E : XK), PSs (cxOf (L2.CX P w) P w K mg base N qual (defScope st) fI cdv A outer s H E) (defBody st) (tSeq (tDrop (tVeI K (tCons (tVar 0) (tCons (tVar 1) tNil)))) (tOst K f (tVar 0) (tVar 1)))) : ExV P w K mg base x C f :=
  ⟨hm, V.oex, fI, fd, fn_xinit F S hN V hd, M.at_, beq_iff_eq.mp M.fn, hb⟩
end DL
set_option maxHeartbeats 4000000
namespace DL
open PySem L2
section
variable {X : Cx} {E : XK} {rc : Bool} {pos p : Pos}
theorem opd_fdiv : OpD (rI CDivW fun i j => .int (i / j)) (bI CDivW fun i j => .int (i / j)) := fun F H x y v w fa fb Q rx ry ka kb ok q => ⟨toI x, toI y, rx.int_ ok.1, ry.int_ ok.2.1, ok.2.2, q _ H [] (Ex.refl _) ⟨rfl, rfl⟩ Cl.nil⟩
theorem de_fdiv {a b : Expr} {w u : WE} (ha : DE X E a w) (hb : DE X E b u) : DE X E (.BinOp a .FloorDiv b pos) (w2 (bI CDivW fun i j => .int (i / j)) w u) := de_bin op_fdivW opd_fdiv ha hb
theorem opd_rep : OpD rRep repL := fun F H x y v w fa fb Q rx ry ka kb ok q => by
  obtain ⟨o1, o2, o3, o4, o5, o6⟩ := ok
  obtain ⟨p, vs, f1, rfl, hp, rl, rfl⟩ := rx.lst_ o1
  have z := RpL.lf _ _ _ rl o3
  subst z
  refine ⟨p, toI y, vs, rfl, ry.int_ o2, hp, o4, o5, sz (by rw [← rl.length]; exact o6), fun l hl => ?_⟩
  exact new_lst (c := .cln) (F := F) (Ex.refl _) (rl.rep _) Cl.nil hl q
theorem de_rep {a b : Expr} {w u : WE} (ha : DE X E a w) (hb : DE X E b u) : DE X E (.BinOp a .Mult b pos) (w2 repL w u) := de_bin op_rep opd_rep ha hb
def sSetCM (i j : Nat) (u : WE) : WS := fun K δ N => (lk δ j).isSome = true ∧ u δ N (fun y N2 => (catL (drf N2 ((lk δ j).getD .non)) y).ok ∧ lfs (toL (drf N2 ((lk δ j).getD .non))) ∧ lfs (toL y) ∧
  ∀ a, N2 a = none → K.nx (δ.set i (some (.ref a))) (updN N2 a ⟨true, (catL (drf N2 ((lk δ j).getD .non)) y).val⟩)) K.ex
theorem ds_setCM {i j : Nat} {y z : Str} {e : Expr} {u : WE} {pos' pz pb : Pos} (hN : X.N.Nodup) (hi : X.N[i]? = some y) (hx : L2.Loc X.env.scope y) (hz : PE X (.Name z pz) (tVar j)) (he : DE X E e u)
    (hs : swapsWith (.BinOp (.Name z pz) .Add e pb) (some (.Name y pos')) pos.line X.env = pure false := by rfl)
    (hf : X.fn y = true ∨ X.env.scope.names.lookup y = some .local := by first | exact .inl rfl | exact .inr rfl | assumption) : DS X E rc (.Assign [.Name y pos'] (.BinOp (.Name z pz) .Add e pb) pos) (sSetCM i j u) := by
  refine ps_imp (ps_set hN hi hx (pe_op op_cat hz he) hs hf) fun D σ H h => ?_
  obtain ⟨δ, N, F, P, K, o, ⟨hj, q⟩, e⟩ := h
  obtain ⟨d0, hd0⟩ := Option.isSome_iff_exists.mp hj
  obtain ⟨v0, fp0, h1, h2, h3⟩ := o.sr.at_ j d0 (lk_get hd0)
  refine ⟨v0, h1, δ, N, F, P, _, K.ex, o, q, fun v H1 F1 P1 d N1 fp t1 o1 r1 k1 q1 => ?_, e.ex⟩
  obtain ⟨c1, c2, c3, c4⟩ := q1
  rw [hd0, Option.getD_some] at c1 c2 c4
  have r0 : Rp H1 d0 v0 fp0 := o.keep t1 h2 h3
  obtain ⟨fq, r0'⟩ := o1.rd r0
  obtain ⟨p, vs, f1, rfl, hp, rl, rfl⟩ := r0'.lst_ c1.1
  obtain ⟨p', vs', f2, rfl, hp', rl', rfl⟩ := r1.lst_ c1.2.1
  have z1 := RpL.lf _ _ _ rl c2
  have z2 := RpL.lf _ _ _ rl' c3
  subst z1 z2
  refine ⟨p, p', vs, vs', rfl, rfl, hp, hp', sz (by rw [← rl.length, ← rl'.length]; exact c1.2.2), fun l hl => ?_⟩
  have r2 : Rp (upd H1 l (.lst (vs ++ vs'))) (catL (drf N1 d0) d).val (.ref l) [l] := ⟨l, _, [], rfl, upd_same, (RpL.append rl rl').ex (Ex.new hl), rfl⟩
  obtain ⟨hn, o2, t2⟩ := o1.alloc (Ex.new hl) r2 (by simp) (by simp) (by simp [hl])
  exact e.nx _ _ F1 _ _ _ (t1.trans t2) ⟨o2.wf, o2.sr.set (d := .ref l) (fp := []) ⟨rfl, rfl⟩ (by simp)⟩ (c4 l hn)
def sParIM (i j : Nat) (g : AF) : WS := fun K δ N => (g δ N).ok ∧ ∃ d1 d2, (g δ N).vals = [d1, d2] ∧ lf d1 ∧ IsC d2 ∧ ∀ b, N b = none → K.nx ((δ.set i (some d1)).set j (some (.ref b))) (updN N b ⟨true, d2⟩)
theorem ds_parIM {i j : Nat} {y z : Str} {a b : Expr} {g : AF} {px py pt : Pos} {kt k2 pt2} (hc : X.calm = true) (hN : X.N.Nodup) (hi : X.N[i]? = some y) (hj : X.N[j]? = some z) (hij : i ≠ j)
    (hx : X.env.scope.names.lookup y = some .local) (hy : X.env.scope.names.lookup z = some .local) (ha : DA X .frs [a, b] g)
    (hw : swappedStores [.Tuple [.Name y px, .Name z py] kt pt] (.Tuple [a, b] k2 pt2) X.env = pure (some [y, z]))
    (hs : swapsWithSole [.Tuple [.Name y px, .Name z py] kt pt] (.Tuple [a, b] k2 pt2) pos.line X.env = pure false := by rfl) :
    DS X E rc (.Assign [.Tuple [.Name y px, .Name z py] kt pt] (.Tuple [a, b] k2 pt2) pos) (sParIM i j g) := ps_imp (ps_par hc hN hi hj hij hx hy ha hw hs) fun D σ H h => by
  obtain ⟨δ, N, F, P, K, o, ⟨ok, d1, d2, ev, k1, k2, q⟩, e⟩ := h
  refine ⟨δ, N, F, o.sr, o.nr, ok, fun vs H1 fp e1 r1 kk => ?_⟩
  rw [ev] at r1
  obtain ⟨v, vr, f, f', rfl, ra, rb, rfl⟩ := r1
  obtain ⟨v2, vr2, g1, g2, rfl, rb, rn, rfl⟩ := rb
  obtain ⟨rfl, rfl⟩ := rn
  obtain rfl := Rp.lf _ _ _ ra k1
  rw [List.append_nil, List.nil_append] at kk
  obtain ⟨B, rfl, hB⟩ := rb.cell k2
  obtain ⟨hNB, o1, t1⟩ := o.alloc e1 rb hB kk.1 kk.2
  refine ⟨v, .ref B, rfl, e.nx _ H1 F _ _ _ t1 ⟨o1.wf, (o1.sr.set (d := d1) (fp := []) ra (by simp)).set (d := .ref B) (fp := []) ⟨rfl, rfl⟩ (by simp)⟩ (q B hNB)⟩
end
end DL
set_option maxHeartbeats 4000000
namespace DL
open PySem L2
section
variable {X : Cx} {E : XK} {rc : Bool} {pos p : Pos} {c c1 c2 : Cl}
def cutT (z : Str) (lo hi : Option Int) : Str := ⟨((z.cps.toList.drop (HT.sIx z.length 0 lo)).take (HT.sIx z.length z.length hi - HT.sIx z.length 0 lo)).toArray⟩
def pSlS (f : PF) (lo hi : SF) : PF := fun δ N => ⟨(f δ N).ok ∧ (lo δ N).1 ∧ (hi δ N).1 ∧ IsS (f δ N).val ∧ (toS (f δ N).val).length ≤ SZ, .str (cutT (toS (f δ N).val) (lo δ N).2 (hi δ N).2)⟩
theorem dp_slS {a : Expr} {l h : Option Expr} {f : PF} {lo hi : SF} {p2} (ha : DP X c1 a f) (hl : PO X l (tO lo)) (hh : PO X h (tO hi)) : DP X c (.Subscript a (.Slice l h none p2) pos) (pSlS f lo hi) := by
  refine pe_imp (pe_slice sl_str ha hl hh) fun σ H Q h => ?_
  obtain ⟨δ, N, F, hs, hn, ⟨o1, o2, o3, o4, o5⟩, q⟩ := h
  refine ⟨δ, N, F, hs, hn, o1, fun v H1 fa e1 r1 k1 => ⟨δ, N, F, hs.ex e1, hn.ex e1, o2, fun H2 e2 => ⟨δ, N, F, (hs.ex e1).ex e2, (hn.ex e1).ex e2, o3, fun H3 e3 => ?_⟩⟩⟩
  have ev := r1.str_ o4
  subst ev
  exact ⟨_, rfl, sz o5, q _ H3 [] ((e1.trans e2).trans e3) ⟨rfl, rfl⟩ Cl.nil⟩
theorem de_ixS {a b : Expr} {w u : WE} (ha : DE X E a w) (hb : DE X E b u) (hs : PlainIx b := by exact fun _ _ => rfl) : DE X E (.Subscript a b pos) (w2 ixS w u) := by
  refine pe_imp (pe_ix ix_str ha hb hs) fun σ H Q h => ?_
  obtain ⟨δ, N, F, P, Q', E', o, q', q, qe⟩ := h
  refine ⟨δ, N, F, P, _, E', o, q', fun v H1 F1 P1 x N1 fa t1 o1 r1 k1 q1 => ?_, qe⟩
  refine ⟨δ, N1, F1, P1, _, E', o1, q1, fun w' H2 F2 P2 y N2 fb t2 o2 r2 k2 q2 => ?_, qe.tr t1⟩
  obtain ⟨⟨o3, o4, o5, o6⟩, q3⟩ := q2
  have ev : v = .str (toS x) := r1.str_ o3
  have ew := r2.int_ o4
  subst ev ew
  obtain ⟨cc, hc⟩ := Option.isSome_iff_exists.mp o6
  refine ⟨_, _, cc, rfl, rfl, Nat.le_trans o5 (sz (Nat.le_refl _)), hc, q _ H2 F2 P2 (.str ⟨#[cc]⟩) N2 [] (t1.trans t2) o2 ⟨rfl, rfl⟩ (by simp) ?_⟩
  unfold ixS at q3
  rw [hc] at q3
  exact q3
end
end DL
set_option maxHeartbeats 4000000
namespace DL
open PySem L2
def strAt (b : List Stmt) (k : Nat) : Str := match b[k]? with
  | some (.Assign _ (.Constant (.str s) _ _) _) => s
  | _ => Str.empty
def inLT (x y : D) : TV := ⟨okD 8 x ∧ okD 8 y ∧ ∃ ys, y = .lst ys, inB x (toL y)⟩
theorem dt_inL {X : Cx} {c1 c2 : Cl} {pos : Pos} {a b : Expr} {f g : PF} (hu : X.A.units + 65 < cLine) (ha : DP X c1 a f) (hb : DP X c2 b g) (hm : behindInMarks .In b = false := by rfl) : DT X (.Compare a [.In] [b] pos) (tc2 inLT f g) :=
  dt_cmp (hf := inLT) (op_inD hu) ha hb hm fun H2 x y v w fa fb Q rx ry ok q => by
    obtain ⟨o1, o2, ys, rfl⟩ := ok
    have e := Rp.dp (K := X.K) 8 _ _ _ ry o2
    have e2 := o2.shaped (by decide)
    simp only [toPy] at e e2
    refine ⟨toPy x, toPys ys, Rp.dp 8 _ _ _ rx o1, e, o1.shaped (by decide), e2, ?_⟩
    rw [any_toPys]
    exact q
end DL
local macro_rules | `(tactic| simp! only [$xs,*]) => `(tactic| simp only [DL.sSetZ, DL.sRetZ, DL.sPar1, DL.sSeq, DL.sIf, DL.sSet, DL.sSetM, DL.sSetMN, DL.sAppN, DL.sSetMT, DL.sSetMS, DL.wLc, DL.wYes, DL.wPop, DL.wSl, DL.w1, DL.w1r, DL.lcW, DL.sFor, DL.sNext, DL.sRet, DL.sRetF, DL.sRetN, DL.sDrop, DL.sApp, DL.sAppR, DL.sSetIx, DL.sPar, DL.sParM, DL.sAsg, DL.wP, DL.wT, DL.wA, DL.wCall, DL.wCallP, DL.wACons, DL.wANil, DL.w2, DL.w2c, DL.w2t, DL.wIf, DL.wTup, DL.wLst, DL.wR1, DL.wAnd, DL.wOr, DL.wNot, DL.wTV, DL.pVar, DL.pInt, DL.pBl, DL.pStr, DL.pNon, DL.pDr, DL.pLf, DL.p1, DL.p2, DL.bI, DL.pc2, DL.tc2, DL.cI, DL.pAnd, DL.pOr, DL.pNot, DL.pIf, DL.pIsi, DL.pIsi2, DL.pChain, DL.tOf, DL.tNot1, DL.tAnd2, DL.tOr2, DL.tChn, DL.tIsN, DL.tNotN, DL.pIsN, DL.pNotN, DL.pNeg, DL.pSl, DL.pSlF, DL.pSlU, DL.pRev, DL.sfN, DL.sfS, DL.iU, DL.iL, DL.iR1, DL.iR2, DL.aCons, DL.aNil, DL.pLst, DL.pTup, DL.pLc, DL.pLcF, DL.pCall, DL.lV, DL.lIx, DL.lk, DL.startD, DL.ro, DL.gN, DL.gT, DL.gTL, DL.gC_cons, DL.gNl, DL.iS, DL.iE, DL.sAppC, DL.IsI_int, DL.toI_int, DL.IsB_bl, DL.toB_bl, DL.IsS_str, DL.toS_str, DL.IsL_lst, DL.IsU_tup, DL.IsQ_lst, DL.IsQ_tup, DL.toL_lst, DL.toL_tup, DL.drf_int, DL.drf_bl, DL.drf_str, DL.drf_non, DL.drf_lst, DL.drf_tup, DL.drf_obj, DL.drf_upd, DL.lenD_lst, DL.lenD_tup, DL.intD_int, DL.intD_bl, DL.rA_ref, DL.lf_int, DL.lf_bl, DL.lf_non, DL.lf_str, DL.lf_ref, DL.IsC_lst, DL.Ty_int, DL.Ty_tup, DL.Ty_lst, DL.Ty_bl, DL.Ty_str, DL.Ty_non, DL.wipeD, DL.ixQ, DL.tYesF, DL.bAddI, DL.bSub, DL.bMul, DL.bMod, DL.bFdiv, DL.bPow, DL.bMax2, DL.bMin2, DL.cLt, DL.cLe, DL.cGt, DL.cGe, List.set, List.map, List.length, List.length_cons, List.length_nil, List.replicate, List.nil_append, List.cons_append, List.append_nil, Option.isSome_some, Option.getD_some, Option.isSome_none, Bool.not_true, Bool.not_false, and_true, true_and, and_self, implies_true, Nat.zero_add, List.length_set, List.length_replicate, $xs,*])
set_option maxHeartbeats 0
namespace K14
open PySem L2 DL
def top (i : Nat) : Stmt := PySem.Challenge.pw_airtime_k14_texts_refused.main.body.getD i (.Pass ⟨0, 0, 0, 0⟩)
abbrev s_BadText_init : Stmt := inClass (top 13) 0
abbrev s_is_number : Stmt := top 21
abbrev s_is_row : Stmt := top 22
abbrev s_need_rows : Stmt := top 23
abbrev s_written : Stmt := top 28
abbrev s_number_of : Stmt := top 29
abbrev s_row_of : Stmt := top 30
abbrev s_read : Stmt := top 31
abbrev s_law_next : Stmt := top 34
abbrev s_law_alike : Stmt := top 35
abbrev s_law_rows : Stmt := top 37
abbrev s_law_kind : Stmt := top 38
abbrev s_law_figures : Stmt := top 39
abbrev s_law_row : Stmt := top 40
abbrev s_law_spoilt : Stmt := top 41
abbrev s_law_mix : Stmt := top 33
abbrev s_law : Stmt := top 42
def loose0 : List PySem.Str := ["AirError", "BadEnd", "BadFillers", "BadRoom", "BadSecond", "BadCount", "NotLive", "BadRow", "BadPlace", "NoRow", "BadRows", "BadLog", "BadText", "MOST_ID", "MOST_LENGTH", "MOST_END", "MOST_ROWS", "CLIP", "LIVE", "is_number", "is_row", "need_rows", "FIGURES", "MOST_FIGURES", "LAST_MOMENT", "written", "number_of", "row_of", "read", "_law_mix"]
def loose1 : List PySem.Str := ["_law_next", "_law_alike", "_law_fillers", "_law_rows", "_law_kind", "_law_figures", "_law_row", "_law_spoilt"]
def loose : List PySem.Str := loose0 ++ loose1
def e_is_number : He.FnD := ⟨("is_number", none), "is_number", "is_number", defArgs s_is_number, defBody s_is_number, defScope s_is_number⟩
def e_is_row : He.FnD := ⟨("is_row", none), "is_row", "is_row", defArgs s_is_row, defBody s_is_row, defScope s_is_row⟩
def e_need_rows : He.FnD := ⟨("need_rows", none), "need_rows", "need_rows", defArgs s_need_rows, defBody s_need_rows, defScope s_need_rows⟩
def e_written : He.FnD := ⟨("written", none), "written", "written", defArgs s_written, defBody s_written, defScope s_written⟩
def e_number_of : He.FnD := ⟨("number_of", none), "number_of", "number_of", defArgs s_number_of, defBody s_number_of, defScope s_number_of⟩
def e_row_of : He.FnD := ⟨("row_of", none), "row_of", "row_of", defArgs s_row_of, defBody s_row_of, defScope s_row_of⟩
def e_read : He.FnD := ⟨("read", none), "read", "read", defArgs s_read, defBody s_read, defScope s_read⟩
def e_law_mix : He.FnD := ⟨("_law_mix", none), "_law_mix", "_law_mix", defArgs s_law_mix, defBody s_law_mix, defScope s_law_mix⟩
def e_law_next : He.FnD := ⟨("_law_next", none), "_law_next", "_law_next", defArgs s_law_next, defBody s_law_next, defScope s_law_next⟩
def e_law_alike : He.FnD := ⟨("_law_alike", none), "_law_alike", "_law_alike", defArgs s_law_alike, defBody s_law_alike, defScope s_law_alike⟩
def e_law_rows : He.FnD := ⟨("_law_rows", none), "_law_rows", "_law_rows", defArgs s_law_rows, defBody s_law_rows, defScope s_law_rows⟩
def e_law_kind : He.FnD := ⟨("_law_kind", none), "_law_kind", "_law_kind", defArgs s_law_kind, defBody s_law_kind, defScope s_law_kind⟩
def e_law_figures : He.FnD := ⟨("_law_figures", none), "_law_figures", "_law_figures", defArgs s_law_figures, defBody s_law_figures, defScope s_law_figures⟩
def e_law_row : He.FnD := ⟨("_law_row", none), "_law_row", "_law_row", defArgs s_law_row, defBody s_law_row, defScope s_law_row⟩
def e_law_spoilt : He.FnD := ⟨("_law_spoilt", none), "_law_spoilt", "_law_spoilt", defArgs s_law_spoilt, defBody s_law_spoilt, defScope s_law_spoilt⟩
def e_law : He.FnD := ⟨("law", none), "law", "law", defArgs s_law, defBody s_law, defScope s_law⟩
def e_BadText_init : He.FnD := ⟨("BadText", some "__init__"), "__init__", "BadText.__init__", defArgs s_BadText_init, defBody s_BadText_init, defScope s_BadText_init⟩
def fns : List He.FnD := [e_is_number, e_is_row, e_need_rows, e_written, e_number_of, e_row_of, e_read, e_law_mix, e_law_next, e_law_alike, e_law_rows, e_law_kind, e_law_figures, e_law_row, e_law_spoilt, e_law, e_BadText_init]
def fas : List He.Fa := [.glo "is_number", .glo "is_row", .glo "need_rows", .glo "written", .glo "number_of", .glo "row_of", .glo "read", .glo "_law_mix", .glo "_law_next", .glo "_law_alike", .glo "_law_rows", .glo "_law_kind", .glo "_law_figures", .glo "_law_row", .glo "_law_spoilt", .glo "law", .keep "is_number", .keep "is_row", .keep "need_rows", .keep "written", .keep "number_of", .keep "row_of", .keep "read", .keep "_law_mix", .keep "_law_next", .keep "_law_alike", .keep "_law_rows", .keep "_law_kind", .keep "_law_figures", .keep "_law_row", .keep "_law_spoilt", .keep "law", .glo "AirError", .meth "BadText" "__init__", .free "ValueError", .free "bool", .free "enumerate", .free "int", .free "isinstance", .free "len", .free "list", .free "max", .free "range", .free "set", .free "sorted", .free "str", .free "tuple", .str "CLIP" "clip", .str "FIGURES" "0123456789", .int "LAST_MOMENT" (899), .str "LIVE" "live", .int "MOST_END" (900), .int "MOST_FIGURES" (3), .int "MOST_ID" (99), .int "MOST_LENGTH" (120), .int "MOST_ROWS" (30)]
abbrev R : PySem.W.OpenRow := PySem.W.OpenLaw.row PySem.Challenge.rw_airtime_k14_texts_refused
abbrev hk : PySem.W.Hook := DL.hookT 5 fas fns DL.extV
def ob (s : PySem.W.SharedT) : He.Al × Bool := DL.obT 5 fas fns DL.extV (HandSHeadRun.getT s)
theorem ob_eq (s : PySem.W.SharedT) : ob s = hk.obs s.abs := DL.obT_eq (HandSHeadRun.getT_eq s)
theorem run (w : World) : HandSHeadRun.RunEq R (PySem.W.view R.prog [42]) hk ob 20000 loose w := by
  intro os
  kernel_rfl
end K14
set_option maxHeartbeats 4000000
namespace K14
open PySem L2 DL
abbrev dI (ns : List Int) : D := .lst (ns.map .int)
abbrev dU (ns : List Int) : D := .tup (ns.map .int)
abbrev g0 (ds : List D) : D := ds.getD 0 .non
abbrev g1 (ds : List D) : D := ds.getD 1 .non
structure FOk (fs : List Int) : Prop where
  one : fs.head? = some 1
  len : fs.length ≤ 6
  up : fs.Pairwise (· < ·)
  top : ∀ l ∈ fs, l ≤ 60
def cntL (fs : List Int) : Nat → List Int
  | 0 => [0]
  | n + 1 => cntL fs n ++ [1 + minI ((fs.filter fun l => decide (l ≤ (n : Int) + 1)).map fun l => (cntL fs n).getD (n + 1 - l.toNat) 0)]
def cnt (fs : List Int) (n : Nat) : Int := (cntL fs n).getD n 0
def some_ (fs : List Int) (n : Nat) : List Int := fs.filter fun l => decide (l ≤ (n : Int)) && decide (cnt fs (n - l.toNat) = cnt fs n - 1)
def fillG (fs : List Int) : Nat → Nat → List Int
  | 0, _ => []
  | _, 0 => []
  | k + 1, n => maxI (some_ fs n) :: fillG fs k (n - (maxI (some_ fs n)).toNat)
def fill (fs : List Int) (n : Nat) : List Int := fillG fs n n
def isnum (x : D) (lo hi : Int) : Bool := match x with | .int i => decide (lo ≤ i) && decide (i ≤ hi) | _ => false
def ph_is_number : List D → Nm → PV := fun ds _ => ⟨∃ x lo hi, ds = [x, .int lo, .int hi] ∧ Ty x, .bl (isnum (g0 ds) (toI (g1 ds)) (toI (ds.getD 2 .non)))⟩
def ph_need_fillers : List D → Nm → PV := fun ds _ => ⟨∃ fs, ds = [dU fs] ∧ FOk fs, .non⟩
def ph_counts_to : List D → Nm → PV := fun ds _ => ⟨∃ (n : Nat) (fs : List Int), ds = [.int n, dU fs] ∧ FOk fs ∧ n ≤ 900, dI (cntL (toIs (g1 ds)) (toI (g0 ds)).toNat)⟩
def ph_filled_by : List D → Nm → PV := fun ds _ => ⟨∃ (n : Nat) (fs : List Int), ds = [.int n, dU fs] ∧ FOk fs ∧ n ≤ 900, dI (fill (toIs (g1 ds)) (toI (g0 ds)).toNat)⟩
def HSt (d : D) : Prop := ∃ s cs k, d = .lst [.int s, dI cs, .int k] ∧ 0 ≤ s ∧ s < 2147483647 ∧ 0 ≤ k
def sp_law_next : SpD := fun ds N Q _ => ∃ a many d, ds = [.ref a, .int many] ∧ N a = some ⟨true, d⟩ ∧ HSt d ∧ 0 < many ∧ many < 4294967296 ∧ ∀ r d', 0 ≤ r → r < many → HSt d' → Q (.int r) (updN N a ⟨true, d'⟩)
def Pl : Nat → D → Prop
  | 0, _ => False
  | _, .non | _, .bl _ | _, .int _ => True
  | _, .str s => PyData.strOk s = true
  | n + 1, .tup xs | n + 1, .lst xs => xs.length ≤ 100000 ∧ ∀ x ∈ xs, Pl n x
  | _, _ => False
def phr_law_alike : Nat → List D → Nm → PV
  | 0 => fun _ _ => ⟨False, .bl true⟩
  | n + 1 => fun ds _ => ⟨∃ x, ds = [x, x] ∧ Pl (n + 1) x, .bl true⟩
abbrev ph_law_alike : List D → Nm → PV := phr_law_alike 6
def sp_law_fillers : SpD := fun ds N Q _ => ∃ a d, ds = [.ref a] ∧ N a = some ⟨true, d⟩ ∧ HSt d ∧ ∀ fs d', FOk fs → HSt d' → Q (dU fs) (updN N a ⟨true, d'⟩)
def sortR (xs : List Int) : List Int := (sortI xs).reverse
def bestL (fs : List Int) : Nat → List (List Int)
  | 0 => [[]]
  | n + 1 =>
    let sm := (fs.filter fun l => decide (l ≤ (n : Int) + 1)).map fun l => l :: (bestL fs n).getD (n + 1 - l.toNat) []
    let few := minI (sm.map fun z => (z.length : Int))
    bestL fs n ++ [maxLs ((sm.filter fun z => decide ((z.length : Int) = few)).map sortR)]
def best (fs : List Int) (n : Nat) : List Int := (bestL fs n).getD n []
def ph_law_filled : List D → Nm → PV := fun ds _ => ⟨∃ (n : Nat) (fs : List Int), ds = [.int n, dU fs] ∧ FOk fs ∧ n ≤ 900, dI (best (toIs (g1 ds)) (toI (g0 ds)).toNat)⟩
structure Row where
  id : Int
  live : Bool
  len : Int
  mo : Option Int
def moD : Option Int → D
  | some m => .int m
  | none => .non
def kindS (b : Bool) : Str := cond b "live" "clip"
def rowD (r : Row) : D := .tup [.int r.id, .str (kindS r.live), .int r.len, moD r.mo]
abbrev dR (rs : List Row) : D := .lst (rs.map rowD)
structure ROk1 (r : Row) : Prop where
  id : 0 ≤ r.id ∧ r.id ≤ 99
  len : 1 ≤ r.len ∧ r.len ≤ 120
structure ROk (rs : List Row) (b e : Int) : Prop where
  n : rs.length ≤ 64
  one : ∀ r ∈ rs, ROk1 r
  nd : (rs.map Row.id).Nodup
  mo : ∀ m ∈ rs.filterMap Row.mo, b ≤ m ∧ m < e
  up : (rs.filterMap Row.mo).Pairwise (· < ·)
  be : 0 ≤ b ∧ b < e ∧ e ≤ 900
def ph_need_end : List D → Nm → PV := fun ds _ => ⟨∃ b e : Int, ds = [.int b, .int e] ∧ 0 ≤ b ∧ b < e ∧ e ≤ 900, .non⟩
def kindB (s : Str) : Bool := decide (s = ("clip" : Str)) || decide (s = ("live" : Str))
def isKind : D → Bool
  | .str s => kindB s
  | _ => false
def moB : D → Bool
  | .non => true
  | m => isnum m 0 900
def isRowL : List D → Bool
  | [a, b, c, m] => isKind b && (isnum a 0 99 && isnum c 1 120) && moB m
  | _ => false
def ph_is_row : List D → Nm → PV := fun ds _ => ⟨∃ xs : List D, ds = [.tup xs] ∧ xs.length ≤ 1000 ∧ ∀ x ∈ xs, flat x = true, .bl (isRowL (toL (g0 ds)))⟩
def rowB (r : Row) : Bool := decide (0 ≤ r.id) && decide (r.id ≤ 99) && (decide (1 ≤ r.len) && decide (r.len ≤ 120)) && moB (moD r.mo)
def ph_need_rows : List D → Nm → PV := fun ds _ => ⟨∃ (rs : List Row) (b e : Int), ds = [dR rs, .int b, .int e] ∧ ROk rs b e ∧ rs.length ≤ 30, .non⟩
def fo : List Int → Int → Nat
  | [], _ => 0
  | a :: s, k => if a ≤ k then min (1 + fo s k) (fo s (k - a)) else 1 + fo s k
def ch : List Row → Int → List Row × List Row
  | [], _ => ([], [])
  | r :: s, k => if r.len ≤ k ∧ fo (s.map Row.len) (k - r.len) ≤ 1 + fo (s.map Row.len) k then (r :: (ch s (k - r.len)).1, (ch s (k - r.len)).2) else ((ch s k).1, r :: (ch s k).2)
def ph_fewest_out : List D → Nm → PV := fun ds _ => ⟨∃ (ls : List Int) (k : Int), ds = [dI ls, .int k] ∧ 0 ≤ k ∧ (∀ l ∈ ls, 1 ≤ l ∧ l ≤ 120) ∧ ls.length ≤ 64, .int (fo (toIs (g0 ds)) (toI (g1 ds)))⟩
def toR (d : D) : Row := match d with
  | .tup [.int i, .str s, .int l, .int m] => ⟨i, decide (s = ("live" : Str)), l, some m⟩
  | .tup [.int i, .str s, .int l, .non] => ⟨i, decide (s = ("live" : Str)), l, none⟩
  | _ => ⟨0, false, 0, none⟩
def toRs (d : D) : List Row := (toL d).map toR
def ph_chosen : List D → Nm → PV := fun ds _ => ⟨∃ (rs : List Row) (k : Int), ds = [dR rs, .int k] ∧ 0 ≤ k ∧ k ≤ 900 ∧ (∀ r ∈ rs, ROk1 r) ∧ rs.length ≤ 64, .tup [dR (ch (toRs (g0 ds)) (toI (g1 ds))).1, dR (ch (toRs (g0 ds)) (toI (g1 ds))).2]⟩
structure Stt where
  start : Int
  last : Int
  first : Option Row
  some_ : List Row
def frD : Option Row → D
  | some r => rowD r
  | none => .non
def sttD (s : Stt) : D := .lst [.int s.start, .int s.last, frD s.first, dR s.some_]
def addS (e : Int) : List Stt → Row → List Stt
  | [], _ => []
  | [s], r => match r.mo with
    | none => [{ s with some_ := s.some_ ++ [r] }]
    | some m => [{ s with last := m }, ⟨m, e, some r, []⟩]
  | s :: t :: ts, r => s :: addS e (t :: ts) r
def strz (rs : List Row) (b e : Int) : List Stt := rs.foldl (addS e) [⟨b, e, none, []⟩]
def ph_stretches : List D → Nm → PV := fun ds _ => ⟨∃ (rs : List Row) (b e : Int), ds = [dR rs, .int b, .int e] ∧ rs.length ≤ 64, .lst ((strz (toRs (g0 ds)) (toI (g1 ds)) (toI (ds.getD 2 .non))).map sttD)⟩
inductive Wh | row (i : Int) | fill (l : Int)
def whD : Wh → D
  | .row i => .int i
  | .fill l => .tup [.str "fill", .int l]
structure En where
  a : Int
  b : Int
  w : Wh
def enD (e : En) : D := .tup [.int e.a, .int e.b, whD e.w]
abbrev dE (es : List En) : D := .lst (es.map enD)
def airR : Int → List Row → List En
  | _, [] => []
  | n, r :: rs => ⟨n, n + r.len, .row r.id⟩ :: airR (n + r.len) rs
def airF : Int → List Int → List En
  | _, [] => []
  | n, l :: ls => ⟨n, n + l, .fill l⟩ :: airF (n + l) ls
def endR (n : Int) (rs : List Row) : Int := n + (rs.map Row.len).sum
def fromS (s : Stt) : Int := match s.first with
  | some r => min s.last (s.start + r.len)
  | none => s.start
def headS (s : Stt) : List En := match s.first with
  | some r => [⟨s.start, min s.last (s.start + r.len), .row r.id⟩]
  | none => []
def layS (fs : List Int) : List Stt → List Row → List En × List Row
  | [], out => ([], out)
  | s :: ss, out =>
    let c := ch (out ++ s.some_) (s.last - fromS s)
    (headS s ++ airR (fromS s) c.1 ++ airF (endR (fromS s) c.1) (fill fs (s.last - endR (fromS s) c.1).toNat) ++ (layS fs ss c.2).1, (layS fs ss c.2).2)
def layD (rs : List Row) (fs : List Int) (b e : Int) : D := .tup [dE (layS fs (strz rs b e) []).1, dI ((layS fs (strz rs b e) []).2.map Row.id)]
def ph_lay : List D → Nm → PV := fun ds _ => ⟨∃ (rs : List Row) (fs : List Int) (b e : Int), ds = [dR rs, dU fs, .int b, .int e] ∧ ROk rs b e ∧ FOk fs, layD (toRs (g0 ds)) (toIs (g1 ds)) (toI (ds.getD 2 .non)) (toI (ds.getD 3 .non))⟩
def ph_laid : List D → Nm → PV := fun ds _ => ⟨∃ (rs : List Row) (fs : List Int) (b e : Int), ds = [dR rs, dU fs, .int b, .int e] ∧ ROk rs b e ∧ FOk fs ∧ rs.length ≤ 30, layD (toRs (g0 ds)) (toIs (g1 ds)) (toI (ds.getD 2 .non)) (toI (ds.getD 3 .non))⟩
def ph_law_chosen : List D → Nm → PV := ph_chosen
def ph_law_laid : List D → Nm → PV := ph_lay
def sp_law_rows : SpD := fun ds N Q _ => ∃ a d b e most, ds = [.ref a, .int b, .int e, .int most] ∧ N a = some ⟨true, d⟩ ∧ HSt d ∧ 0 ≤ b ∧ b < e ∧ e ≤ 900 ∧ 0 ≤ most ∧ most ≤ 30 ∧
  ∀ d' rs N', ROk rs b e → (rs.length : Int) ≤ most → HSt d' → (∀ z c, z ≠ a → N z = some c → N' z = some c) → N' a = some ⟨true, d'⟩ → Q (dR rs) N'
def Kept (a : Addr) (N N' : Nm) : Prop := ∀ z c, z ≠ a → N z = some c → N' z = some c
def ExtN (N N' : Nm) : Prop := ∀ z c, N z = some c → N' z = some c
def numS (i : Int) : Str := Str.ofString (toString i)
def wordsOf (r : Row) : List Str := [numS r.id, kindS r.live, numS r.len] ++ (match r.mo with | some m => [numS m] | none => [])
def lineS (r : Row) : Str := Txt.join " " (wordsOf r)
def textS (rs : List Row) : Str := Txt.join "\n" (rs.map lineS)
def rdI (s : Str) : Int := (PySem.intText? s).getD 0
def rdW (ws : List Str) : Row := ⟨rdI (ws.getD 0 ""), decide (ws.getD 1 "" = ("live" : Str)), rdI (ws.getD 2 ""), (ws[3]?).map rdI⟩
def rdT (t : Str) : List Row := if t = "" then [] else (Txt.split t "\n").map fun l => rdW (Txt.split l " ")
def ph_written : List D → Nm → PV := fun ds _ => ⟨∃ rs : List Row, ds = [dR rs] ∧ ROk rs 0 900 ∧ rs.length ≤ 30, .str (textS (toRs (g0 ds)))⟩
structure SOk (s : Str) (n : Nat) : Prop where
  ok : PyData.strOk s = true
  len : s.length ≤ n
def digB (n : Nat) : Bool := decide (n ∈ [48, 49, 50, 51, 52, 53, 54, 55, 56, 57])
def figB (s : Str) : Bool := decide (1 ≤ s.length) && decide (s.length ≤ 3) && s.cps.toList.all digB
def zerB (s : Str) : Bool := decide (s.cps.toList.head? = some 48) && !decide (s = "0")
def numO (s : Str) : Option Int := if figB s = true then (if zerB s = true then none else some (rdI s)) else none
def figO (s : Str) (lo hi : Int) : Option Int := (numO s).bind fun i => if lo ≤ i ∧ i ≤ hi then some i else none
def rowM (a b c : Str) (m : Option (Option Int)) : Option Row :=
  if kindB b = true then (figO a 0 99).bind fun i => (figO c 1 120).bind fun l => m.map fun mo => ⟨i, decide (b = ("live" : Str)), l, mo⟩ else none
def rowO : List Str → Option Row
  | [a, b, c] => rowM a b c (some none)
  | [a, b, c, d] => rowM a b c ((figO d 0 899).map some)
  | _ => none
def ph_number_of : List D → Nm → PV := fun ds _ => ⟨∃ s, ds = [.str s] ∧ SOk s 100000, moD (numO (toS (g0 ds)))⟩
def ph_law_figures : List D → Nm → PV := fun ds _ => ⟨∃ s lo hi, ds = [.str s, .int lo, .int hi] ∧ SOk s 100000, moD (figO (toS (g0 ds)) (toI (g1 ds)) (toI (ds.getD 2 .non)))⟩
def ph_row_of : List D → Nm → PV := fun ds _ => ⟨∃ ws : List Str, ds = [.lst (ws.map D.str)] ∧ ws.length ≤ 200000 ∧ ∀ w ∈ ws, SOk w 100000, frD (rowO ((toL (g0 ds)).map toS))⟩
def ph_law_row : List D → Nm → PV := fun ds _ => ⟨∃ s, ds = [.str s] ∧ SOk s 100000, frD (rowO (Txt.split (toS (g0 ds)) " "))⟩
def linesO (t : Str) : List (Option Row) := if t = "" then [] else (Txt.split t "\n").map fun l => rowO (Txt.split l " ")
def badAt : Nat → List (Option Row) → Option Nat
  | _, [] => none
  | n, none :: _ => some n
  | n, some _ :: os => badAt (n + 1) os
def sp_read (X : Str → Addr) : SpD := fun ds N Q E => ∃ t, ds = [.str t] ∧ SOk t 100000 ∧
  (badAt 0 (linesO t) = none → ∀ N', ExtN N N' → Q (.lst ((linesO t).map frD)) N') ∧ (∀ n, badAt 0 (linesO t) = some n → ∀ N', ExtN N N' → E ⟨X "BadText", some ("line", (n : Int))⟩ N')
def sp_law_spoilt : SpD := fun ds N Q _ => ∃ h d t, ds = [.ref h, .str t] ∧ N h = some ⟨true, d⟩ ∧ HSt d ∧ SOk t 30000 ∧ ∀ t' d' N', SOk t' (5 * t.length + 20) → HSt d' → N' h = some ⟨true, d'⟩ → Kept h N N' → Q (.str t') N'
end K14
set_option maxHeartbeats 4000000
namespace K14
open PySem L2 DL
theorem getD_list {α : Type} {a : α} : ∀ {xs : List α} {n : Nat}, n < xs.length → xs[n]? = some (xs.getD n a) := by
  intro xs n h
  rw [List.getElem?_eq_getElem h, List.getD_eq_getElem?_getD, List.getElem?_eq_getElem h]; rfl
theorem FOk.pos {fs : List Int} (h : FOk fs) : ∀ l ∈ fs, 1 ≤ l := by
  obtain ⟨h1, h2, h3, h4⟩ := h
  cases fs with
  | nil => simp at h1
  | cons x xs =>
    simp at h1; subst h1
    intro l hl
    rcases List.mem_cons.mp hl with rfl | hl
    · omega
    · have := (List.pairwise_cons.mp h3).1 l hl; omega
theorem FOk.one_mem {fs : List Int} (h : FOk fs) : (1 : Int) ∈ fs := by
  cases fs with
  | nil => have := h.one; simp at this
  | cons x xs => have := h.one; simp at this; subst this; simp
theorem cntL_length (fs : List Int) : ∀ n, (cntL fs n).length = n + 1
  | 0 => rfl
  | n + 1 => by rw [cntL, List.length_append, cntL_length fs n]; rfl
theorem cntL_get {fs : List Int} {k : Nat} {i : Int} (h0 : 0 ≤ i) (h : i ≤ k) : atI ((cntL fs k).map D.int) i = some (.int ((cntL fs k).getD i.toNat 0)) := by
  rw [atI_map, atI_nn h0, getD_list (a := 0) (by rw [cntL_length]; omega)]; rfl
theorem cntL_pre {fs : List Int} {r : Nat} : ∀ {n : Nat}, r ≤ n → (cntL fs n).getD r 0 = cnt fs r
  | 0, h => by have : r = 0 := by omega
               subst this; rfl
  | n + 1, h => by
    by_cases e : r = n + 1
    · subst e; rfl
    · have ih := cntL_pre (fs := fs) (r := r) (n := n) (by omega)
      rw [cntL, List.getD_eq_getElem?_getD, List.getElem?_append_left (by rw [cntL_length]; omega), ← List.getD_eq_getElem?_getD, ih]
theorem cnt_zero {fs : List Int} : cnt fs 0 = 0 := rfl
theorem cnt_succ {fs : List Int} (hf : FOk fs) (n : Nat) : cnt fs (n + 1) = 1 + minI ((fs.filter fun l => decide (l ≤ (n : Int) + 1)).map fun l => cnt fs (n + 1 - l.toNat)) := by
  have e : (cntL fs (n + 1)).getD (n + 1) 0 = 1 + minI ((fs.filter fun l => decide (l ≤ (n : Int) + 1)).map fun l => (cntL fs n).getD (n + 1 - l.toNat) 0) := by
    rw [cntL, List.getD_eq_getElem?_getD, List.getElem?_append_right (by rw [cntL_length]; omega), cntL_length]; simp
  unfold cnt at e ⊢
  rw [e]
  congr 2
  refine List.map_congr_left fun l hl => ?_
  have := hf.pos l (List.mem_filter.mp hl).1
  rw [cntL_pre (by omega)]; rfl
theorem nonempty {fs : List Int} (hf : FOk fs) (n : Nat) : ((fs.filter fun l => decide (l ≤ (n : Int) + 1)).map fun l => cnt fs (n + 1 - l.toNat)) ≠ [] := fun z => by
  have := List.map_eq_nil_iff.mp z
  have h1 := List.filter_eq_nil_iff.mp this 1 hf.one_mem
  simp at h1; omega
theorem cnt_le {fs : List Int} (hf : FOk fs) {n : Nat} {l : Int} (hl : l ∈ fs) (h : l ≤ n) : cnt fs n ≤ 1 + cnt fs (n - l.toNat) := by
  have := hf.pos l hl
  cases n with
  | zero => omega
  | succ n =>
    rw [cnt_succ hf n]
    have := (minI_spec (nonempty hf n)).2 (cnt fs (n + 1 - l.toNat)) (List.mem_map.mpr ⟨l, List.mem_filter.mpr ⟨hl, by simp; omega⟩, rfl⟩)
    omega
theorem some_spec {fs : List Int} (hf : FOk fs) {n : Nat} (hn : 0 < n) : some_ fs n ≠ [] := by
  obtain ⟨n, rfl⟩ : ∃ k, n = k + 1 := ⟨n - 1, by omega⟩
  have h := (minI_spec (nonempty hf n)).1
  obtain ⟨l, hl, e⟩ := List.mem_map.mp h
  obtain ⟨h1, h2⟩ := List.mem_filter.mp hl
  have h2 := of_decide_eq_true h2
  have e2 := cnt_succ hf n
  refine List.ne_nil_of_mem (a := l) (List.mem_filter.mpr ⟨h1, ?_⟩)
  simp; exact ⟨by omega, by omega⟩
def mx (fs : List Int) (n : Nat) : Int := maxI (some_ fs n)
theorem mx_mem {fs : List Int} (hf : FOk fs) {n : Nat} (hn : 0 < n) : mx fs n ∈ fs ∧ 1 ≤ mx fs n ∧ mx fs n ≤ n ∧ cnt fs (n - (mx fs n).toNat) = cnt fs n - 1 ∧ ∀ l ∈ some_ fs n, l ≤ mx fs n := by
  obtain ⟨h1, h2⟩ := maxI_spec (some_spec hf hn)
  obtain ⟨h3, h4⟩ := List.mem_filter.mp h1
  simp at h4
  exact ⟨h3, hf.pos _ h3, h4.1, h4.2, h2⟩
theorem fillG_fuel {fs : List Int} (hf : FOk fs) : ∀ (k k' n : Nat), n ≤ k → n ≤ k' → fillG fs k n = fillG fs k' n
  | k, k', 0, _, _ => by cases k <;> cases k' <;> simp [fillG]
  | 0, _, n + 1, h, _ => by omega
  | _, 0, n + 1, _, h => by omega
  | k + 1, k' + 1, n + 1, h, h' => by
    obtain ⟨_, h1, h2, _⟩ := mx_mem hf (n := n + 1) (by omega)
    simp only [fillG]
    rw [fillG_fuel hf k k' _ (by have : mx fs (n + 1) = maxI (some_ fs (n + 1)) := rfl; omega) (by have : mx fs (n + 1) = maxI (some_ fs (n + 1)) := rfl; omega)]
theorem fill_zero {fs : List Int} : fill fs 0 = [] := rfl
theorem fill_pos {fs : List Int} (hf : FOk fs) {n : Nat} (hn : 0 < n) : fill fs n = mx fs n :: fill fs (n - (mx fs n).toNat) := by
  obtain ⟨n, rfl⟩ : ∃ k, n = k + 1 := ⟨n - 1, by omega⟩
  obtain ⟨_, h1, h2, _⟩ := mx_mem hf (n := n + 1) (by omega)
  unfold fill
  simp only [fillG]
  rw [fillG_fuel hf n (n + 1 - (mx fs (n + 1)).toNat) _ (by have : mx fs (n + 1) = maxI (some_ fs (n + 1)) := rfl; omega) (by have : mx fs (n + 1) = maxI (some_ fs (n + 1)) := rfl; omega)]
  rfl
theorem fill_facts {fs : List Int} (hf : FOk fs) : ∀ (k n : Nat), n ≤ k → ((fill fs n).length : Int) = cnt fs n ∧ (∀ x ∈ fill fs n, x ∈ fs) ∧ (fill fs n).sum = n
  | k, 0, _ => by simp [fill_zero, cnt_zero]
  | 0, n + 1, h => by omega
  | k + 1, n + 1, h => by
    obtain ⟨h0, h1, h2, h3, _⟩ := mx_mem hf (n := n + 1) (by omega)
    obtain ⟨i1, i2, i3⟩ := fill_facts hf k (n + 1 - (mx fs (n + 1)).toNat) (by omega)
    rw [fill_pos hf (by omega)]
    refine ⟨by simp; omega, fun x hx => ?_, by simp; omega⟩
    rcases List.mem_cons.mp hx with rfl | hx
    · exact h0
    · exact i2 x hx
theorem sum_nn {fs : List Int} (hf : FOk fs) : ∀ {xs : List Int}, (∀ x ∈ xs, x ∈ fs) → 0 ≤ xs.sum
  | [], _ => by simp
  | x :: xs, h => by
    have := hf.pos x (h x (by simp))
    have := sum_nn hf (xs := xs) fun y hy => h y (by simp [hy])
    simp; omega
theorem cnt_min {fs : List Int} (hf : FOk fs) : ∀ {xs : List Int} {n : Nat}, (∀ x ∈ xs, x ∈ fs) → xs.sum = n → cnt fs n ≤ xs.length
  | [], n, _, h => by have : n = 0 := by simpa using h.symm
                      subst this; simp [cnt_zero]
  | x :: xs, n, h, e => by
    have h1 := hf.pos x (h x (by simp))
    have h2 := sum_nn hf (xs := xs) fun y hy => h y (by simp [hy])
    simp at e
    have ih := cnt_min hf (xs := xs) (n := n - x.toNat) (fun y hy => h y (by simp [hy])) (by omega)
    have := cnt_le hf (n := n) (h x (by simp)) (by omega)
    simp; omega
theorem erase_sum {x : Int} : ∀ {xs : List Int}, x ∈ xs → (xs.erase x).sum = xs.sum - x ∧ (xs.erase x).length + 1 = xs.length
  | [], h => by simp at h
  | y :: ys, h => by
    by_cases e : y = x
    · subst e; simp; omega
    · rw [List.erase_cons_tail (by simpa using e)]
      have hx : x ∈ ys := by rcases List.mem_cons.mp h with h | h; exact absurd h.symm e; exact h
      obtain ⟨i1, i2⟩ := erase_sum hx
      simp; omega
theorem cand {fs : List Int} (hf : FOk fs) {xs : List Int} {n : Nat} (h : ∀ x ∈ xs, x ∈ fs) (e : xs.sum = n) (k : (xs.length : Int) = cnt fs n) {x : Int} (hx : x ∈ xs) : x ∈ some_ fs n := by
  obtain ⟨e1, e2⟩ := erase_sum hx
  have hs := sum_nn hf (xs := xs.erase x) fun y hy => h y (List.mem_of_mem_erase hy)
  have h1 := hf.pos x (h x hx)
  have := cnt_min hf (xs := xs.erase x) (n := n - x.toNat) (fun y hy => h y (List.mem_of_mem_erase hy)) (by omega)
  have := cnt_le hf (n := n) (h x hx) (by omega)
  refine List.mem_filter.mpr ⟨h x hx, ?_⟩
  simp; omega
theorem fill_desc {fs : List Int} (hf : FOk fs) : ∀ (k n : Nat), n ≤ k → (fill fs n).Pairwise (· ≥ ·)
  | k, 0, _ => by simp [fill_zero]
  | 0, n + 1, h => by omega
  | k + 1, n + 1, h => by
    obtain ⟨h0, h1, h2, h3, h4⟩ := mx_mem hf (n := n + 1) (by omega)
    obtain ⟨i1, i2, i3⟩ := fill_facts hf (n + 1) (n + 1) (by omega)
    have ih := fill_desc hf k (n + 1 - (mx fs (n + 1)).toNat) (by omega)
    rw [fill_pos hf (by omega)] at i1 i2 i3 ⊢
    exact List.pairwise_cons.mpr ⟨fun x hx => h4 x (cand hf i2 i3 i1 (by simp [hx])), ih⟩
theorem fill_max {fs : List Int} (hf : FOk fs) : ∀ {xs : List Int} {n : Nat}, (∀ x ∈ xs, x ∈ fs) → xs.sum = n → (xs.length : Int) = cnt fs n → ¬ fill fs n < xs
  | [], n, _, _, _ => List.not_lt_nil _
  | x :: xs, n, h, e, k => by
    have h1 := hf.pos x (h x (by simp))
    have h2 := sum_nn hf (xs := xs) fun y hy => h y (by simp [hy])
    simp at e
    obtain ⟨g0, g1, g2, g3, g4⟩ := mx_mem hf (n := n) (by omega)
    have hx := g4 x (cand hf h (by simpa using e) k (by simp))
    rw [fill_pos hf (by omega), List.cons_lt_cons_iff]
    rintro (c | ⟨c1, c2⟩)
    · omega
    · simp at k
      subst c1
      exact fill_max hf (xs := xs) (n := n - (mx fs n).toNat) (fun y hy => h y (by simp [hy])) (by omega) (by omega) c2
theorem sum_perm {xs ys : List Int} (p : xs.Perm ys) : xs.sum = ys.sum := by
  induction p with
  | nil => rfl
  | cons x _ ih => simp [ih]
  | swap x y l => simp; omega
  | trans _ _ i1 i2 => rw [i1, i2]
theorem sortR_perm {xs : List Int} : (sortR xs).Perm xs := (List.reverse_perm _).trans (sortI_perm xs)
theorem sortR_id {xs : List Int} (h : xs.Pairwise (· ≥ ·)) : sortR xs = xs := by
  have : xs.reverse = sortI xs := sortI_of (List.reverse_perm xs) (List.pairwise_reverse.mpr h)
  unfold sortR; rw [← this, List.reverse_reverse]
theorem maxL_of {g : List Int} : ∀ {ys : List (List Int)} {a : List Int}, g ∈ a :: ys → (∀ x ∈ a :: ys, ¬ g < x) → maxL a ys = g
  | [], a, h, k => by simp at h; exact h.symm
  | y :: ys, a, h, k => by
    have step : maxL a (y :: ys) = maxL (if a < y then y else a) ys := rfl
    rw [step]
    refine maxL_of ?_ fun x hx => ?_
    · rcases List.mem_cons.mp h with rfl | h
      · rw [if_neg (k y (by simp))]; simp
      · rcases List.mem_cons.mp h with rfl | h
        · by_cases c : a < g
          · rw [if_pos c]; simp
          · rw [if_neg c]
            have : a = g := List.le_antisymm (fun z => k a (by simp) z) (fun z => c z)
            rw [this]; simp
        · simp [h]
    · rcases List.mem_cons.mp hx with rfl | hx
      · by_cases c : a < y
        · rw [if_pos c]; exact k y (by simp)
        · rw [if_neg c]; exact k a (by simp)
      · exact k x (by simp [hx])
theorem maxLs_of {g : List Int} {xs : List (List Int)} (h : g ∈ xs) (k : ∀ x ∈ xs, ¬ g < x) : maxLs xs = g := by
  cases xs with
  | nil => simp at h
  | cons a ys => exact maxL_of h k
theorem bestL_length (fs : List Int) : ∀ n, (bestL fs n).length = n + 1
  | 0 => rfl
  | n + 1 => by rw [bestL, List.length_append, bestL_length fs n]; rfl
theorem bestL_pre {fs : List Int} {r : Nat} : ∀ {n : Nat}, r ≤ n → (bestL fs n).getD r [] = best fs r
  | 0, h => by have : r = 0 := by omega
               subst this; rfl
  | n + 1, h => by
    by_cases e : r = n + 1
    · subst e; rfl
    · have ih := bestL_pre (fs := fs) (r := r) (n := n) (by omega)
      rw [bestL, List.getD_eq_getElem?_getD, List.getElem?_append_left (by rw [bestL_length]; omega), ← List.getD_eq_getElem?_getD, ih]
def smL (fs : List Int) (n : Nat) : List (List Int) := (fs.filter fun l => decide (l ≤ (n : Int) + 1)).map fun l => l :: (bestL fs n).getD (n + 1 - l.toNat) []
theorem best_succ (fs : List Int) (n : Nat) : best fs (n + 1) = maxLs (((smL fs n).filter fun z => decide ((z.length : Int) = minI ((smL fs n).map fun z => (z.length : Int)))).map sortR) := by
  unfold best
  rw [bestL, List.getD_eq_getElem?_getD, List.getElem?_append_right (by rw [bestL_length]; omega), bestL_length, Nat.sub_self]; rfl
theorem best_fill {fs : List Int} (hf : FOk fs) : ∀ (k n : Nat), n ≤ k → best fs n = fill fs n
  | k, 0, _ => rfl
  | 0, n + 1, h => by omega
  | k + 1, n + 1, h => by
    have ih : ∀ r, r ≤ n → best fs r = fill fs r := fun r hr => best_fill hf k r (by omega)
    obtain ⟨g0, g1, g2, g3, g4⟩ := mx_mem hf (n := n + 1) (by omega)
    have sm : ∀ z ∈ smL fs n, (∀ x ∈ z, x ∈ fs) ∧ z.sum = (n + 1 : Nat) ∧ cnt fs (n + 1) ≤ z.length := fun z hz => by
      obtain ⟨l, hl, rfl⟩ := List.mem_map.mp hz
      obtain ⟨h1, h2⟩ := List.mem_filter.mp hl
      have h2 := of_decide_eq_true h2
      have h3 := hf.pos l h1
      rw [bestL_pre (by omega), ih _ (by omega)]
      obtain ⟨i1, i2, i3⟩ := fill_facts hf _ (n + 1 - l.toNat) (Nat.le_refl _)
      have i4 : ∀ x ∈ l :: fill fs (n + 1 - l.toNat), x ∈ fs := fun x hx => by
        rcases List.mem_cons.mp hx with rfl | hx
        · exact h1
        · exact i2 x hx
      have i5 : (l :: fill fs (n + 1 - l.toNat)).sum = (n + 1 : Nat) := by simp; omega
      exact ⟨i4, i5, cnt_min hf i4 i5⟩
    obtain ⟨i1, i2, i3⟩ := fill_facts hf _ (n + 1) (Nat.le_refl _)
    have hm : fill fs (n + 1) ∈ smL fs n := by
      refine List.mem_map.mpr ⟨mx fs (n + 1), List.mem_filter.mpr ⟨g0, by simp; omega⟩, ?_⟩
      rw [bestL_pre (by omega), ih _ (by omega), ← fill_pos hf (by omega)]
    have few : cnt fs (n + 1) = minI ((smL fs n).map fun z => (z.length : Int)) := by
      refine minI_of (List.mem_map.mpr ⟨_, hm, i1⟩) fun y hy => ?_
      obtain ⟨z, hz, rfl⟩ := List.mem_map.mp hy
      exact (sm z hz).2.2
    rw [best_succ, ← few]
    refine maxLs_of (List.mem_map.mpr ⟨_, List.mem_filter.mpr ⟨hm, by simpa using i1⟩, sortR_id (fill_desc hf _ _ (Nat.le_refl _))⟩) fun x hx => ?_
    obtain ⟨z, hz, rfl⟩ := List.mem_map.mp hx
    obtain ⟨z1, z2⟩ := List.mem_filter.mp hz
    have z2 := of_decide_eq_true z2
    obtain ⟨j1, j2, _⟩ := sm z z1
    have p := sortR_perm (xs := z)
    exact fill_max hf (fun x hx => j1 x (p.mem_iff.mp hx)) (by rw [sum_perm p, j2]) (by rw [p.length_eq, z2])
theorem len_le_sum {fs : List Int} (hf : FOk fs) : ∀ {xs : List Int}, (∀ x ∈ xs, x ∈ fs) → (xs.length : Int) ≤ xs.sum
  | [], _ => by simp
  | x :: xs, h => by
    have := hf.pos x (h x (by simp))
    have := len_le_sum hf (xs := xs) fun y hy => h y (by simp [hy])
    simp; omega
theorem fill_len {fs : List Int} (hf : FOk fs) (n : Nat) : (fill fs n).length ≤ n := by
  obtain ⟨_, h2, h3⟩ := fill_facts hf n n (Nat.le_refl _)
  have := len_le_sum hf h2
  omega
theorem bestL_at {fs : List Int} {k : Nat} {i : Int} (h0 : 0 ≤ i) (h : i ≤ k) : atI ((bestL fs k).map fun z => D.tup (z.map D.int)) i = some (dU ((bestL fs k).getD i.toNat [])) := by
  rw [atI_map, atI_nn h0, getD_list (a := []) (by rw [bestL_length]; omega)]; rfl
end K14
set_option maxHeartbeats 4000000
namespace K14
open PySem L2 DL
structure Bi (mg : Str → Option Value) : Prop where
  b_ValueError : mg "ValueError" = none
  b_bool : mg "bool" = none
  b_enumerate : mg "enumerate" = none
  b_int : mg "int" = none
  b_isinstance : mg "isinstance" = none
  b_len : mg "len" = none
  b_list : mg "list" = none
  b_max : mg "max" = none
  b_range : mg "range" = none
  b_set : mg "set" = none
  b_sorted : mg "sorted" = none
  b_str : mg "str" = none
  b_tuple : mg "tuple" = none
  c_CLIP : ∃ t, mg "CLIP" = some (.str "clip" t)
  c_FIGURES : ∃ t, mg "FIGURES" = some (.str "0123456789" t)
  c_LAST_MOMENT : ∃ t, mg "LAST_MOMENT" = some (.int 899 t)
  c_LIVE : ∃ t, mg "LIVE" = some (.str "live" t)
  c_MOST_END : ∃ t, mg "MOST_END" = some (.int 900 t)
  c_MOST_FIGURES : ∃ t, mg "MOST_FIGURES" = some (.int 3 t)
  c_MOST_ID : ∃ t, mg "MOST_ID" = some (.int 99 t)
  c_MOST_LENGTH : ∃ t, mg "MOST_LENGTH" = some (.int 120 t)
  c_MOST_ROWS : ∃ t, mg "MOST_ROWS" = some (.int 30 t)
abbrev xNames : List Str := []
structure Co_X (K : PySem.W.Frag) (mg : Str → Option Value) (C : Str → Addr) : Prop where
  g_AirError : mg "AirError" = some (.ref (C "AirError"))
  m_AirError : ∀ s ∈ xNames, PySem.W.exmOne K (.ref (C s)) (.ref (C "AirError")) = some true
  own : OwnInit K (C "AirError")
  gl_BadText : mg "BadText" = some (.ref (C "BadText"))
  v_BadText : VxC K (C "BadText") "line"
section
variable {P : Program} {w : World} {K : PySem.W.Frag} {mg : Str → Option Value} {base : Heap}
variable {C_X : Str → Addr}

abbrev n_BadText_init : List Str := ["self", "line"]
theorem sc_BadText_init : FnScope n_BadText_init ["self", "line"] (defScope s_BadText_init) := ⟨rfl, rfl, rfl, by decide +kernel, rfl, by decide +kernel, by decide +kernel⟩

abbrev n_is_number : List Str := ["part", "low", "high"]
theorem sc_is_number : FnScope n_is_number ["part", "low", "high"] (defScope s_is_number) := ⟨rfl, rfl, rfl, by decide +kernel, rfl, by decide +kernel, by decide +kernel⟩
def w_is_number : WS := (sRetF (pAnd (pIsi "int" (pDr (pVar 0))) (pAnd (pNot (pIsi "bool" (pDr (pVar 0)))) (pChain (fun i j => decide (i ≤ j)) (fun i j => decide (i ≤ j)) (pDr (pVar 1)) (pDr (pVar 0)) (pDr (pVar 2))))))
theorem d_is_number {f : Addr} {cdv : Value} {A : Around} {outer : List Env} {s : Shared} {H : Hp} {E : XK} (B : Bi mg) (hr : Room 0 (A.deeper (PyProof.Rows.envOfC "is_number" (defScope s_is_number) s.heap.objs.size f cdv))) (O_X : Co_X K mg C_X) :
    DSs (cxOf (L2.CX P w) P w K mg base n_is_number "is_number" (defScope s_is_number) f cdv A outer s H E) E0 true (defBody s_is_number) (w_is_number) := by
  exact (dss_one (ds_retF (dp_and (c := .frs) (dp_isi (c := .any) kit_int (by rfl) B.b_isinstance (by rfl) B.b_int (by decide +kernel) (dp_dr (dp_va 0))) (dp_and (c := .any) (dp_not (c := .any) (dp_isi (c := .any) kit_bool (by rfl) B.b_isinstance (by rfl) B.b_bool (by decide +kernel) (dp_dr (dp_va 0)))) (dp_one (c := .any) (dp_chain (c := .any) (p := fun i j => decide (i ≤ j)) (p' := fun i j => decide (i ≤ j)) op_le op_le (dp_dr (dp_va 1)) (dp_dr (dp_va 0)) (dp_dr (dp_va 2)) (pe_chain op_le op_le (dp_dr (dp_va 1)) (dp_dr (dp_va 0)) (dp_dr (dp_va 2)))))))))

abbrev n_is_row : List Str := ["row"]
theorem sc_is_row : FnScope n_is_row ["row"] (defScope s_is_row) := ⟨rfl, rfl, rfl, by decide +kernel, rfl, by decide +kernel, by decide +kernel⟩
def w_is_row : WS := (sSeq (sIf (wT (tOr2 (tNot1 (tOf (pIsi "tuple" (pDr (pVar 0))))) (tOr2 (tc2 (neT 8) (p1 lenD (pDr (pVar 0))) (pInt 4)) (tc2 (inT true) (p2 ixQ (pDr (pVar 0)) (pInt 1)) (pTup (aCons (pStr "clip") (aCons (pStr "live") aNil))))))) (sRetF (pBl false)) sNext)
    (sSeq (sIf (wT (tOr2 (tNot1 (tOf (pCall 3 ph_is_number (aCons (p2 ixQ (pDr (pVar 0)) (pInt 0)) (aCons (pInt 0) (aCons (pInt 99) aNil)))))) (tNot1 (tOf (pCall 3 ph_is_number (aCons (p2 ixQ (pDr (pVar 0)) (pInt 2)) (aCons (pInt 1) (aCons (pInt 120) aNil)))))))) (sRetF (pBl false)) sNext)
    (sRetF (pOr (pIsN (p2 ixQ (pDr (pVar 0)) (pInt 3))) (pCall 3 ph_is_number (aCons (p2 ixQ (pDr (pVar 0)) (pInt 3)) (aCons (pInt 0) (aCons (pInt 900) aNil))))))))
theorem d_is_row {f : Addr} {cdv : Value} {A : Around} {outer : List Env} {s : Shared} {H : Hp} {E : XK} (B : Bi mg) (hr : Room 1 (A.deeper (PyProof.Rows.envOfC "is_row" (defScope s_is_row) s.heap.objs.size f cdv))) (O_X : Co_X K mg C_X) (h_is_number : Has P w K mg base "is_number" 1 ["part", "low", "high"] (spP 3 ph_is_number)) :
    DSs (cxOf (L2.CX P w) P w K mg base n_is_row "is_row" (defScope s_is_row) f cdv A outer s H E) E0 true (defBody s_is_row) (w_is_row) := by
  exact (dss_cons (ds_if (dte_t (DW.dt (dw_or (dt_not (dt_val (dp_isi (c := .any) kit_tuple (by rfl) B.b_isinstance (by rfl) B.b_tuple (by decide +kernel) (dp_dr (dp_va 0))))) (dw_or (dt_ne hr.units (dp_len (c := .any) (by rfl) B.b_len (dp_dr (dp_va 0))) (dp_int (c := .any))) (dw_or1 (dt_notIn (dp_ix (c := .any) (dp_dr (dp_va 0)) (dp_int (c := .any))) (dp_tup (c := .any) (da_cons (dp_gstr (c := .any) (by rfl) B.c_CLIP) (da_cons (dp_gstr (c := .any) (by rfl) B.c_LIVE) (da_nil (c := .any))))))))))) (dss_one (ds_retF (dp_bl (c := .frs)))) dss_nil)
    (dss_cons (ds_if (dte_t (DW.dt (dw_or (dt_not (dt_val (dp_call (c := .any) h_is_number (hr.mono (by decide)) (by rfl) (da_cons (dp_ix (c := .any) (dp_dr (dp_va 0)) (dp_int (c := .any))) (da_cons (dp_int (c := .any)) (da_cons (dp_gint (c := .any) (by rfl) B.c_MOST_ID) (da_nil (c := .any)))))))) (dw_or1 (dt_not (dt_val (dp_call (c := .any) h_is_number (hr.mono (by decide)) (by rfl) (da_cons (dp_ix (c := .any) (dp_dr (dp_va 0)) (dp_int (c := .any))) (da_cons (dp_int (c := .any)) (da_cons (dp_gint (c := .any) (by rfl) B.c_MOST_LENGTH) (da_nil (c := .any)))))))))))) (dss_one (ds_retF (dp_bl (c := .frs)))) dss_nil)
    (dss_one (ds_retF (dp_or (c := .frs) (dp_isN (c := .any) (dp_ix (c := .any) (dp_dr (dp_va 0)) (dp_int (c := .any)))) (dp_one (c := .any) (dp_call (c := .any) h_is_number (hr.mono (by decide)) (by rfl) (da_cons (dp_ix (c := .any) (dp_dr (dp_va 0)) (dp_int (c := .any))) (da_cons (dp_int (c := .any)) (da_cons (dp_gint (c := .any) (by rfl) B.c_MOST_END) (da_nil (c := .any))))))))))))

abbrev n_need_rows : List Str := ["rows", "begin", "end", "ids", "least", "at", "row"]
theorem sc_need_rows : FnScope n_need_rows ["rows", "begin", "end"] (defScope s_need_rows) := ⟨rfl, rfl, rfl, by decide +kernel, rfl, by decide +kernel, by decide +kernel⟩
def w_need_rows : WS := (sSeq (sSetM 3 (pLst aNil))
    (sSeq (sSet 4 (wP (pVar 1)))
    (sFor (wA (iR1 (p1 lenD (pDr (pVar 0))))) (gN 5) (sSeq (sSet 6 (wP (pLf (p2 ixQ (pDr (pVar 0)) (pDr (pVar 5))))))
    (sSeq (sIf (wT (tOr2 (tc2 cGe (pDr (pVar 5)) (pInt 30)) (tOr2 (tNot1 (tOf (pCall 1 ph_is_row (aCons (pDr (pVar 6)) aNil)))) (tc2 (inT false) (p2 ixQ (pDr (pVar 6)) (pInt 0)) (pDr (pVar 3)))))) (fun _ _ _ => False) sNext)
    (sSeq (sIf (wT (tNotN (p2 ixQ (pDr (pVar 6)) (pInt 3)))) (sSeq (sIf (wT (tNot1 (tChn (fun i j => decide (i ≤ j)) (fun i j => decide (i < j)) (pDr (pVar 4)) (p2 ixQ (pDr (pVar 6)) (pInt 3)) (pDr (pVar 2))))) (fun _ _ _ => False) sNext)
    (sSet 4 (wP (p2 bAddI (p2 ixQ (pDr (pVar 6)) (pInt 3)) (pInt 1))))) sNext)
    (sApp (lV 3) (pLf (p2 ixQ (pDr (pVar 6)) (pInt 0))))))))))
theorem d_need_rows {f : Addr} {cdv : Value} {A : Around} {outer : List Env} {s : Shared} {H : Hp} {E : XK} (B : Bi mg) (hr : Room 2 (A.deeper (PyProof.Rows.envOfC "need_rows" (defScope s_need_rows) s.heap.objs.size f cdv))) (O_X : Co_X K mg C_X) (h_is_row : Has P w K mg base "is_row" 2 ["row"] (spP 1 ph_is_row)) :
    DSs (cxOf (L2.CX P w) P w K mg base n_need_rows "need_rows" (defScope s_need_rows) f cdv A outer s H E) E0 true (defBody s_need_rows) (w_need_rows) := by
  exact (dss_cons (ds_setM (i := 3) sc_need_rows.nd rfl (by first | exact Or.inl rfl | exact Or.inr rfl) (dp_lst (c := .frs) (da_nil (c := .frs))))
    (dss_cons (ds_set (i := 4) sc_need_rows.nd rfl (by first | exact Or.inl rfl | exact Or.inr rfl) (de_p (dp_vc 1)))
    (dss_one (ds_for (passes_of rfl) rfl (die_p (di_range1 (c := .cln) (by rfl) B.b_range (dp_len (c := .any) (by rfl) B.b_len (dp_dr (dp_va 0))))) (dg_name (i := 5) sc_need_rows.nd rfl (by first | exact Or.inl rfl | exact Or.inr rfl)) (dss_cons (ds_set (i := 6) sc_need_rows.nd rfl (by first | exact Or.inl rfl | exact Or.inr rfl) (de_p (dp_lf (c := .cln) (dp_ix (dp_dr (dp_va 0)) (dp_dr (dp_va 5))))))
    (dss_cons (ds_if (dte_t (DW.dt (dw_or (dt_ge (dp_dr (dp_va 5)) (dp_gint (c := .any) (by rfl) B.c_MOST_ROWS)) (dw_or (dt_not (dt_val (dp_call (c := .any) h_is_row (hr.mono (by decide)) (by rfl) (da_cons (dp_dr (dp_va 6)) (da_nil (c := .any)))))) (dw_or1 (dt_in (dp_ix (c := .any) (dp_dr (dp_va 6)) (dp_int (c := .any))) (dp_dr (dp_va 3)))))))) (dss_one ds_never) dss_nil)
    (dss_cons (ds_if (dte_t (dt_notN (dp_ix (c := .any) (dp_dr (dp_va 6)) (dp_int (c := .any))))) (dss_cons (ds_if (dte_t (dt_not (dt_chain (p := fun i j => decide (i ≤ j)) (p' := fun i j => decide (i < j)) op_le op_lt (dp_dr (dp_va 4)) (dp_ix (c := .any) (dp_dr (dp_va 6)) (dp_int (c := .any))) (dp_dr (dp_va 2))))) (dss_one ds_never) dss_nil)
    (dss_one (ds_set (i := 4) sc_need_rows.nd rfl (by first | exact Or.inl rfl | exact Or.inr rfl) (de_p (dp_addI (c := .cln) (dp_ix (c := .any) (dp_dr (dp_va 6)) (dp_int (c := .any))) (dp_int (c := .any))))))) dss_nil)
    (dss_one (ds_app (pl_var 3) (dp_lf (c := .frs) (dp_ix (dp_dr (dp_va 6)) (dp_int (c := .any)))) (hbm := pe_bm PySem.F.plainAttrs_list PySem.F.slot_list_append PySem.F.type_list_append mt_append (pl_var 3) (pa_cons (dp_lf (c := .frs) (dp_ix (dp_dr (dp_va 6)) (dp_int (c := .any)))) pa_nil)))))))))))

abbrev n_written : List Str := ["rows", "found", "number", "kind", "length", "moment", "words"]
theorem sc_written : FnScope n_written ["rows"] (defScope s_written) := ⟨rfl, rfl, rfl, by decide +kernel, rfl, by decide +kernel, by decide +kernel⟩
def w_written : WS := (sSeq (sDrop (wP (pCall 3 ph_need_rows (aCons (pDr (pVar 0)) (aCons (pInt 0) (aCons (p2 bAddI (pInt 899) (pInt 1)) aNil))))))
    (sSeq (sSetM 1 (pLst aNil))
    (sSeq (sFor (wA (iL (pVar 0))) (gT 4 (gC (gN 2) (gC (gN 3) (gC (gN 4) (gC (gN 5) gNl))))) (sSeq (sSet 6 (wP (p2 catL (pLst (aCons (p1 strD (pDr (pVar 2))) (aCons (pVar 3) (aCons (p1 strD (pDr (pVar 4))) aNil)))) (pIf (tNotN (pDr (pVar 5))) (pLst (aCons (p1 strD (pDr (pVar 5))) aNil)) (pLst aNil)))))
    (sApp (lV 1) (p2 joinD (pStr " ") (pDr (pVar 6))))))
    (sRetF (p2 joinD (pStr "\n") (pDr (pVar 1)))))))
theorem d_written {f : Addr} {cdv : Value} {A : Around} {outer : List Env} {s : Shared} {H : Hp} {E : XK} (B : Bi mg) (hr : Room 3 (A.deeper (PyProof.Rows.envOfC "written" (defScope s_written) s.heap.objs.size f cdv))) (O_X : Co_X K mg C_X) (h_need_rows : Has P w K mg base "need_rows" 3 ["rows", "begin", "end"] (spP 3 ph_need_rows)) :
    DSs (cxOf (L2.CX P w) P w K mg base n_written "written" (defScope s_written) f cdv A outer s H E) E0 true (defBody s_written) (w_written) := by
  exact (dss_cons (ds_expr (de_p (dp_call (c := .cln) h_need_rows (hr.mono (by decide)) (by rfl) (da_cons (dp_dr (dp_va 0)) (da_cons (dp_int (c := .any)) (da_cons (dp_addI (c := .any) (dp_gint (c := .any) (by rfl) B.c_LAST_MOMENT) (dp_int (c := .any))) (da_nil (c := .any))))))))
    (dss_cons (ds_setM (i := 1) sc_written.nd rfl (by first | exact Or.inl rfl | exact Or.inr rfl) (dp_lst (c := .frs) (da_nil (c := .frs))))
    (dss_cons (ds_for (passes_of rfl) rfl (die_p (di_list (dp_vc 0))) (dg_tup (n := 4) rfl (dgs_cons (dg_name (i := 2) sc_written.nd rfl (by first | exact Or.inl rfl | exact Or.inr rfl)) (dgs_cons (dg_name (i := 3) sc_written.nd rfl (by first | exact Or.inl rfl | exact Or.inr rfl)) (dgs_cons (dg_name (i := 4) sc_written.nd rfl (by first | exact Or.inl rfl | exact Or.inr rfl)) (dgs_cons (dg_name (i := 5) sc_written.nd rfl (by first | exact Or.inl rfl | exact Or.inr rfl)) dgs_nil))))) (dss_cons (ds_set (i := 6) sc_written.nd rfl (by first | exact Or.inl rfl | exact Or.inr rfl) (de_p (dp_cat (c := .cln) (dp_lst (c := .cln) (da_cons (dp_strI (c := .cln) (by rfl) B.b_str (dp_dr (dp_va 2))) (da_cons (dp_vc 3) (da_cons (dp_strI (c := .cln) (by rfl) B.b_str (dp_dr (dp_va 4))) (da_nil (c := .cln)))))) (dp_if (c := .cln) (dt_notN (dp_dr (dp_va 5))) (dp_lst (c := .cln) (da_cons (dp_strI (c := .cln) (by rfl) B.b_str (dp_dr (dp_va 5))) (da_nil (c := .cln)))) (dp_lst (c := .cln) (da_nil (c := .cln)))))))
    (dss_one (ds_app (pl_var 1) (dp_join (c := .frs) (dp_str (c := .any)) (dp_dr (dp_va 6))) (hbm := pe_bm PySem.F.plainAttrs_list PySem.F.slot_list_append PySem.F.type_list_append mt_append (pl_var 1) (pa_cons (dp_join (c := .frs) (dp_str (c := .any)) (dp_dr (dp_va 6))) pa_nil))))))
    (dss_one (ds_retF (dp_join (c := .frs) (dp_str (c := .any)) (dp_dr (dp_va 1))))))))

abbrev n_number_of : List Str := ["word", "sign"]
theorem sc_number_of : FnScope n_number_of ["word"] (defScope s_number_of) := ⟨rfl, rfl, rfl, by decide +kernel, rfl, by decide +kernel, by decide +kernel⟩
def w_number_of : WS := (sSeq (sIf (wT (tOr2 (tNot1 (tChn (fun i j => decide (i ≤ j)) (fun i j => decide (i ≤ j)) (pInt 1) (p1 lenD (pDr (pVar 0))) (pInt 3))) (tc2 (neT 8) (pLc (iS (pDr (pVar 0))) (gN 1) (tc2 (sinT true) (pDr (pVar 1)) (pStr "0123456789")) (pVar 1) [1]) (pLst aNil)))) (sRetF pNon) sNext)
    (sRetF (pIf (tAnd2 (tc2 (eqT 8) (p2 ixS (pDr (pVar 0)) (pInt 0)) (pStr "0")) (tc2 (neT 8) (pDr (pVar 0)) (pStr "0"))) pNon (p1 intSD (pDr (pVar 0))))))
theorem d_number_of {f : Addr} {cdv : Value} {A : Around} {outer : List Env} {s : Shared} {H : Hp} {E : XK} (B : Bi mg) (hr : Room 0 (A.deeper (PyProof.Rows.envOfC "number_of" (defScope s_number_of) s.heap.objs.size f cdv))) (O_X : Co_X K mg C_X) :
    DSs (cxOf (L2.CX P w) P w K mg base n_number_of "number_of" (defScope s_number_of) f cdv A outer s H E) E0 true (defBody s_number_of) (w_number_of) := by
  exact (dss_cons (ds_if (dte_t (DW.dt (dw_or (dt_not (dt_chain (p := fun i j => decide (i ≤ j)) (p' := fun i j => decide (i ≤ j)) op_le op_le (dp_int (c := .any)) (dp_len (c := .any) (by rfl) B.b_len (dp_dr (dp_va 0))) (dp_gint (c := .any) (by rfl) B.c_MOST_FIGURES))) (dw_or1 (dt_ne hr.units (dp_lcA (own := [("sign", 1)]) rfl sc_number_of.nd (di_str (c := .any) (dp_dr (dp_va 0))) (blkOk_by (own := [("sign", 1)]) (N := n_number_of) (sc := defScope s_number_of) (by decide +kernel)) (by decide) (fun _ _ _ _ _ => (dg_name (i := 1) sc_number_of.nd rfl (by first | exact Or.inl rfl | exact Or.inr rfl))) (fun _ _ _ _ _ => (dts_one (dt_notInS (dp_dr (dp_va 1)) (dp_gstr (c := .any) (by rfl) B.c_FIGURES)))) (fun _ _ _ _ _ => (dp_vc 1))) (dp_lst (c := .any) (da_nil (c := .any)))))))) (dss_one (ds_retF (dp_non (c := .frs)))) dss_nil)
    (dss_one (ds_retF (dp_if (c := .frs) (DW.dt (dw_and (dt_eq hr.units (dp_ixS (c := .any) (dp_dr (dp_va 0)) (dp_int (c := .any))) (dp_str (c := .any))) (dw_and1 (dt_ne hr.units (dp_dr (dp_va 0)) (dp_str (c := .any)))))) (dp_non (c := .frs)) (dp_intS (c := .frs) (by rfl) B.b_int (dp_dr (dp_va 0)))))))

abbrev n_row_of : List Str := ["words", "numbers", "moment", "row", "word"]
theorem sc_row_of : FnScope n_row_of ["words"] (defScope s_row_of) := ⟨rfl, rfl, rfl, by decide +kernel, rfl, by decide +kernel, by decide +kernel⟩
def w_row_of : WS := (sSeq (sIf (wT (tOr2 (tc2 (inT true) (p1 lenD (pDr (pVar 0))) (pTup (aCons (pInt 3) (aCons (pInt 4) aNil)))) (tc2 (inT true) (p2 ixQ (pDr (pVar 0)) (pInt 1)) (pTup (aCons (pStr "clip") (aCons (pStr "live") aNil)))))) (sRetF pNon) sNext)
    (sSeq (sSet 1 (wP (pLc (iL (p2 catL (pLst (aCons (pLf (p2 ixQ (pDr (pVar 0)) (pInt 0))) aNil)) (pSl (pVar 0) (sfS (pInt 2)) sfN))) (gN 4) tYesF (pCall 1 ph_number_of (aCons (pDr (pVar 4)) aNil)) [4])))
    (sSeq (sIf (wT (tc2 (inT false) pNon (pDr (pVar 1)))) (sRetF pNon) sNext)
    (sSeq (sSet 2 (wP (pIf (tc2 (eqT 8) (p1 lenD (pDr (pVar 1))) (pInt 3)) (pLf (p2 ixQ (pDr (pVar 1)) (pInt 2))) pNon)))
    (sSeq (sSet 3 (wP (pTup (aCons (pLf (p2 ixQ (pDr (pVar 1)) (pInt 0))) (aCons (pLf (p2 ixQ (pDr (pVar 0)) (pInt 1))) (aCons (pLf (p2 ixQ (pDr (pVar 1)) (pInt 1))) (aCons (pVar 2) aNil)))))))
    (sRetF (pIf (tAnd2 (tOf (pCall 1 ph_is_row (aCons (pDr (pVar 3)) aNil))) (tOr2 (tIsN (pDr (pVar 2))) (tc2 cLe (pDr (pVar 2)) (pInt 899)))) (pLf (pVar 3)) pNon)))))))
theorem d_row_of {f : Addr} {cdv : Value} {A : Around} {outer : List Env} {s : Shared} {H : Hp} {E : XK} (B : Bi mg) (hr : Room 2 (A.deeper (PyProof.Rows.envOfC "row_of" (defScope s_row_of) s.heap.objs.size f cdv))) (O_X : Co_X K mg C_X) (h_number_of : Has P w K mg base "number_of" 1 ["word"] (spP 1 ph_number_of)) (h_is_row : Has P w K mg base "is_row" 2 ["row"] (spP 1 ph_is_row)) :
    DSs (cxOf (L2.CX P w) P w K mg base n_row_of "row_of" (defScope s_row_of) f cdv A outer s H E) E0 true (defBody s_row_of) (w_row_of) := by
  exact (dss_cons (ds_if (dte_t (DW.dt (dw_or (dt_notIn (dp_len (c := .any) (by rfl) B.b_len (dp_dr (dp_va 0))) (dp_tup (c := .any) (da_cons (dp_int (c := .any)) (da_cons (dp_int (c := .any)) (da_nil (c := .any)))))) (dw_or1 (dt_notIn (dp_ix (c := .any) (dp_dr (dp_va 0)) (dp_int (c := .any))) (dp_tup (c := .any) (da_cons (dp_gstr (c := .any) (by rfl) B.c_CLIP) (da_cons (dp_gstr (c := .any) (by rfl) B.c_LIVE) (da_nil (c := .any)))))))))) (dss_one (ds_retF (dp_non (c := .frs)))) dss_nil)
    (dss_cons (ds_setLc_ (ps_setLc (i := 1) (own := [("word", 4)]) rfl sc_row_of.nd rfl rfl (sw_true rfl rfl rfl (by decide +kernel)) (di_list (dp_cat (c := .cln) (dp_lst (c := .cln) (da_cons (dp_lf (c := .cln) (dp_ix (dp_dr (dp_va 0)) (dp_int (c := .any)))) (da_nil (c := .cln)))) (dp_sl (c := .cln) (dp_vc 0) (do_some (dp_int (c := .any))) do_none))) (blkOk_by (own := [("word", 4)]) (N := n_row_of) (sc := defScope s_row_of) (by decide +kernel)) (fun _ _ _ _ _ => (dg_name (i := 4) sc_row_of.nd rfl (by first | exact Or.inl rfl | exact Or.inr rfl))) (fun _ _ _ _ _ => dts_nil) (fun _ _ _ _ _ => (dp_call (c := .cln) h_number_of (hr.mono (by decide)) (by rfl) (da_cons (dp_dr (dp_va 4)) (da_nil (c := .any)))))) (lcC_rd (fun z => nomatch z) (by decide)))
    (dss_cons (ds_if (dte_t (dt_in (dp_non (c := .any)) (dp_dr (dp_va 1)))) (dss_one (ds_retF (dp_non (c := .frs)))) dss_nil)
    (dss_cons (ds_set (i := 2) sc_row_of.nd rfl (by first | exact Or.inl rfl | exact Or.inr rfl) (de_p (dp_if (c := .cln) (dt_eq hr.units (dp_len (c := .any) (by rfl) B.b_len (dp_dr (dp_va 1))) (dp_int (c := .any))) (dp_lf (c := .cln) (dp_ix (dp_dr (dp_va 1)) (dp_int (c := .any)))) (dp_non (c := .cln)))))
    (dss_cons (ds_set (i := 3) sc_row_of.nd rfl (by first | exact Or.inl rfl | exact Or.inr rfl) (de_p (dp_tup (c := .cln) (da_cons (dp_lf (c := .cln) (dp_ix (dp_dr (dp_va 1)) (dp_int (c := .any)))) (da_cons (dp_lf (c := .cln) (dp_ix (dp_dr (dp_va 0)) (dp_int (c := .any)))) (da_cons (dp_lf (c := .cln) (dp_ix (dp_dr (dp_va 1)) (dp_int (c := .any)))) (da_cons (dp_vc 2) (da_nil (c := .cln)))))))))
    (dss_one (ds_retF (dp_if (c := .frs) (DW.dt (dw_and (dt_val (dp_call (c := .any) h_is_row (hr.mono (by decide)) (by rfl) (da_cons (dp_dr (dp_va 3)) (da_nil (c := .any))))) (dw_and1 (DW.dt (dw_or (dt_isN (dp_dr (dp_va 2))) (dw_or1 (dt_le (dp_dr (dp_va 2)) (dp_gint (c := .any) (by rfl) B.c_LAST_MOMENT)))))))) (dp_lf (c := .frs) (dp_va 3)) (dp_non (c := .frs))))))))))

abbrev n_read : List Str := ["text", "found", "line", "row", "one"]
theorem sc_read : FnScope n_read ["text"] (defScope s_read) := ⟨rfl, rfl, rfl, by decide +kernel, rfl, by decide +kernel, by decide +kernel⟩
def w_read (C_X : Str → Addr) : WS := (sSeq (sSetM 1 (pLst aNil))
    (sSeq (sFor (wA (iE (pIf (tc2 (neT 8) (pDr (pVar 0)) (pStr "")) (p2 splitD (pDr (pVar 0)) (pStr "\n")) (pLst aNil)))) (gT 2 (gC (gN 2) (gC (gN 3) gNl))) (sSeq (sSet 4 (wP (pCall 1 ph_row_of (aCons (p2 splitD (pDr (pVar 3)) (pStr " ")) aNil))))
    (sSeq (sIf (wT (tIsN (pDr (pVar 4)))) (sRaiseV (C_X "BadText") "line" (pVar 2)) sNext)
    (sApp (lV 1) (pLf (pVar 4))))))
    (sRetZ 1)))
theorem d_read {f : Addr} {cdv : Value} {A : Around} {outer : List Env} {s : Shared} {H : Hp} {E : XK} (B : Bi mg) (hr : Room 3 (A.deeper (PyProof.Rows.envOfC "read" (defScope s_read) s.heap.objs.size f cdv))) (O_X : Co_X K mg C_X) (h_row_of : Has P w K mg base "row_of" 3 ["words"] (spP 1 ph_row_of)) (h_BadText_init : ExV P w K mg base "BadText" (C_X "BadText") "line") :
    DSs (cxOf (L2.CX P w) P w K mg base n_read "read" (defScope s_read) f cdv A outer s H E) E false (defBody s_read) (w_read C_X) := by
  have hx : Passes (L2.CX P w) (cxOf (L2.CX P w) P w K mg base n_read "read" (defScope s_read) f cdv A outer s H E) E := passes_call (takes_of rfl rfl rfl rfl) (fun _ _ _ _ z => z)
  have tk : Takes (cxOf (L2.CX P w) P w K mg base n_read "read" (defScope s_read) f cdv A outer s H E) (fun cls d _ H => E cls d H) := takes_of rfl rfl rfl rfl
  exact (dss_cons (ds_setM (i := 1) sc_read.nd rfl (by first | exact Or.inl rfl | exact Or.inr rfl) (dp_lst (c := .frs) (da_nil (c := .frs))))
    (dss_cons (ds_for (passes_of rfl) rfl (die_p (di_enum (c := .cln) (by rfl) B.b_enumerate (dp_if (c := .cln) (dt_ne hr.units (dp_dr (dp_va 0)) (dp_str (c := .any))) (dp_split (c := .cln) (dp_dr (dp_va 0)) (dp_str (c := .any))) (dp_lst (c := .cln) (da_nil (c := .cln)))))) (dg_tup (n := 2) rfl (dgs_cons (dg_name (i := 2) sc_read.nd rfl (by first | exact Or.inl rfl | exact Or.inr rfl)) (dgs_cons (dg_name (i := 3) sc_read.nd rfl (by first | exact Or.inl rfl | exact Or.inr rfl)) dgs_nil))) (dss_cons (ds_set (i := 4) sc_read.nd rfl (by first | exact Or.inl rfl | exact Or.inr rfl) (de_p (dp_call (c := .cln) h_row_of (hr.mono (by decide)) (by rfl) (da_cons (dp_split (c := .any) (dp_dr (dp_va 3)) (dp_str (c := .any))) (da_nil (c := .any))))))
    (dss_cons (ds_if (dte_t (dt_isN (dp_dr (dp_va 4)))) (dss_one (ds_raiseV h_BadText_init (hr.mono (by decide)) rfl tk rfl (dp_vc 2))) dss_nil)
    (dss_one (ds_app (pl_var 1) (dp_lf (c := .frs) (dp_va 4)) (hbm := pe_bm PySem.F.plainAttrs_list PySem.F.slot_list_append PySem.F.type_list_append mt_append (pl_var 1) (pa_cons (dp_lf (c := .frs) (dp_va 4)) pa_nil)))))))
    (dss_one (ds_retZ 1))))

abbrev n_law_next : List Str := ["_law_h", "_law_many", "_law_at", "_law_cell"]
theorem sc_law_next : FnScope n_law_next ["_law_h", "_law_many"] (defScope s_law_next) := ⟨rfl, rfl, rfl, by decide +kernel, rfl, by decide +kernel, by decide +kernel⟩
def w_law_next : WS := (sSeq (sSet 2 (wP (p2 bMod (p2 ixQ (pDr (pVar 0)) (pInt 2)) (p2 bMax2 (pInt 1) (p1 lenD (p2 ixQ (pDr (pVar 0)) (pInt 1)))))))
    (sSeq (sSet 3 (wP (pIf (tc2 (neT 8) (p2 ixQ (pDr (pVar 0)) (pInt 1)) (pLst aNil)) (pLf (p2 ixQ (p2 ixQ (pDr (pVar 0)) (pInt 1)) (pDr (pVar 2)))) (pInt 0))))
    (sSeq (sIf (wT (tc2 cGe (pDr (pVar 3)) (p2 bPow (pInt 10) (pInt 18)))) (sSeq (sSetIx (wP (p2 bFdiv (pDr (pVar 3)) (pDr (pVar 1)))) (lIx (lV 0) (pInt 1)) (pDr (pVar 2)))
    (sRet (wP (p2 bMod (pDr (pVar 3)) (pDr (pVar 1)))))) sNext)
    (sSeq (sSetIx (wP (p2 bMod (p2 bAddI (p2 bAddI (p2 bMul (p2 ixQ (pDr (pVar 0)) (pInt 0)) (pInt 48271)) (p2 bMul (pDr (pVar 3)) (pInt 69621))) (pInt 11)) (pInt 2147483647))) (lV 0) (pInt 0))
    (sSeq (sSetIx (wP (p2 bAddI (p2 ixQ (pDr (pVar 0)) (pInt 2)) (pInt 1))) (lV 0) (pInt 2))
    (sRet (wP (p2 bMod (p2 bFdiv (p2 ixQ (pDr (pVar 0)) (pInt 0)) (pInt 7)) (pDr (pVar 1))))))))))
theorem d_law_next {f : Addr} {cdv : Value} {A : Around} {outer : List Env} {s : Shared} {H : Hp} {E : XK} (B : Bi mg) (hr : Room 0 (A.deeper (PyProof.Rows.envOfC "_law_next" (defScope s_law_next) s.heap.objs.size f cdv))) (O_X : Co_X K mg C_X) :
    DSs (cxOf (L2.CX P w) P w K mg base n_law_next "_law_next" (defScope s_law_next) f cdv A outer s H E) E false (defBody s_law_next) (w_law_next) := by
  have hx : Passes (L2.CX P w) (cxOf (L2.CX P w) P w K mg base n_law_next "_law_next" (defScope s_law_next) f cdv A outer s H E) E := passes_call (takes_of rfl rfl rfl rfl) (fun _ _ _ _ z => z)
  exact (dss_cons (ds_set (i := 2) sc_law_next.nd rfl (by first | exact Or.inl rfl | exact Or.inr rfl) (de_p (dp_mod (c := .cln) (dp_ix (c := .any) (dp_dr (dp_va 0)) (dp_int (c := .any))) (dp_max2 (c := .any) rfl (by rfl) B.b_max (dp_int (c := .any)) (dp_len (c := .any) (by rfl) B.b_len (dp_ix (c := .any) (dp_dr (dp_va 0)) (dp_int (c := .any))))))))
    (dss_cons (ds_set (i := 3) sc_law_next.nd rfl (by first | exact Or.inl rfl | exact Or.inr rfl) (de_p (dp_if (c := .cln) (dt_ne hr.units (dp_ix (c := .any) (dp_dr (dp_va 0)) (dp_int (c := .any))) (dp_lst (c := .any) (da_nil (c := .any)))) (dp_lf (c := .cln) (dp_ix (dp_ix (c := .any) (dp_dr (dp_va 0)) (dp_int (c := .any))) (dp_dr (dp_va 2)))) (dp_int (c := .cln)))))
    (dss_cons (ds_if (dte_t (dt_ge (dp_dr (dp_va 3)) (dp_pow (c := .any) (dp_int (c := .any)) (dp_int (c := .any))))) (dss_cons (ds_setIx (de_p (dp_fdiv (c := .cln) (dp_dr (dp_va 3)) (dp_dr (dp_va 1)))) (pl_ix (pl_var 0) (dp_int (c := .any))) (dp_dr (dp_va 2)))
    (dss_one (ds_ret (de_p (dp_mod (c := .cln) (dp_dr (dp_va 3)) (dp_dr (dp_va 1))))))) dss_nil)
    (dss_cons (ds_setIx (de_p (dp_mod (c := .cln) (dp_addI (c := .any) (dp_addI (c := .any) (dp_mul (c := .any) (dp_ix (c := .any) (dp_dr (dp_va 0)) (dp_int (c := .any))) (dp_int (c := .any))) (dp_mul (c := .any) (dp_dr (dp_va 3)) (dp_int (c := .any)))) (dp_int (c := .any))) (dp_int (c := .any)))) (pl_var 0) (dp_int (c := .any)))
    (dss_cons (ds_setIx (de_p (dp_addI (c := .cln) (dp_ix (c := .any) (dp_dr (dp_va 0)) (dp_int (c := .any))) (dp_int (c := .any)))) (pl_var 0) (dp_int (c := .any)))
    (dss_one (ds_ret (de_p (dp_mod (c := .cln) (dp_fdiv (c := .any) (dp_ix (c := .any) (dp_dr (dp_va 0)) (dp_int (c := .any))) (dp_int (c := .any))) (dp_dr (dp_va 1)))))))))))

abbrev n_law_alike : List Str := ["_law_found", "_law_due", "_law_k"]
theorem sc_law_alike : FnScope n_law_alike ["_law_found", "_law_due"] (defScope s_law_alike) := ⟨rfl, rfl, rfl, by decide +kernel, rfl, by decide +kernel, by decide +kernel⟩
def w_law_alike (n : Nat) : WS := (sSeq (sIf (wT (tOf (pIsi2 (pDr (pVar 1))))) (sSeq (sIf (wT (tOr2 (tNot1 (tOf (pIsi2 (pDr (pVar 0))))) (tc2 (neT 8) (pIsi "list" (pDr (pVar 0))) (pIsi "list" (pDr (pVar 1)))))) (sRetF (pBl false)) sNext)
    (sSeq (sIf (wT (tc2 (neT 8) (p1 lenD (pDr (pVar 0))) (p1 lenD (pDr (pVar 1))))) (sRetF (pBl false)) sNext)
    (sRetF (pc2 (eqT 8) (pLc (iR1 (p1 lenD (pDr (pVar 1)))) (gN 2) (tNot1 (tOf (pCall 2 (phr_law_alike n) (aCons (p2 ixQ (pDr (pVar 0)) (pDr (pVar 2))) (aCons (p2 ixQ (pDr (pVar 1)) (pDr (pVar 2))) aNil))))) (pVar 2) [2]) (pLst aNil))))) sNext)
    (sSeq (sIf (wT (tIsN (pDr (pVar 1)))) (sRetF (pIsN (pDr (pVar 0)))) sNext)
    (sSeq (sIf (wT (tOf (pIsi "str" (pDr (pVar 1))))) (sRetF (pAnd (pIsi "str" (pDr (pVar 0))) (pc2 (eqT 8) (pDr (pVar 0)) (pDr (pVar 1))))) sNext)
    (sSeq (sIf (wT (tOr2 (tOf (pIsi "bool" (pDr (pVar 1)))) (tOf (pIsi "bool" (pDr (pVar 0)))))) (sRetF (pAnd (pIsi "bool" (pDr (pVar 1))) (pAnd (pIsi "bool" (pDr (pVar 0))) (pc2 (eqT 8) (pDr (pVar 0)) (pDr (pVar 1)))))) sNext)
    (sRetF (pAnd (pIsi "int" (pDr (pVar 0))) (pc2 (eqT 8) (pDr (pVar 0)) (pDr (pVar 1)))))))))
theorem d_law_alike {n : Nat} {f : Addr} {cdv : Value} {A : Around} {outer : List Env} {s : Shared} {H : Hp} {E : XK} (B : Bi mg) (hr : Room n (A.deeper (PyProof.Rows.envOfC "_law_alike" (defScope s_law_alike) s.heap.objs.size f cdv))) (O_X : Co_X K mg C_X) (h_law_alike : Has P w K mg base "_law_alike" n ["_law_found", "_law_due"] (spP 2 (phr_law_alike n))) :
    DSs (cxOf (L2.CX P w) P w K mg base n_law_alike "_law_alike" (defScope s_law_alike) f cdv A outer s H E) E0 true (defBody s_law_alike) (w_law_alike n) := by
  exact (dss_cons (ds_if (dte_t (dt_val (dp_isi2 (c := .any) (by rfl) B.b_isinstance (by rfl) B.b_tuple (by rfl) B.b_list (dp_dr (dp_va 1))))) (dss_cons (ds_if (dte_t (DW.dt (dw_or (dt_not (dt_val (dp_isi2 (c := .any) (by rfl) B.b_isinstance (by rfl) B.b_tuple (by rfl) B.b_list (dp_dr (dp_va 0))))) (dw_or1 (dt_ne hr.units (dp_isi (c := .any) kit_list (by rfl) B.b_isinstance (by rfl) B.b_list (by decide +kernel) (dp_dr (dp_va 0))) (dp_isi (c := .any) kit_list (by rfl) B.b_isinstance (by rfl) B.b_list (by decide +kernel) (dp_dr (dp_va 1)))))))) (dss_one (ds_retF (dp_bl (c := .frs)))) dss_nil)
    (dss_cons (ds_if (dte_t (dt_ne hr.units (dp_len (c := .any) (by rfl) B.b_len (dp_dr (dp_va 0))) (dp_len (c := .any) (by rfl) B.b_len (dp_dr (dp_va 1))))) (dss_one (ds_retF (dp_bl (c := .frs)))) dss_nil)
    (dss_one (ds_retF (dp_eq (c := .frs) hr.units (dp_lcA (own := [("_law_k", 2)]) rfl sc_law_alike.nd (di_range1 (c := .any) (by rfl) B.b_range (dp_len (c := .any) (by rfl) B.b_len (dp_dr (dp_va 1)))) (blkOk_by (own := [("_law_k", 2)]) (N := n_law_alike) (sc := defScope s_law_alike) (by decide +kernel)) (by decide) (fun _ _ _ _ _ => (dg_name (i := 2) sc_law_alike.nd rfl (by first | exact Or.inl rfl | exact Or.inr rfl))) (fun _ _ _ _ _ => (dts_one (dt_not (dt_val (dp_call (c := .any) h_law_alike (hr.mono (Nat.le_refl _)) (by rfl) (da_cons (dp_ix (c := .any) (dp_dr (dp_va 0)) (dp_dr (dp_va 2))) (da_cons (dp_ix (c := .any) (dp_dr (dp_va 1)) (dp_dr (dp_va 2))) (da_nil (c := .any))))))))) (fun _ _ _ _ _ => (dp_vc 2))) (dp_lst (c := .any) (da_nil (c := .any)))))))) dss_nil)
    (dss_cons (ds_if (dte_t (dt_isN (dp_dr (dp_va 1)))) (dss_one (ds_retF (dp_isN (c := .frs) (dp_dr (dp_va 0))))) dss_nil)
    (dss_cons (ds_if (dte_t (dt_val (dp_isi (c := .any) kit_str (by rfl) B.b_isinstance (by rfl) B.b_str (by decide +kernel) (dp_dr (dp_va 1))))) (dss_one (ds_retF (dp_and (c := .frs) (dp_isi (c := .any) kit_str (by rfl) B.b_isinstance (by rfl) B.b_str (by decide +kernel) (dp_dr (dp_va 0))) (dp_one (c := .any) (dp_eq (c := .any) hr.units (dp_dr (dp_va 0)) (dp_dr (dp_va 1))))))) dss_nil)
    (dss_cons (ds_if (dte_t (DW.dt (dw_or (dt_val (dp_isi (c := .any) kit_bool (by rfl) B.b_isinstance (by rfl) B.b_bool (by decide +kernel) (dp_dr (dp_va 1)))) (dw_or1 (dt_val (dp_isi (c := .any) kit_bool (by rfl) B.b_isinstance (by rfl) B.b_bool (by decide +kernel) (dp_dr (dp_va 0)))))))) (dss_one (ds_retF (dp_and (c := .frs) (dp_isi (c := .any) kit_bool (by rfl) B.b_isinstance (by rfl) B.b_bool (by decide +kernel) (dp_dr (dp_va 1))) (dp_and (c := .any) (dp_isi (c := .any) kit_bool (by rfl) B.b_isinstance (by rfl) B.b_bool (by decide +kernel) (dp_dr (dp_va 0))) (dp_one (c := .any) (dp_eq (c := .any) hr.units (dp_dr (dp_va 0)) (dp_dr (dp_va 1)))))))) dss_nil)
    (dss_one (ds_retF (dp_and (c := .frs) (dp_isi (c := .any) kit_int (by rfl) B.b_isinstance (by rfl) B.b_int (by decide +kernel) (dp_dr (dp_va 0))) (dp_one (c := .any) (dp_eq (c := .any) hr.units (dp_dr (dp_va 0)) (dp_dr (dp_va 1)))))))))))

abbrev n_law_rows : List Str := ["_law_h", "_law_begin", "_law_end", "_law_most", "_law_left", "_law_often", "_law_moments", "_law_found", "_law_k", "_law_kind_here", "_law_length", "_law_moment"]
theorem sc_law_rows : FnScope n_law_rows ["_law_h", "_law_begin", "_law_end", "_law_most"] (defScope s_law_rows) := ⟨rfl, rfl, rfl, by decide +kernel, rfl, by decide +kernel, by decide +kernel⟩
def w_law_rows : WS := (sSeq (sSetM 4 (p1 lrD (pInt 100)))
    (sSeq (sSet 5 (wCall 2 sp_law_next (wACons (wP (pVar 0)) (wACons (wP (pInt 4)) wANil))))
    (sSeq (sSetMS 6 sortsetD (wLc (wR1 (w2 bMul (wCall 2 sp_law_next (wACons (wP (pVar 0)) (wACons (wP (pInt 6)) wANil))) (wP (p1 intD (pc2 cGt (pDr (pVar 5)) (pInt 0)))))) (gN 8) wYes (w2 bAddI (wP (pVar 1)) (wCall 2 sp_law_next (wACons (wP (pVar 0)) (wACons (wP (p2 bSub (pDr (pVar 2)) (pDr (pVar 1)))) wANil)))) [8]))
    (sSeq (sSetM 7 (pLst aNil))
    (sSeq (sFor (wR1 (wCall 2 sp_law_next (wACons (wP (pVar 0)) (wACons (wP (p2 bAddI (pDr (pVar 3)) (pInt 1))) wANil)))) (gN 8) (sSeq (sSet 9 (w2 ixQ (wP (pLst (aCons (pStr "clip") (aCons (pStr "live") aNil)))) (wCall 2 sp_law_next (wACons (wP (pVar 0)) (wACons (wP (pInt 2)) wANil)))))
    (sSeq (sSet 10 (w2 bAddI (wP (pInt 1)) (wCall 2 sp_law_next (wACons (wP (pVar 0)) (wACons (w2 ixQ (wP (pLst (aCons (pInt 6) (aCons (pInt 40) (aCons (pInt 120) aNil))))) (wCall 2 sp_law_next (wACons (wP (pVar 0)) (wACons (wP (pInt 3)) wANil)))) wANil)))))
    (sSeq (sSet 11 (wP pNon))
    (sSeq (sIf (wAnd (wT (tc2 (neT 8) (pDr (pVar 6)) (pLst aNil))) (w2t cLt (wCall 2 sp_law_next (wACons (wP (pVar 0)) (wACons (wP (pInt 4)) wANil))) (wP (pVar 5)))) (sSet 11 (wPop 6 (wP (pInt 0)))) sNext)
    (sAppR 7 (wTup (wACons (wPop 4 (wCall 2 sp_law_next (wACons (wP (pVar 0)) (wACons (wP (p1 lenD (pDr (pVar 4)))) wANil)))) (wACons (wP (pVar 9)) (wACons (wP (pVar 10)) (wACons (wP (pVar 11)) wANil)))))))))))
    (sRetZ 7))))))
theorem d_law_rows {f : Addr} {cdv : Value} {A : Around} {outer : List Env} {s : Shared} {H : Hp} {E : XK} (B : Bi mg) (hr : Room 1 (A.deeper (PyProof.Rows.envOfC "_law_rows" (defScope s_law_rows) s.heap.objs.size f cdv))) (O_X : Co_X K mg C_X) (h_law_next : Has P w K mg base "_law_next" 1 ["_law_h", "_law_many"] (spM 2 sp_law_next)) :
    DSs (cxOf (L2.CX P w) P w K mg base n_law_rows "_law_rows" (defScope s_law_rows) f cdv A outer s H E) E false (defBody s_law_rows) (w_law_rows) := by
  have hx : Passes (L2.CX P w) (cxOf (L2.CX P w) P w K mg base n_law_rows "_law_rows" (defScope s_law_rows) f cdv A outer s H E) E := passes_call (takes_of rfl rfl rfl rfl) (fun _ _ _ _ z => z)
  exact (dss_cons (ds_setM (i := 4) sc_law_rows.nd rfl (by first | exact Or.inl rfl | exact Or.inr rfl) (dp_listrange (c := .frs) rfl (by rfl) B.b_list (by rfl) B.b_range (dp_int (c := .any))))
    (dss_cons (ds_set (i := 5) sc_law_rows.nd rfl (by first | exact Or.inl rfl | exact Or.inr rfl) (de_call h_law_next (hr.mono (by decide)) (by rfl) hx (dae_cons (de_p (dp_vc 0)) (dae_cons (de_p (dp_int (c := .cln))) dae_nil))))
    (dss_cons (ds_setMS (i := 6) sc_law_rows.nd rfl (by first | exact Or.inl rfl | exact Or.inr rfl) rfl (by rfl) B.b_sorted (by rfl) B.b_set (de_lc (own := [("_law_k", 8)]) rfl sc_law_rows.nd (die_range1 (by rfl) B.b_range (de_mul (de_call h_law_next (hr.mono (by decide)) (by rfl) hx (dae_cons (de_p (dp_vc 0)) (dae_cons (de_p (dp_int (c := .cln))) dae_nil))) (de_p (dp_int1 (c := .cln) (by rfl) B.b_int (dp_gt (c := .any) (dp_dr (dp_va 5)) (dp_int (c := .any))))))) (blkOk_by (own := [("_law_k", 8)]) (N := n_law_rows) (sc := defScope s_law_rows) (by decide +kernel)) (by decide) (fun _ _ _ _ _ => (dg_name (i := 8) sc_law_rows.nd rfl (by first | exact Or.inl rfl | exact Or.inr rfl))) (fun _ _ _ _ _ => dtse_nil) (fun _ _ _ _ _ => (de_addI (de_p (dp_vc 1)) (de_call h_law_next (hr.mono (by decide)) (by rfl) passL (dae_cons (de_p (dp_vc 0)) (dae_cons (de_p (dp_sub (c := .cln) (dp_dr (dp_va 2)) (dp_dr (dp_va 1)))) dae_nil)))))))
    (dss_cons (ds_setM (i := 7) sc_law_rows.nd rfl (by first | exact Or.inl rfl | exact Or.inr rfl) (dp_lst (c := .frs) (da_nil (c := .frs))))
    (dss_cons (ds_for (passes_of rfl) rfl (die_range1 (by rfl) B.b_range (de_call h_law_next (hr.mono (by decide)) (by rfl) hx (dae_cons (de_p (dp_vc 0)) (dae_cons (de_p (dp_addI (c := .cln) (dp_dr (dp_va 3)) (dp_int (c := .any)))) dae_nil)))) (dg_name (i := 8) sc_law_rows.nd rfl (by first | exact Or.inl rfl | exact Or.inr rfl)) (dss_cons (ds_set (i := 9) sc_law_rows.nd rfl (by first | exact Or.inl rfl | exact Or.inr rfl) (de_ix (de_p (dp_lst (c := .cln) (da_cons (dp_str (c := .cln)) (da_cons (dp_str (c := .cln)) (da_nil (c := .cln)))))) (de_call h_law_next (hr.mono (by decide)) (by rfl) hx (dae_cons (de_p (dp_vc 0)) (dae_cons (de_p (dp_int (c := .cln))) dae_nil)))))
    (dss_cons (ds_set (i := 10) sc_law_rows.nd rfl (by first | exact Or.inl rfl | exact Or.inr rfl) (de_addI (de_p (dp_int (c := .cln))) (de_call h_law_next (hr.mono (by decide)) (by rfl) hx (dae_cons (de_p (dp_vc 0)) (dae_cons (de_ix (de_p (dp_lst (c := .cln) (da_cons (dp_int (c := .cln)) (da_cons (dp_int (c := .cln)) (da_cons (dp_int (c := .cln)) (da_nil (c := .cln))))))) (de_call h_law_next (hr.mono (by decide)) (by rfl) hx (dae_cons (de_p (dp_vc 0)) (dae_cons (de_p (dp_int (c := .cln))) dae_nil)))) dae_nil)))))
    (dss_cons (ds_set (i := 11) sc_law_rows.nd rfl (by first | exact Or.inl rfl | exact Or.inr rfl) (de_p (dp_non (c := .cln))))
    (dss_cons (ds_if (PW.pt (dwe_and (dte_t (dt_ne hr.units (dp_dr (dp_va 6)) (dp_lst (c := .any) (da_nil (c := .any))))) (dwe_and1 (dte_lt (de_call h_law_next (hr.mono (by decide)) (by rfl) hx (dae_cons (de_p (dp_vc 0)) (dae_cons (de_p (dp_int (c := .cln))) dae_nil))) (de_p (dp_vc 5)))))) (dss_one (ds_set (i := 11) sc_law_rows.nd rfl (by first | exact Or.inl rfl | exact Or.inr rfl) (de_pop 6 (pe_bm PySem.F.plainAttrs_list PySem.F.slot_list_pop PySem.F.type_list_pop mt_popAt (pv 6) (pa_cons (de_p (dp_int (c := .cln))) pa_nil))))) dss_nil)
    (dss_one (ds_appR 7 rfl (by first | exact Or.inl rfl | exact Or.inr (Or.inl rfl) | exact Or.inr (Or.inr rfl)) (hbm := pe_bm PySem.F.plainAttrs_list PySem.F.slot_list_append PySem.F.type_list_append mt_append (pv 7) (pa_cons (de_tup (dae_cons (de_pop 4 (pe_bm PySem.F.plainAttrs_list PySem.F.slot_list_pop PySem.F.type_list_pop mt_popAt (pv 4) (pa_cons (de_call h_law_next (hr.mono (by decide)) (by rfl) hx (dae_cons (de_p (dp_vc 0)) (dae_cons (de_p (dp_len (c := .cln) (by rfl) B.b_len (dp_dr (dp_va 4)))) dae_nil))) pa_nil))) (dae_cons (de_p (dp_vc 9)) (dae_cons (de_p (dp_vc 10)) (dae_cons (de_p (dp_vc 11)) dae_nil))))) pa_nil)))))))))
    (dss_one (ds_retZ 7)))))))

abbrev n_law_kind : List Str := ["_law_work", "e", "_law_kinds", "_law_words", "_law_k"]
theorem sc_law_kind : FnScope n_law_kind ["_law_work"] (defScope s_law_kind) := ⟨rfl, rfl, rfl, by decide +kernel, rfl, by decide +kernel, by decide +kernel⟩
def kSuite : List Stmt := match defBody s_law_kind with
  | .Try _ [.ExceptHandler _ _ ss _] _ _ _ :: _ => ss
  | _ => []
theorem d_law_kind {g a : Addr} {cdg : Value} {A : Around} {outer : List Env} {s : Shared} {H : Hp} {E : XK} {oe : Obj} {pn : List (Addr × Obj)} {j : Nat} (hj : j < 12) (B : Bi mg) (KF : KFacts K mg C_X) (hz : Zc (.ref (C_X (kN j))) none oe) (hf : ∃ vs, oe.data = .fields vs)
    (hu : ((cxOf C8.CX0 P w K mg base n_law_kind "_law_kind" (defScope s_law_kind) g cdg A outer s H C8.E0).nox.suite a ((a, oe) :: pn)).A.units + 65 < cLine) :
    DSs ((cxOf C8.CX0 P w K mg base n_law_kind "_law_kind" (defScope s_law_kind) g cdg A outer s H C8.E0).nox.suite a ((a, oe) :: pn)) E false kSuite (w_kind a j) := by
  exact (dss_cons (ds_set (i := 2) sc_law_kind.nd rfl (by first | exact Or.inl rfl | exact Or.inr rfl) (de_p (dp_lst (c := .cln) (da_cons (dp_isE (c := .cln) (i := 1) (cw := .ref (C_X (kN 0))) (KF.exc j hj) hz hf (KF.isE 0 j (by decide) hj) (fun u h => h) (by rfl) B.b_isinstance (dp_va 1) (pe_glob (v := .ref (C_X (kN 0))) (by rfl) (KF.glo 0 (by decide)) rfl)) (da_cons (dp_isE (c := .cln) (i := 1) (cw := .ref (C_X (kN 1))) (KF.exc j hj) hz hf (KF.isE 1 j (by decide) hj) (fun u h => h) (by rfl) B.b_isinstance (dp_va 1) (pe_glob (v := .ref (C_X (kN 1))) (by rfl) (KF.glo 1 (by decide)) rfl)) (da_cons (dp_isE (c := .cln) (i := 1) (cw := .ref (C_X (kN 2))) (KF.exc j hj) hz hf (KF.isE 2 j (by decide) hj) (fun u h => h) (by rfl) B.b_isinstance (dp_va 1) (pe_glob (v := .ref (C_X (kN 2))) (by rfl) (KF.glo 2 (by decide)) rfl)) (da_cons (dp_isE (c := .cln) (i := 1) (cw := .ref (C_X (kN 3))) (KF.exc j hj) hz hf (KF.isE 3 j (by decide) hj) (fun u h => h) (by rfl) B.b_isinstance (dp_va 1) (pe_glob (v := .ref (C_X (kN 3))) (by rfl) (KF.glo 3 (by decide)) rfl)) (da_nil (c := .cln)))))))))
    (dss_cons (ds_set (i := 2) sc_law_kind.nd rfl (by first | exact Or.inl rfl | exact Or.inr rfl) (de_p (dp_cat (c := .cln) (dp_vc 2) (dp_lst (c := .cln) (da_cons (dp_isE (c := .cln) (i := 1) (cw := .ref (C_X (kN 4))) (KF.exc j hj) hz hf (KF.isE 4 j (by decide) hj) (fun u h => h) (by rfl) B.b_isinstance (dp_va 1) (pe_glob (v := .ref (C_X (kN 4))) (by rfl) (KF.glo 4 (by decide)) rfl)) (da_cons (dp_isE (c := .cln) (i := 1) (cw := .ref (C_X (kN 5))) (KF.exc j hj) hz hf (KF.isE 5 j (by decide) hj) (fun u h => h) (by rfl) B.b_isinstance (dp_va 1) (pe_glob (v := .ref (C_X (kN 5))) (by rfl) (KF.glo 5 (by decide)) rfl)) (da_cons (dp_isE (c := .cln) (i := 1) (cw := .ref (C_X (kN 6))) (KF.exc j hj) hz hf (KF.isE 6 j (by decide) hj) (fun u h => h) (by rfl) B.b_isinstance (dp_va 1) (pe_glob (v := .ref (C_X (kN 6))) (by rfl) (KF.glo 6 (by decide)) rfl)) (da_nil (c := .cln)))))))))
    (dss_cons (ds_set (i := 2) sc_law_kind.nd rfl (by first | exact Or.inl rfl | exact Or.inr rfl) (de_p (dp_cat (c := .cln) (dp_vc 2) (dp_lst (c := .cln) (da_cons (dp_isE (c := .cln) (i := 1) (cw := .ref (C_X (kN 7))) (KF.exc j hj) hz hf (KF.isE 7 j (by decide) hj) (fun u h => h) (by rfl) B.b_isinstance (dp_va 1) (pe_glob (v := .ref (C_X (kN 7))) (by rfl) (KF.glo 7 (by decide)) rfl)) (da_cons (dp_isE (c := .cln) (i := 1) (cw := .ref (C_X (kN 8))) (KF.exc j hj) hz hf (KF.isE 8 j (by decide) hj) (fun u h => h) (by rfl) B.b_isinstance (dp_va 1) (pe_glob (v := .ref (C_X (kN 8))) (by rfl) (KF.glo 8 (by decide)) rfl)) (da_cons (dp_isE (c := .cln) (i := 1) (cw := .ref (C_X (kN 9))) (KF.exc j hj) hz hf (KF.isE 9 j (by decide) hj) (fun u h => h) (by rfl) B.b_isinstance (dp_va 1) (pe_glob (v := .ref (C_X (kN 9))) (by rfl) (KF.glo 9 (by decide)) rfl)) (da_nil (c := .cln)))))))))
    (dss_cons (ds_set (i := 2) sc_law_kind.nd rfl (by first | exact Or.inl rfl | exact Or.inr rfl) (de_p (dp_cat (c := .cln) (dp_vc 2) (dp_lst (c := .cln) (da_cons (dp_isE (c := .cln) (i := 1) (cw := .ref (C_X (kN 10))) (KF.exc j hj) hz hf (KF.isE 10 j (by decide) hj) (fun u h => h) (by rfl) B.b_isinstance (dp_va 1) (pe_glob (v := .ref (C_X (kN 10))) (by rfl) (KF.glo 10 (by decide)) rfl)) (da_cons (dp_isE (c := .cln) (i := 1) (cw := .ref (C_X (kN 11))) (KF.exc j hj) hz hf (KF.isE 11 j (by decide) hj) (fun u h => h) (by rfl) B.b_isinstance (dp_va 1) (pe_glob (v := .ref (C_X (kN 11))) (by rfl) (KF.glo 11 (by decide)) rfl)) (da_nil (c := .cln))))))))
    (dss_cons (ds_if (dte_t (DW.dt (dw_or (dt_ne (lt64 hu) (dp_count (c := .any) hu (dp_dr (dp_va 2)) (dp_bl (c := .any))) (dp_int (c := .any))) (dw_or1 (dt_not (dt_val (dp_isE (c := .any) (i := 1) (cw := .ty "ValueError") (KF.exc j hj) hz hf (KF.isV j hj) (fun u h => h) (by rfl) B.b_isinstance (dp_va 1) (pe_bltn (v := .ty "ValueError") (by rfl) B.b_ValueError (by rfl) rfl)))))))) (dss_one (ds_ret (de_p (dp_str (c := .cln))))) dss_nil)
    (dss_cons (ds_set (i := 3) sc_law_kind.nd rfl (by first | exact Or.inl rfl | exact Or.inr rfl) (de_p (dp_lst (c := .cln) (da_cons (dp_str (c := .cln)) (da_cons (dp_str (c := .cln)) (da_cons (dp_str (c := .cln)) (da_cons (dp_str (c := .cln)) (da_cons (dp_str (c := .cln)) (da_cons (dp_str (c := .cln)) (da_cons (dp_str (c := .cln)) (da_cons (dp_str (c := .cln)) (da_nil (c := .cln)))))))))))))
    (dss_cons (ds_set (i := 3) sc_law_kind.nd rfl (by first | exact Or.inl rfl | exact Or.inr rfl) (de_p (dp_cat (c := .cln) (dp_vc 3) (dp_lst (c := .cln) (da_cons (dp_str (c := .cln)) (da_cons (dp_str (c := .cln)) (da_cons (dp_str (c := .cln)) (da_cons (dp_str (c := .cln)) (da_nil (c := .cln))))))))))
    (dss_cons (ds_set (i := 4) sc_law_kind.nd rfl (by first | exact Or.inl rfl | exact Or.inr rfl) (de_p (dp_index (c := .cln) hu (dp_dr (dp_va 2)) (dp_bl (c := .any)))))
    (dss_one (ds_ret (de_p (dp_if (c := .cln) (dt_gt (dp_dr (dp_va 4)) (dp_int (c := .any))) (dp_lf (dp_ix (dp_dr (dp_va 3)) (dp_dr (dp_va 4)))) dp_never))))))))))))
theorem d_law_kindV {g a dd : Addr} {cdg : Value} {A : Around} {outer : List Env} {s : Shared} {H : Hp} {E : XK} {oe : Obj} {pn : List (Addr × Obj)} {j : Nat} (hj3 : j < 3) (hj : j < 12) (B : Bi mg) (KV : KFacts1 K mg C_X) (KF : KFacts K mg C_X) (hz : Zc (.ref (C_X (kN j))) (some dd) oe) (hf : ∃ vs, oe.data = .fields vs)
    (hu : ((cxOf C8.CX0 P w K mg base n_law_kind "_law_kind" (defScope s_law_kind) g cdg A outer s H C8.E0).nox.suite a ((a, oe) :: pn)).A.units + 65 < cLine) :
    DSs ((cxOf C8.CX0 P w K mg base n_law_kind "_law_kind" (defScope s_law_kind) g cdg A outer s H C8.E0).nox.suite a ((a, oe) :: pn)) E false kSuite (w_kindV a dd j) := by
  exact (dss_cons (ds_set (i := 2) sc_law_kind.nd rfl (by first | exact Or.inl rfl | exact Or.inr rfl) (de_p (dp_lst (c := .cln) (da_cons (dp_isV (c := .cln) (i := 1) (cw := .ref (C_X (kN 0))) (KF.exc j hj) hz hf (KF.isE 0 j (by decide) hj) (fun u h => h) (by rfl) B.b_isinstance (dp_va 1) (pe_glob (v := .ref (C_X (kN 0))) (by rfl) (KF.glo 0 (by decide)) rfl)) (da_cons (dp_isV (c := .cln) (i := 1) (cw := .ref (C_X (kN 1))) (KF.exc j hj) hz hf (KF.isE 1 j (by decide) hj) (fun u h => h) (by rfl) B.b_isinstance (dp_va 1) (pe_glob (v := .ref (C_X (kN 1))) (by rfl) (KF.glo 1 (by decide)) rfl)) (da_cons (dp_isV (c := .cln) (i := 1) (cw := .ref (C_X (kN 2))) (KF.exc j hj) hz hf (KF.isE 2 j (by decide) hj) (fun u h => h) (by rfl) B.b_isinstance (dp_va 1) (pe_glob (v := .ref (C_X (kN 2))) (by rfl) (KF.glo 2 (by decide)) rfl)) (da_cons (dp_isV (c := .cln) (i := 1) (cw := .ref (C_X (kN 3))) (KF.exc j hj) hz hf (KF.isE 3 j (by decide) hj) (fun u h => h) (by rfl) B.b_isinstance (dp_va 1) (pe_glob (v := .ref (C_X (kN 3))) (by rfl) (KF.glo 3 (by decide)) rfl)) (da_nil (c := .cln)))))))))
    (dss_cons (ds_set (i := 2) sc_law_kind.nd rfl (by first | exact Or.inl rfl | exact Or.inr rfl) (de_p (dp_cat (c := .cln) (dp_vc 2) (dp_lst (c := .cln) (da_cons (dp_isV (c := .cln) (i := 1) (cw := .ref (C_X (kN 4))) (KF.exc j hj) hz hf (KF.isE 4 j (by decide) hj) (fun u h => h) (by rfl) B.b_isinstance (dp_va 1) (pe_glob (v := .ref (C_X (kN 4))) (by rfl) (KF.glo 4 (by decide)) rfl)) (da_cons (dp_isV (c := .cln) (i := 1) (cw := .ref (C_X (kN 5))) (KF.exc j hj) hz hf (KF.isE 5 j (by decide) hj) (fun u h => h) (by rfl) B.b_isinstance (dp_va 1) (pe_glob (v := .ref (C_X (kN 5))) (by rfl) (KF.glo 5 (by decide)) rfl)) (da_cons (dp_isV (c := .cln) (i := 1) (cw := .ref (C_X (kN 6))) (KF.exc j hj) hz hf (KF.isE 6 j (by decide) hj) (fun u h => h) (by rfl) B.b_isinstance (dp_va 1) (pe_glob (v := .ref (C_X (kN 6))) (by rfl) (KF.glo 6 (by decide)) rfl)) (da_nil (c := .cln)))))))))
    (dss_cons (ds_set (i := 2) sc_law_kind.nd rfl (by first | exact Or.inl rfl | exact Or.inr rfl) (de_p (dp_cat (c := .cln) (dp_vc 2) (dp_lst (c := .cln) (da_cons (dp_isV (c := .cln) (i := 1) (cw := .ref (C_X (kN 7))) (KF.exc j hj) hz hf (KF.isE 7 j (by decide) hj) (fun u h => h) (by rfl) B.b_isinstance (dp_va 1) (pe_glob (v := .ref (C_X (kN 7))) (by rfl) (KF.glo 7 (by decide)) rfl)) (da_cons (dp_isV (c := .cln) (i := 1) (cw := .ref (C_X (kN 8))) (KF.exc j hj) hz hf (KF.isE 8 j (by decide) hj) (fun u h => h) (by rfl) B.b_isinstance (dp_va 1) (pe_glob (v := .ref (C_X (kN 8))) (by rfl) (KF.glo 8 (by decide)) rfl)) (da_cons (dp_isV (c := .cln) (i := 1) (cw := .ref (C_X (kN 9))) (KF.exc j hj) hz hf (KF.isE 9 j (by decide) hj) (fun u h => h) (by rfl) B.b_isinstance (dp_va 1) (pe_glob (v := .ref (C_X (kN 9))) (by rfl) (KF.glo 9 (by decide)) rfl)) (da_nil (c := .cln)))))))))
    (dss_cons (ds_set (i := 2) sc_law_kind.nd rfl (by first | exact Or.inl rfl | exact Or.inr rfl) (de_p (dp_cat (c := .cln) (dp_vc 2) (dp_lst (c := .cln) (da_cons (dp_isV (c := .cln) (i := 1) (cw := .ref (C_X (kN 10))) (KF.exc j hj) hz hf (KF.isE 10 j (by decide) hj) (fun u h => h) (by rfl) B.b_isinstance (dp_va 1) (pe_glob (v := .ref (C_X (kN 10))) (by rfl) (KF.glo 10 (by decide)) rfl)) (da_cons (dp_isV (c := .cln) (i := 1) (cw := .ref (C_X (kN 11))) (KF.exc j hj) hz hf (KF.isE 11 j (by decide) hj) (fun u h => h) (by rfl) B.b_isinstance (dp_va 1) (pe_glob (v := .ref (C_X (kN 11))) (by rfl) (KF.glo 11 (by decide)) rfl)) (da_nil (c := .cln))))))))
    (dss_cons (ds_if (dte_t (DW.dt (dw_or (dt_ne (lt64 hu) (dp_count (c := .any) hu (dp_dr (dp_va 2)) (dp_bl (c := .any))) (dp_int (c := .any))) (dw_or1 (dt_not (dt_val (dp_isV (c := .any) (i := 1) (cw := .ty "ValueError") (KF.exc j hj) hz hf (KF.isV j hj) (fun u h => h) (by rfl) B.b_isinstance (dp_va 1) (pe_bltn (v := .ty "ValueError") (by rfl) B.b_ValueError (by rfl) rfl)))))))) (dss_one (ds_ret (de_p (dp_str (c := .cln))))) dss_nil)
    (dss_cons (ds_set (i := 3) sc_law_kind.nd rfl (by first | exact Or.inl rfl | exact Or.inr rfl) (de_p (dp_lst (c := .cln) (da_cons (dp_str (c := .cln)) (da_cons (dp_str (c := .cln)) (da_cons (dp_str (c := .cln)) (da_cons (dp_str (c := .cln)) (da_cons (dp_str (c := .cln)) (da_cons (dp_str (c := .cln)) (da_cons (dp_str (c := .cln)) (da_cons (dp_str (c := .cln)) (da_nil (c := .cln)))))))))))))
    (dss_cons (ds_set (i := 3) sc_law_kind.nd rfl (by first | exact Or.inl rfl | exact Or.inr rfl) (de_p (dp_cat (c := .cln) (dp_vc 3) (dp_lst (c := .cln) (da_cons (dp_str (c := .cln)) (da_cons (dp_str (c := .cln)) (da_cons (dp_str (c := .cln)) (da_cons (dp_str (c := .cln)) (da_nil (c := .cln))))))))))
    (dss_cons (ds_set (i := 4) sc_law_kind.nd rfl (by first | exact Or.inl rfl | exact Or.inr rfl) (de_p (dp_index (c := .cln) hu (dp_dr (dp_va 2)) (dp_bl (c := .any)))))
    (dss_one (ds_ret (de_p (dp_if (c := .cln) (dt_gt (dp_dr (dp_va 4)) (dp_int (c := .any))) dp_never (dp_tup (da_cons (dp_lf (dp_ix (dp_dr (dp_va 3)) (dp_dr (dp_va 4)))) (da_cons (dp_if (dt_eq (lt64 hu) (dp_dr (dp_va 4)) (dp_int (c := .any))) (dp_xf (c := .cln) (KF.exc j hj) (KV.na j hj3).2 hz hf (dp_va 1)) (dp_xf (c := .cln) (KF.exc j hj) (KV.na j hj3).1 hz hf (dp_va 1))) (da_nil (c := .cln)))))))))))))))))

abbrev n_law_figures : List Str := ["_law_word", "_law_low", "_law_high", "_law_sign"]
theorem sc_law_figures : FnScope n_law_figures ["_law_word", "_law_low", "_law_high"] (defScope s_law_figures) := ⟨rfl, rfl, rfl, by decide +kernel, rfl, by decide +kernel, by decide +kernel⟩
def w_law_figures : WS := (sSeq (sIf (wT (tOr2 (tNot1 (tChn (fun i j => decide (i < j)) (fun i j => decide (i < j)) (pInt 0) (p1 lenD (pDr (pVar 0))) (pInt 4))) (tc2 (neT 8) (pLc (iS (pDr (pVar 0))) (gN 3) (tc2 (sinT true) (pDr (pVar 3)) (pStr "0123456789")) (pVar 3) [3]) (pLst aNil)))) (sRetF pNon) sNext)
    (sSeq (sIf (wT (tOr2 (tAnd2 (tc2 cGt (p1 lenD (pDr (pVar 0))) (pInt 1)) (tc2 (eqT 8) (p2 ixS (pDr (pVar 0)) (pInt 0)) (pStr "0"))) (tNot1 (tChn (fun i j => decide (i ≤ j)) (fun i j => decide (i ≤ j)) (pDr (pVar 1)) (p1 intSD (pDr (pVar 0))) (pDr (pVar 2)))))) (sRetF pNon) sNext)
    (sRetF (p1 intSD (pDr (pVar 0))))))
theorem d_law_figures {f : Addr} {cdv : Value} {A : Around} {outer : List Env} {s : Shared} {H : Hp} {E : XK} (B : Bi mg) (hr : Room 0 (A.deeper (PyProof.Rows.envOfC "_law_figures" (defScope s_law_figures) s.heap.objs.size f cdv))) (O_X : Co_X K mg C_X) :
    DSs (cxOf (L2.CX P w) P w K mg base n_law_figures "_law_figures" (defScope s_law_figures) f cdv A outer s H E) E0 true (defBody s_law_figures) (w_law_figures) := by
  exact (dss_cons (ds_if (dte_t (DW.dt (dw_or (dt_not (dt_chain (p := fun i j => decide (i < j)) (p' := fun i j => decide (i < j)) op_lt op_lt (dp_int (c := .any)) (dp_len (c := .any) (by rfl) B.b_len (dp_dr (dp_va 0))) (dp_int (c := .any)))) (dw_or1 (dt_ne hr.units (dp_lcA (own := [("_law_sign", 3)]) rfl sc_law_figures.nd (di_str (c := .any) (dp_dr (dp_va 0))) (blkOk_by (own := [("_law_sign", 3)]) (N := n_law_figures) (sc := defScope s_law_figures) (by decide +kernel)) (by decide) (fun _ _ _ _ _ => (dg_name (i := 3) sc_law_figures.nd rfl (by first | exact Or.inl rfl | exact Or.inr rfl))) (fun _ _ _ _ _ => (dts_one (dt_notInS (dp_dr (dp_va 3)) (dp_str (c := .any))))) (fun _ _ _ _ _ => (dp_vc 3))) (dp_lst (c := .any) (da_nil (c := .any)))))))) (dss_one (ds_retF (dp_non (c := .frs)))) dss_nil)
    (dss_cons (ds_if (dte_t (DW.dt (dw_or (DW.dt (dw_and (dt_gt (dp_len (c := .any) (by rfl) B.b_len (dp_dr (dp_va 0))) (dp_int (c := .any))) (dw_and1 (dt_eq hr.units (dp_ixS (c := .any) (dp_dr (dp_va 0)) (dp_int (c := .any))) (dp_str (c := .any)))))) (dw_or1 (dt_not (dt_chain (p := fun i j => decide (i ≤ j)) (p' := fun i j => decide (i ≤ j)) op_le op_le (dp_dr (dp_va 1)) (dp_intS (c := .any) (by rfl) B.b_int (dp_dr (dp_va 0))) (dp_dr (dp_va 2)))))))) (dss_one (ds_retF (dp_non (c := .frs)))) dss_nil)
    (dss_one (ds_retF (dp_intS (c := .frs) (by rfl) B.b_int (dp_dr (dp_va 0)))))))

abbrev n_law_row : List Str := ["_law_line", "_law_words", "_law_number", "_law_length", "_law_moment"]
theorem sc_law_row : FnScope n_law_row ["_law_line"] (defScope s_law_row) := ⟨rfl, rfl, rfl, by decide +kernel, rfl, by decide +kernel, by decide +kernel⟩
def w_law_row : WS := (sSeq (sSet 1 (wP (p2 splitD (pDr (pVar 0)) (pStr " "))))
    (sSeq (sIf (wT (tOr2 (tc2 (inT true) (p1 lenD (pDr (pVar 1))) (pTup (aCons (pInt 3) (aCons (pInt 4) aNil)))) (tc2 (inT true) (p2 ixQ (pDr (pVar 1)) (pInt 1)) (pTup (aCons (pStr "clip") (aCons (pStr "live") aNil)))))) (sRetF pNon) sNext)
    (sSeq (sPar 2 3 (wACons (wP (pCall 3 ph_law_figures (aCons (p2 ixQ (pDr (pVar 1)) (pInt 0)) (aCons (pInt 0) (aCons (pInt 99) aNil))))) (wACons (wP (pCall 3 ph_law_figures (aCons (p2 ixQ (pDr (pVar 1)) (pInt 2)) (aCons (pInt 1) (aCons (pInt 120) aNil))))) wANil)))
    (sSeq (sSet 4 (wP (pIf (tc2 (eqT 8) (p1 lenD (pDr (pVar 1))) (pInt 4)) (pCall 3 ph_law_figures (aCons (p2 ixQ (pDr (pVar 1)) (pInt 3)) (aCons (pInt 0) (aCons (pInt 899) aNil)))) pNon)))
    (sSeq (sIf (wT (tOr2 (tIsN (pDr (pVar 2))) (tOr2 (tIsN (pDr (pVar 3))) (tAnd2 (tc2 (eqT 8) (p1 lenD (pDr (pVar 1))) (pInt 4)) (tIsN (pDr (pVar 4))))))) (sRetF pNon) sNext)
    (sRetF (pTup (aCons (pLf (pVar 2)) (aCons (pLf (p2 ixQ (pDr (pVar 1)) (pInt 1))) (aCons (pLf (pVar 3)) (aCons (pLf (pVar 4)) aNil)))))))))))
theorem d_law_row {f : Addr} {cdv : Value} {A : Around} {outer : List Env} {s : Shared} {H : Hp} {E : XK} (B : Bi mg) (hr : Room 1 (A.deeper (PyProof.Rows.envOfC "_law_row" (defScope s_law_row) s.heap.objs.size f cdv))) (O_X : Co_X K mg C_X) (h_law_figures : Has P w K mg base "_law_figures" 1 ["_law_word", "_law_low", "_law_high"] (spP 3 ph_law_figures)) :
    DSs (cxOf (L2.CX P w) P w K mg base n_law_row "_law_row" (defScope s_law_row) f cdv A outer s H E) E0 true (defBody s_law_row) (w_law_row) := by
  exact (dss_cons (ds_set (i := 1) sc_law_row.nd rfl (by first | exact Or.inl rfl | exact Or.inr rfl) (de_p (dp_split (c := .cln) (dp_dr (dp_va 0)) (dp_str (c := .any)))))
    (dss_cons (ds_if (dte_t (DW.dt (dw_or (dt_notIn (dp_len (c := .any) (by rfl) B.b_len (dp_dr (dp_va 1))) (dp_tup (c := .any) (da_cons (dp_int (c := .any)) (da_cons (dp_int (c := .any)) (da_nil (c := .any)))))) (dw_or1 (dt_notIn (dp_ix (c := .any) (dp_dr (dp_va 1)) (dp_int (c := .any))) (dp_tup (c := .any) (da_cons (dp_str (c := .any)) (da_cons (dp_str (c := .any)) (da_nil (c := .any)))))))))) (dss_one (ds_retF (dp_non (c := .frs)))) dss_nil)
    (dss_cons (ds_par (i := 2) (j := 3) rfl sc_law_row.nd rfl rfl (by decide) rfl rfl (dae_cons (de_p (dp_call (c := .cln) h_law_figures (hr.mono (by decide)) (by rfl) (da_cons (dp_ix (c := .any) (dp_dr (dp_va 1)) (dp_int (c := .any))) (da_cons (dp_int (c := .any)) (da_cons (dp_int (c := .any)) (da_nil (c := .any))))))) (dae_cons (de_p (dp_call (c := .cln) h_law_figures (hr.mono (by decide)) (by rfl) (da_cons (dp_ix (c := .any) (dp_dr (dp_va 1)) (dp_int (c := .any))) (da_cons (dp_int (c := .any)) (da_cons (dp_int (c := .any)) (da_nil (c := .any))))))) dae_nil)) rfl)
    (dss_cons (ds_set (i := 4) sc_law_row.nd rfl (by first | exact Or.inl rfl | exact Or.inr rfl) (de_p (dp_if (c := .cln) (dt_eq hr.units (dp_len (c := .any) (by rfl) B.b_len (dp_dr (dp_va 1))) (dp_int (c := .any))) (dp_call (c := .cln) h_law_figures (hr.mono (by decide)) (by rfl) (da_cons (dp_ix (c := .any) (dp_dr (dp_va 1)) (dp_int (c := .any))) (da_cons (dp_int (c := .any)) (da_cons (dp_int (c := .any)) (da_nil (c := .any)))))) (dp_non (c := .cln)))))
    (dss_cons (ds_if (dte_t (DW.dt (dw_or (dt_isN (dp_dr (dp_va 2))) (dw_or (dt_isN (dp_dr (dp_va 3))) (dw_or1 (DW.dt (dw_and (dt_eq hr.units (dp_len (c := .any) (by rfl) B.b_len (dp_dr (dp_va 1))) (dp_int (c := .any))) (dw_and1 (dt_isN (dp_dr (dp_va 4))))))))))) (dss_one (ds_retF (dp_non (c := .frs)))) dss_nil)
    (dss_one (ds_retF (dp_tup (c := .frs) (da_cons (dp_lf (c := .frs) (dp_va 2)) (da_cons (dp_lf (c := .frs) (dp_ix (dp_dr (dp_va 1)) (dp_int (c := .any)))) (da_cons (dp_lf (c := .frs) (dp_va 3)) (da_cons (dp_lf (c := .frs) (dp_va 4)) (da_nil (c := .frs))))))))))))))

abbrev n_law_spoilt : List Str := ["_law_h", "_law_text", "_law_turn", "_law_at", "_law_signs", "_law_sign", "_law_lines", "_law_k", "_law_words", "_law_j", "_law_odd"]
theorem sc_law_spoilt : FnScope n_law_spoilt ["_law_h", "_law_text"] (defScope s_law_spoilt) := ⟨rfl, rfl, rfl, by decide +kernel, rfl, by decide +kernel, by decide +kernel⟩
abbrev kS_law_spoilt_2 : Str := DL.strAt (defBody s_law_spoilt) 2
def w_law_spoilt : WS := (sSeq (sSet 2 (wCall 2 sp_law_next (wACons (wP (pVar 0)) (wACons (wP (pInt 9)) wANil))))
    (sSeq (sSet 3 (wCall 2 sp_law_next (wACons (wP (pVar 0)) (wACons (wP (p2 bAddI (p1 lenD (pDr (pVar 1))) (pInt 1))) wANil))))
    (sSeq (sSet 4 (wP (pStr kS_law_spoilt_2)))
    (sSeq (sSet 5 (w2 ixS (wP (pVar 4)) (wCall 2 sp_law_next (wACons (wP (pVar 0)) (wACons (w2 ixQ (wP (pLst (aCons (pInt 13) (aCons (p1 lenD (pDr (pVar 4))) aNil)))) (wCall 2 sp_law_next (wACons (wP (pVar 0)) (wACons (wP (pInt 2)) wANil)))) wANil)))))
    (sSeq (sIf (wT (tc2 cLt (pDr (pVar 2)) (pInt 3))) (sRet (wP (p2 catS (p2 catS (pSlS (pDr (pVar 1)) sfN (sfS (pDr (pVar 3)))) (p2 ixQ (pLst (aCons (pDr (pVar 5)) (aCons (pStr "") (aCons (pDr (pVar 5)) aNil)))) (pDr (pVar 2)))) (pSlS (pDr (pVar 1)) (sfS (p2 bAddI (pDr (pVar 3)) (p1 intD (pc2 cGt (pDr (pVar 2)) (pInt 0))))) sfN)))) sNext)
    (sSeq (sSet 6 (wP (p2 splitD (pDr (pVar 1)) (pStr "\n"))))
    (sSeq (sSet 7 (wCall 2 sp_law_next (wACons (wP (pVar 0)) (wACons (wP (p1 lenD (pDr (pVar 6)))) wANil))))
    (sSeq (sIf (wT (tc2 cLt (pDr (pVar 2)) (pInt 6))) (sRet (wP (p2 joinD (pStr "\n") (p2 ixQ (pLst (aCons (p2 catL (pSl (pDr (pVar 6)) sfN (sfS (pDr (pVar 7)))) (pSl (pDr (pVar 6)) (sfS (p2 bAddI (pDr (pVar 7)) (pInt 1))) sfN)) (aCons (p2 catL (pSl (pDr (pVar 6)) sfN (sfS (p2 bAddI (pDr (pVar 7)) (pInt 1)))) (pSl (pDr (pVar 6)) (sfS (pDr (pVar 7))) sfN)) (aCons (p2 catL (pSl (pDr (pVar 6)) (sfS (pDr (pVar 7))) sfN) (pSl (pDr (pVar 6)) sfN (sfS (pDr (pVar 7))))) aNil)))) (p2 bSub (pDr (pVar 2)) (pInt 3)))))) sNext)
    (sSeq (sSet 8 (wP (p2 splitD (p2 ixQ (pDr (pVar 6)) (pDr (pVar 7))) (pStr " "))))
    (sSeq (sSet 9 (wCall 2 sp_law_next (wACons (wP (pVar 0)) (wACons (wP (p1 lenD (pDr (pVar 8)))) wANil))))
    (sSeq (sSetM 10 (pLst (aCons (pStr "") (aCons (pStr "0") (aCons (pStr "00") (aCons (pStr "07") (aCons (pStr "1") (aCons (pStr "99") (aCons (pStr "100") (aCons (pStr "120") (aCons (pStr "121") (aCons (pStr "899") (aCons (pStr "900") (aCons (pStr "999") (aCons (pStr "-1") (aCons (pStr "clip") (aCons (pStr "live") (aCons (pStr "Clip") aNil))))))))))))))))))
    (sSeq (sApp (lV 10) (pStr "1000"))
    (sSeq (sFrz 10 (sSet 8 (w2 catL (w2 catL (wP (pSl (pVar 8) sfN (sfS (pDr (pVar 9))))) (w2 ixQ (wLst (wACons (wP (pLst aNil)) (wACons (wP (p2 repL (pLst (aCons (p2 ixQ (pDr (pVar 8)) (pDr (pVar 9))) aNil)) (pInt 2))) (wACons (wLst (wACons (w2 ixQ (wP (pVar 10)) (wCall 2 sp_law_next (wACons (wP (pVar 0)) (wACons (wP (pInt 17)) wANil)))) wANil)) wANil)))) (wP (p2 bSub (pDr (pVar 2)) (pInt 6))))) (wP (pSl (pVar 8) (sfS (p2 bAddI (pDr (pVar 9)) (pInt 1))) sfN)))))
    (sRet (wP (p2 joinD (pStr "\n") (p2 catL (p2 catL (pSl (pDr (pVar 6)) sfN (sfS (pDr (pVar 7)))) (pLst (aCons (p2 joinD (pStr " ") (pDr (pVar 8))) aNil))) (pSl (pDr (pVar 6)) (sfS (p2 bAddI (pDr (pVar 7)) (pInt 1))) sfN))))))))))))))))))
theorem d_law_spoilt {f : Addr} {cdv : Value} {A : Around} {outer : List Env} {s : Shared} {H : Hp} {E : XK} (B : Bi mg) (hr : Room 1 (A.deeper (PyProof.Rows.envOfC "_law_spoilt" (defScope s_law_spoilt) s.heap.objs.size f cdv))) (O_X : Co_X K mg C_X) (h_law_next : Has P w K mg base "_law_next" 1 ["_law_h", "_law_many"] (spM 2 sp_law_next)) :
    DSs (cxOf (L2.CX P w) P w K mg base n_law_spoilt "_law_spoilt" (defScope s_law_spoilt) f cdv A outer s H E) E false (defBody s_law_spoilt) (w_law_spoilt) := by
  have hx : Passes (L2.CX P w) (cxOf (L2.CX P w) P w K mg base n_law_spoilt "_law_spoilt" (defScope s_law_spoilt) f cdv A outer s H E) E := passes_call (takes_of rfl rfl rfl rfl) (fun _ _ _ _ z => z)
  exact (dss_cons (ds_set (i := 2) sc_law_spoilt.nd rfl (by first | exact Or.inl rfl | exact Or.inr rfl) (de_call h_law_next (hr.mono (by decide)) (by rfl) hx (dae_cons (de_p (dp_vc 0)) (dae_cons (de_p (dp_int (c := .cln))) dae_nil))))
    (dss_cons (ds_set (i := 3) sc_law_spoilt.nd rfl (by first | exact Or.inl rfl | exact Or.inr rfl) (de_call h_law_next (hr.mono (by decide)) (by rfl) hx (dae_cons (de_p (dp_vc 0)) (dae_cons (de_p (dp_addI (c := .cln) (dp_len (c := .any) (by rfl) B.b_len (dp_dr (dp_va 1))) (dp_int (c := .any)))) dae_nil))))
    (dss_cons (ds_set (i := 4) sc_law_spoilt.nd rfl (by first | exact Or.inl rfl | exact Or.inr rfl) (de_p (dp_str (c := .cln))))
    (dss_cons (ds_set (i := 5) sc_law_spoilt.nd rfl (by first | exact Or.inl rfl | exact Or.inr rfl) (de_ixS (de_p (dp_vc 4)) (de_call h_law_next (hr.mono (by decide)) (by rfl) hx (dae_cons (de_p (dp_vc 0)) (dae_cons (de_ix (de_p (dp_lst (c := .cln) (da_cons (dp_int (c := .cln)) (da_cons (dp_len (c := .cln) (by rfl) B.b_len (dp_dr (dp_va 4))) (da_nil (c := .cln)))))) (de_call h_law_next (hr.mono (by decide)) (by rfl) hx (dae_cons (de_p (dp_vc 0)) (dae_cons (de_p (dp_int (c := .cln))) dae_nil)))) dae_nil)))))
    (dss_cons (ds_if (dte_t (dt_lt (dp_dr (dp_va 2)) (dp_int (c := .any)))) (dss_one (ds_ret (de_p (dp_catS (c := .cln) (dp_catS (c := .any) (dp_slS (c := .any) (dp_dr (dp_va 1)) do_none (do_some (dp_dr (dp_va 3)))) (dp_ix (c := .any) (dp_lst (c := .any) (da_cons (dp_dr (dp_va 5)) (da_cons (dp_str (c := .any)) (da_cons (dp_dr (dp_va 5)) (da_nil (c := .any)))))) (dp_dr (dp_va 2)))) (dp_slS (c := .any) (dp_dr (dp_va 1)) (do_some (dp_addI (c := .any) (dp_dr (dp_va 3)) (dp_int1 (c := .any) (by rfl) B.b_int (dp_gt (c := .any) (dp_dr (dp_va 2)) (dp_int (c := .any)))))) do_none))))) dss_nil)
    (dss_cons (ds_set (i := 6) sc_law_spoilt.nd rfl (by first | exact Or.inl rfl | exact Or.inr rfl) (de_p (dp_split (c := .cln) (dp_dr (dp_va 1)) (dp_str (c := .any)))))
    (dss_cons (ds_set (i := 7) sc_law_spoilt.nd rfl (by first | exact Or.inl rfl | exact Or.inr rfl) (de_call h_law_next (hr.mono (by decide)) (by rfl) hx (dae_cons (de_p (dp_vc 0)) (dae_cons (de_p (dp_len (c := .cln) (by rfl) B.b_len (dp_dr (dp_va 6)))) dae_nil))))
    (dss_cons (ds_if (dte_t (dt_lt (dp_dr (dp_va 2)) (dp_int (c := .any)))) (dss_one (ds_ret (de_p (dp_join (c := .cln) (dp_str (c := .any)) (dp_ix (c := .any) (dp_lst (c := .any) (da_cons (dp_cat (c := .any) (dp_sl (c := .any) (dp_dr (dp_va 6)) do_none (do_some (dp_dr (dp_va 7)))) (dp_sl (c := .any) (dp_dr (dp_va 6)) (do_some (dp_addI (c := .any) (dp_dr (dp_va 7)) (dp_int (c := .any)))) do_none)) (da_cons (dp_cat (c := .any) (dp_sl (c := .any) (dp_dr (dp_va 6)) do_none (do_some (dp_addI (c := .any) (dp_dr (dp_va 7)) (dp_int (c := .any))))) (dp_sl (c := .any) (dp_dr (dp_va 6)) (do_some (dp_dr (dp_va 7))) do_none)) (da_cons (dp_cat (c := .any) (dp_sl (c := .any) (dp_dr (dp_va 6)) (do_some (dp_dr (dp_va 7))) do_none) (dp_sl (c := .any) (dp_dr (dp_va 6)) do_none (do_some (dp_dr (dp_va 7))))) (da_nil (c := .any)))))) (dp_sub (c := .any) (dp_dr (dp_va 2)) (dp_int (c := .any)))))))) dss_nil)
    (dss_cons (ds_set (i := 8) sc_law_spoilt.nd rfl (by first | exact Or.inl rfl | exact Or.inr rfl) (de_p (dp_split (c := .cln) (dp_ix (c := .any) (dp_dr (dp_va 6)) (dp_dr (dp_va 7))) (dp_str (c := .any)))))
    (dss_cons (ds_set (i := 9) sc_law_spoilt.nd rfl (by first | exact Or.inl rfl | exact Or.inr rfl) (de_call h_law_next (hr.mono (by decide)) (by rfl) hx (dae_cons (de_p (dp_vc 0)) (dae_cons (de_p (dp_len (c := .cln) (by rfl) B.b_len (dp_dr (dp_va 8)))) dae_nil))))
    (dss_cons (ds_setM (i := 10) sc_law_spoilt.nd rfl (by first | exact Or.inl rfl | exact Or.inr rfl) (dp_lst (c := .frs) (da_cons (dp_str (c := .frs)) (da_cons (dp_str (c := .frs)) (da_cons (dp_str (c := .frs)) (da_cons (dp_str (c := .frs)) (da_cons (dp_str (c := .frs)) (da_cons (dp_str (c := .frs)) (da_cons (dp_str (c := .frs)) (da_cons (dp_str (c := .frs)) (da_cons (dp_str (c := .frs)) (da_cons (dp_str (c := .frs)) (da_cons (dp_str (c := .frs)) (da_cons (dp_str (c := .frs)) (da_cons (dp_str (c := .frs)) (da_cons (dp_str (c := .frs)) (da_cons (dp_str (c := .frs)) (da_cons (dp_str (c := .frs)) (da_nil (c := .frs))))))))))))))))))))
    (dss_cons (ds_app (pl_var 10) (dp_str (c := .frs)) (hbm := pe_bm PySem.F.plainAttrs_list PySem.F.slot_list_append PySem.F.type_list_append mt_append (pl_var 10) (pa_cons (dp_str (c := .frs)) pa_nil)))
    (dss_cons (ds_frz 10 (ds_set (i := 8) sc_law_spoilt.nd rfl (by first | exact Or.inl rfl | exact Or.inr rfl) (de_cat (de_cat (de_p (dp_sl (c := .cln) (dp_vc 8) do_none (do_some (dp_dr (dp_va 9))))) (de_ix (de_lst (dae_cons (de_p (dp_lst (c := .cln) (da_nil (c := .cln)))) (dae_cons (de_p (dp_rep (c := .cln) (dp_lst (c := .any) (da_cons (dp_ix (c := .any) (dp_dr (dp_va 8)) (dp_dr (dp_va 9))) (da_nil (c := .any)))) (dp_int (c := .any)))) (dae_cons (de_lst (dae_cons (de_ix (de_p (dp_vc 10)) (de_call h_law_next (hr.mono (by decide)) (by rfl) hx (dae_cons (de_p (dp_vc 0)) (dae_cons (de_p (dp_int (c := .cln))) dae_nil)))) dae_nil)) dae_nil)))) (de_p (dp_sub (c := .cln) (dp_dr (dp_va 2)) (dp_int (c := .any)))))) (de_p (dp_sl (c := .cln) (dp_vc 8) (do_some (dp_addI (c := .any) (dp_dr (dp_va 9)) (dp_int (c := .any)))) do_none)))))
    (dss_one (ds_ret (de_p (dp_join (c := .cln) (dp_str (c := .any)) (dp_cat (c := .any) (dp_cat (c := .any) (dp_sl (c := .any) (dp_dr (dp_va 6)) do_none (do_some (dp_dr (dp_va 7)))) (dp_lst (c := .any) (da_cons (dp_join (c := .any) (dp_str (c := .any)) (dp_dr (dp_va 8))) (da_nil (c := .any))))) (dp_sl (c := .any) (dp_dr (dp_va 6)) (do_some (dp_addI (c := .any) (dp_dr (dp_va 7)) (dp_int (c := .any)))) do_none)))))))))))))))))))

abbrev n_law_mix : List Str := ["_law_script", "_law_seed", "_law_mixed", "_law_cell"]
theorem sc_law_mix : FnScope n_law_mix ["_law_script", "_law_seed"] (defScope s_law_mix) := ⟨rfl, rfl, rfl, by decide +kernel, rfl, by decide +kernel, by decide +kernel⟩
theorem d_law_mix {f : Addr} {cdv : Value} {A : Around} {outer : List Env} {s : Shared} {H : Hp} {E : XK} (B : Bi mg) :
    PSs (cxOf (L2.CX P w) P w K mg base n_law_mix "_law_mix" (defScope s_law_mix) f cdv A outer s H E) (defBody s_law_mix) (t_mix K) :=
  pss_cons (ps_set (i := 2) sc_law_mix.nd rfl (Or.inl rfl) (pv 1)) (pss_cons (ps_for (passes_of rfl) rfl (pi_list (pv 0)) (pg_name (i := 3) sc_law_mix.nd rfl (Or.inl rfl)) (pss_one (ps_set (i := 2) sc_law_mix.nd rfl (Or.inl rfl) (pe_op op_mod (pe_op op_add (pe_op op_add (pe_op op_mul (pv 2) pe_int) (pe_op op_mod (pv 3) pe_int)) pe_int) pe_int))))
    (pss_one (ps_ret (pe_lst (pa_cons (pv 2) (pa_cons (pe_callTy call_list_of rfl B.b_list (by decide +kernel) (pa_cons (pv 0) pa_nil)) (pa_cons pe_int pa_nil)))))))
theorem has_law_mix0 (B : Bi mg) {f : Addr} {fd : FuncData} (F : L2.Fun K "_law_mix" "_law_mix" s_law_mix f fd) (m : mg "_law_mix" = some (.ref f)) : Has P w K mg base "_law_mix" 1 ["_law_script", "_law_seed"] (spMix K) :=
  ⟨f, fd, F.okX sc_law_mix (fun vs H Q E h => (by obtain ⟨a, ns, m, rfl, _⟩ := h; rfl)) (fun cdv A outer s H vs Q E hr h => ⟨_, d_law_mix B, r_mix rfl vs H Q E h⟩), m, F.kp, F.binds fun _ _ _ _ _ _ us hl => match us, hl with | [_, _], _ => rfl⟩

abbrev n_law : List Str := ["_law_script", "_law_h", "_law_some", "_law_turn", "_law_text", "_law_change", "_law_one", "_law_rows_here", "_law_line"]
theorem sc_law : FnScope n_law ["_law_script"] (defScope s_law) := ⟨rfl, rfl, rfl, by decide +kernel, rfl, by decide +kernel, by decide +kernel⟩
def w_law (C_X : Str → Addr) (T0 : Addr) : WS := (sSeq (sSetM 2 (pLst (aCons (pStr "") (aCons (pStr "\n") (aCons (pStr "0 clip 1") (aCons (pStr "0 clip 1 ") (aCons (pStr " 0 clip 1") (aCons (pStr "0 clip 0") (aCons (pStr "0 clip 121") (aCons (pStr "100 live 1") (aCons (pStr "0 live 1 900") aNil)))))))))))
    (sSeq (sSetM 2 (p2 catLF (pDr (pVar 2)) (pLst (aCons (pStr "0 live 1 899") (aCons (pStr "0 live 1 0") (aCons (pStr "0 clip") (aCons (pStr "0 clip 1 1 1") (aCons (pStr "0 clip 1\n") (aCons (pStr "0 clip 1\n0 clip 1") aNil)))))))))
    (sSeq (sApp (lV 2) (pStr "0 1 clip"))
    (sSeq (sFrz 2 (sFor (wA (iR1 (pInt 5))) (gN 3) (sSeq (sSet 4 (wCallP 1 ph_written (wACons (wCall 4 sp_law_rows (wACons (wP (pVar 1)) (wACons (wP (pInt 0)) (wACons (wP (pInt 900)) (wACons (wP (pInt 12)) wANil))))) wANil)))
    (sSeq (sFor (wR1 (wCall 2 sp_law_next (wACons (wP (pVar 1)) (wACons (wP (pInt 4)) wANil)))) (gN 5) (sSet 4 (wCall 2 sp_law_spoilt (wACons (wP (pVar 1)) (wACons (wP (pVar 4)) wANil)))))
    (sFor (wIL (wLst (wACons (wP (pVar 4)) (wACons (w2 ixQ (wP (pVar 2)) (wCall 2 sp_law_next (wACons (wP (pVar 1)) (wACons (wP (pInt 16)) wANil)))) wANil)))) (gN 6) (sSeq (sSet 7 (wP (pIf (tc2 (neT 8) (pDr (pVar 6)) (pStr "")) (pLc (iL (p2 splitD (pDr (pVar 6)) (pStr "\n"))) (gN 8) tYesF (pCall 1 ph_law_row (aCons (pDr (pVar 8)) aNil)) [8]) (pLst aNil))))
    (sIf (wT (tc2 inLT pNon (pDr (pVar 7)))) (sIf (w2t (neT 8) (wKind T0 lamq (KD1 C_X) (wCall 1 (sp_read C_X) (wACons (wP (pVar 6)) wANil))) (wP (pTup (aCons (pStr "BadText") (aCons (p2 idxD (pDr (pVar 7)) pNon) aNil))))) (sRet (wP (pBl false))) sNext) (sIf (wNot (wTV (wCallP 2 ph_law_alike (wACons (wCall 1 (sp_read C_X) (wACons (wP (pVar 6)) wANil)) (wACons (wP (pVar 7)) wANil))))) (sRet (wP (pBl false))) sNext))))))))
    (sRet (wP (pBl true)))))))
theorem d_law {f : Addr} {cdv : Value} {A : Around} {outer : List Env} {s : Shared} {H : Hp} {E : XK} (B : Bi mg) (hr : Room 6 (A.deeper (PyProof.Rows.envOfC "law" (defScope s_law) s.heap.objs.size f cdv))) (O_X : Co_X K mg C_X) (h_law_mix : Has P w K mg base "_law_mix" 1 ["_law_script", "_law_seed"] (spMix K)) (h_written : Has P w K mg base "written" 4 ["rows"] (spP 1 ph_written)) (h_law_rows : Has P w K mg base "_law_rows" 2 ["_law_h", "_law_begin", "_law_end", "_law_most"] (spM 4 sp_law_rows)) (h_law_next : Has P w K mg base "_law_next" 1 ["_law_h", "_law_many"] (spM 2 sp_law_next)) (h_law_spoilt : Has P w K mg base "_law_spoilt" 2 ["_law_h", "_law_text"] (spM 2 sp_law_spoilt)) (h_law_row : Has P w K mg base "_law_row" 2 ["_law_line"] (spP 1 ph_law_row)) (h_law_kind : HasK K mg "_law_kind" "_law_work" (KD1 C_X)) (h_law_alike : Has P w K mg base "_law_alike" 6 ["_law_found", "_law_due"] (spP 2 ph_law_alike)) (h_read : Has P w K mg base "read" 4 ["text"] (spM 1 (sp_read C_X))) {c0 T0 : Addr} (TB : LamX.TabB base mg c0 T0) (ec : cdv = .ref c0) :
    PSs (cxOf (L2.CX P w) P w K mg base n_law "law" (defScope s_law) f cdv A outer s H E) (defBody s_law) (tSeq (tAsg (tCall (spMix K) [] E0 (tCons (tVar 0) (tCons (tC (.int 47)) tNil))) (gName 1)) (tDS E false (w_law C_X T0))) := by
  have hx : Passes (L2.CX P w) (cxOf (L2.CX P w) P w K mg base n_law "law" (defScope s_law) f cdv A outer s H E) E := passes_call (takes_of rfl rfl rfl rfl) (fun _ _ _ _ z => z)
  obtain ⟨f', fd, Fn, hm, hk, hb⟩ := h_law_mix.ex
  exact pss_cons (ps_set (i := 1) sc_law.nd rfl (by first | exact Or.inl rfl | exact Or.inr rfl) (pe_call Fn (hr.mono (by decide)) rfl hm hk hb .nil passL (pa_cons (pv 0) (pa_cons pe_int pa_nil)))) (dss_cons (ds_setM (i := 2) sc_law.nd rfl (by first | exact Or.inl rfl | exact Or.inr rfl) (dp_lst (c := .frs) (da_cons (dp_str (c := .frs)) (da_cons (dp_str (c := .frs)) (da_cons (dp_str (c := .frs)) (da_cons (dp_str (c := .frs)) (da_cons (dp_str (c := .frs)) (da_cons (dp_str (c := .frs)) (da_cons (dp_str (c := .frs)) (da_cons (dp_str (c := .frs)) (da_cons (dp_str (c := .frs)) (da_nil (c := .frs)))))))))))))
    (dss_cons (ds_setM (i := 2) sc_law.nd rfl (by first | exact Or.inl rfl | exact Or.inr rfl) (dp_catF (c := .frs) (dp_dr (dp_va 2)) (dp_lst (c := .any) (da_cons (dp_str (c := .any)) (da_cons (dp_str (c := .any)) (da_cons (dp_str (c := .any)) (da_cons (dp_str (c := .any)) (da_cons (dp_str (c := .any)) (da_cons (dp_str (c := .any)) (da_nil (c := .any)))))))))))
    (dss_cons (ds_app (pl_var 2) (dp_str (c := .frs)) (hbm := pe_bm PySem.F.plainAttrs_list PySem.F.slot_list_append PySem.F.type_list_append mt_append (pl_var 2) (pa_cons (dp_str (c := .frs)) pa_nil)))
    (dss_cons (ds_frz 2 (ds_for (passes_of rfl) rfl (die_p (di_range1 (c := .cln) (by rfl) B.b_range (dp_int (c := .any)))) (dg_name (i := 3) sc_law.nd rfl (by first | exact Or.inl rfl | exact Or.inr rfl)) (dss_cons (ds_set (i := 4) sc_law.nd rfl (by first | exact Or.inl rfl | exact Or.inr rfl) (de_callP h_written (hr.mono (by decide)) (by rfl) (dae_cons (de_call h_law_rows (hr.mono (by decide)) (by rfl) hx (dae_cons (de_p (dp_vc 1)) (dae_cons (de_p (dp_int (c := .cln))) (dae_cons (de_p (dp_int (c := .cln))) (dae_cons (de_p (dp_int (c := .cln))) dae_nil))))) dae_nil)))
    (dss_cons (ds_for (passes_of rfl) rfl (die_range1 (by rfl) B.b_range (de_call h_law_next (hr.mono (by decide)) (by rfl) hx (dae_cons (de_p (dp_vc 1)) (dae_cons (de_p (dp_int (c := .cln))) dae_nil)))) (dg_name (i := 5) sc_law.nd rfl (by first | exact Or.inl rfl | exact Or.inr rfl)) (dss_one (ds_set (i := 4) sc_law.nd rfl (by first | exact Or.inl rfl | exact Or.inr rfl) (de_call h_law_spoilt (hr.mono (by decide)) (by rfl) hx (dae_cons (de_p (dp_vc 1)) (dae_cons (de_p (dp_vc 4)) dae_nil))))))
    (dss_one (ds_for (passes_of rfl) rfl (die_list (de_lst (dae_cons (de_p (dp_vc 4)) (dae_cons (de_ix (de_p (dp_vc 2)) (de_call h_law_next (hr.mono (by decide)) (by rfl) hx (dae_cons (de_p (dp_vc 1)) (dae_cons (de_p (dp_int (c := .cln))) dae_nil)))) dae_nil)))) (dg_name (i := 6) sc_law.nd rfl (by first | exact Or.inl rfl | exact Or.inr rfl)) (dss_cons (ds_set (i := 7) sc_law.nd rfl (by first | exact Or.inl rfl | exact Or.inr rfl) (de_p (dp_if (c := .cln) (dt_ne hr.units (dp_dr (dp_va 6)) (dp_str (c := .any))) (dp_lcC (own := [("_law_line", 8)]) (by intro z; cases z) rfl sc_law.nd (di_list (dp_split (c := .cln) (dp_dr (dp_va 6)) (dp_str (c := .any)))) (blkOk_by (own := [("_law_line", 8)]) (N := n_law) (sc := defScope s_law) (by decide +kernel)) (by decide) (fun _ _ _ _ _ => (dg_name (i := 8) sc_law.nd rfl (by first | exact Or.inl rfl | exact Or.inr rfl))) (fun _ _ _ _ _ => dts_nil) (fun _ _ _ _ _ => (dp_call (c := .cln) h_law_row (hr.mono (by decide)) (by rfl) (da_cons (dp_dr (dp_va 8)) (da_nil (c := .any)))))) (dp_lst (c := .cln) (da_nil (c := .cln))))))
    (dss_one (ds_if (dte_t (dt_inL (hu65 hr) (dp_non (c := .any)) (dp_dr (dp_va 7)))) (dss_one (ds_if (dte_ne hr.units (de_kindH (n := 4) h_law_kind (by rfl) (by rfl) TB ec (hr.mono (by decide)) (LamX.lamS_by (sc := defScope s_law) (by decide +kernel)) (fun A outer s H E f b hr => lam_body fun hx => (de_call h_read (hr.mono (by decide)) (by rfl) hx (dae_cons (de_p (dp_vc 6)) dae_nil)))) (de_p (dp_tup (c := .cln) (da_cons (dp_str (c := .cln)) (da_cons (dp_index (c := .cln) (hu65 hr) (dp_dr (dp_va 7)) (dp_non (c := .any))) (da_nil (c := .cln))))))) (dss_one (ds_ret (de_p (dp_bl (c := .cln))))) dss_nil)) (dss_one (ds_if (dte_not (dte_val (de_callP h_law_alike (hr.mono (by decide)) (by rfl) (dae_cons (de_call h_read (hr.mono (by decide)) (by rfl) hx (dae_cons (de_p (dp_vc 6)) dae_nil)) (dae_cons (de_p (dp_vc 7)) dae_nil))))) (dss_one (ds_ret (de_p (dp_bl (c := .cln))))) dss_nil)))))))))))
    (dss_one (ds_ret (de_p (dp_bl (c := .cln)))))))))
end
structure Fs (K : PySem.W.Frag) (mg : Str → Option Value) (C_X : Str → Addr) : Prop where
  f_BadText_init : ∃ f fd, L2.Fun K "__init__" "BadText.__init__" s_BadText_init f fd ∧ Meth K (C_X "BadText") "__init__" f
  f_is_number : ∃ f fd, L2.Fun K "is_number" "is_number" s_is_number f fd ∧ mg "is_number" = some (.ref f)
  f_is_row : ∃ f fd, L2.Fun K "is_row" "is_row" s_is_row f fd ∧ mg "is_row" = some (.ref f)
  f_need_rows : ∃ f fd, L2.Fun K "need_rows" "need_rows" s_need_rows f fd ∧ mg "need_rows" = some (.ref f)
  f_written : ∃ f fd, L2.Fun K "written" "written" s_written f fd ∧ mg "written" = some (.ref f)
  f_number_of : ∃ f fd, L2.Fun K "number_of" "number_of" s_number_of f fd ∧ mg "number_of" = some (.ref f)
  f_row_of : ∃ f fd, L2.Fun K "row_of" "row_of" s_row_of f fd ∧ mg "row_of" = some (.ref f)
  f_read : ∃ f fd, L2.Fun K "read" "read" s_read f fd ∧ mg "read" = some (.ref f)
  f_law_mix : ∃ f fd, L2.Fun K "_law_mix" "_law_mix" s_law_mix f fd ∧ mg "_law_mix" = some (.ref f)
  f_law_next : ∃ f fd, L2.Fun K "_law_next" "_law_next" s_law_next f fd ∧ mg "_law_next" = some (.ref f)
  f_law_alike : ∃ f fd, L2.Fun K "_law_alike" "_law_alike" s_law_alike f fd ∧ mg "_law_alike" = some (.ref f)
  f_law_rows : ∃ f fd, L2.Fun K "_law_rows" "_law_rows" s_law_rows f fd ∧ mg "_law_rows" = some (.ref f)
  f_law_kind : ∃ f fd, L2.Fun K "_law_kind" "_law_kind" s_law_kind f fd ∧ mg "_law_kind" = some (.ref f)
  f_law_figures : ∃ f fd, L2.Fun K "_law_figures" "_law_figures" s_law_figures f fd ∧ mg "_law_figures" = some (.ref f)
  f_law_row : ∃ f fd, L2.Fun K "_law_row" "_law_row" s_law_row f fd ∧ mg "_law_row" = some (.ref f)
  f_law_spoilt : ∃ f fd, L2.Fun K "_law_spoilt" "_law_spoilt" s_law_spoilt f fd ∧ mg "_law_spoilt" = some (.ref f)
  f_law : ∃ f fd, L2.Fun K "law" "law" s_law f fd ∧ mg "law" = some (.ref f)
end K14
set_option maxHeartbeats 4000000
namespace K14
open PySem L2 DL
theorem r_is_number (ds : List D) (M : Nm) (hl : ds.length = 3) (h : (ph_is_number ds M).ok) : w_is_number { nx := fun _ _ => (ph_is_number ds M).val = .non, rt := fun d M' => RES M' d (ph_is_number ds M).val } (startD n_is_number.length ds) (ro M) := by
  obtain ⟨x, lo, hi, rfl, ht⟩ := h
  simp! only [w_is_number, ph_is_number, n_is_number]
  cases x <;> simp [Ty, isiB, tyN, IsI, IsB, toB, RES_bl, isnum, toI, lk, drf] at ht ⊢
  rfl
end K14
set_option maxHeartbeats 4000000
namespace K14
open PySem L2 DL
def gr : List Int → Int → Int → Nat
  | [], _, _ => 0
  | d :: ds, t, k => if t ≤ k then 0 else 1 + gr ds (t - d) k
theorem fo_cons {a : Int} {s : List Int} {k : Int} : fo (a :: s) k = if a ≤ k then min (1 + fo s k) (fo s (k - a)) else 1 + fo s k := by rw [fo]
theorem fo_mono : ∀ {s : List Int} {k k2 : Int}, k ≤ k2 → fo s k2 ≤ fo s k
  | [], _, _, _ => Nat.le_refl _
  | a :: s, k, k2, h => by
    have i1 := fo_mono (s := s) h
    have i2 := fo_mono (s := s) (k := k - a) (k2 := k2 - a) (by omega)
    unfold fo
    split <;> split <;> omega
theorem fo_perm {xs ys : List Int} (p : xs.Perm ys) : (∀ x ∈ xs, 0 ≤ x) → ∀ k, fo xs k = fo ys k := by
  induction p with
  | nil => intro _ k; rfl
  | cons x p ih =>
    intro h k
    have ih := ih fun y hy => h y (by simp [hy])
    unfold fo; rw [ih, ih]
  | swap x y l =>
    intro h k
    have hx := h x (by simp)
    have hy := h y (by simp)
    have e : k - x - y = k - y - x := by omega
    simp only [fo]
    rw [e]
    split <;> split <;> (try split) <;> (try split) <;> omega
  | trans p1 p2 i1 i2 =>
    intro h k
    rw [i1 h, i2 fun x hx => h x (p1.mem_iff.mpr hx)]
theorem fo_all : ∀ {s : List Int} {k : Int}, (∀ x ∈ s, 0 ≤ x) → s.sum ≤ k → fo s k = 0
  | [], _, _, _ => rfl
  | a :: s, k, h, e => by
    simp at e
    have hs : 0 ≤ s.sum := by
      have : ∀ t : List Int, (∀ x ∈ t, 0 ≤ x) → 0 ≤ t.sum := by
        intro t; induction t with
        | nil => intro _; simp
        | cons b t ih => intro h; have := h b (by simp); have := ih fun y hy => h y (by simp [hy]); simp; omega
      exact this s fun y hy => h y (by simp [hy])
    have := fo_all (s := s) (k := k - a) (fun y hy => h y (by simp [hy])) (by omega)
    unfold fo
    rw [if_pos (by omega)]; omega
theorem fo_swap {a : Int} : ∀ {t : List Int} {k : Int}, (∀ x ∈ t, x ≤ a) → 0 ≤ k → k < t.sum → 1 + fo t (k + a) ≤ fo t k
  | [], k, _, h0, h1 => by simp at h1; omega
  | c :: t, k, h, h0, h1 => by
    have hc := h c (by simp)
    simp at h1
    have m := fo_mono (s := t) (k := k) (k2 := k + a - c) (by omega)
    have e : k - c + a = k + a - c := by omega
    by_cases hk : c ≤ k
    · have ih := fo_swap (t := t) (k := k - c) (fun y hy => h y (by simp [hy])) (by omega) (by omega)
      rw [e] at ih
      simp only [fo]
      rw [if_pos hk, if_pos (by omega)]; omega
    · simp only [fo]
      rw [if_neg hk]
      split <;> omega
theorem fo_gr : ∀ {ds : List Int} {k : Int}, ds.Pairwise (· ≥ ·) → (∀ x ∈ ds, 0 ≤ x) → 0 ≤ k → fo ds k = gr ds ds.sum k
  | [], _, _, _, _ => rfl
  | a :: t, k, p, h, h0 => by
    obtain ⟨p1, p2⟩ := List.pairwise_cons.mp p
    by_cases hs : (a :: t).sum ≤ k
    · rw [fo_all h hs]; unfold gr; rw [if_pos hs]
    · have ih := fo_gr (ds := t) (k := k) p2 (fun y hy => h y (by simp [hy])) h0
      unfold gr
      rw [if_neg hs]
      have e : (a :: t).sum - a = t.sum := by simp; omega
      rw [e, ← ih]
      simp at hs
      rw [fo_cons]
      by_cases ha : a ≤ k
      · have := fo_swap (a := a) (t := t) (k := k - a) (fun y hy => p1 y hy) (by omega) (by omega)
        rw [show k - a + a = k by omega] at this
        rw [if_pos ha]; omega
      · rw [if_neg ha]
theorem fo_sorted {ls : List Int} {k : Int} (h : ∀ x ∈ ls, 0 ≤ x) (h0 : 0 ≤ k) : fo ls k = gr (sortI ls).reverse ls.sum k := by
  have p : ((sortI ls).reverse).Perm ls := (List.reverse_perm _).trans (sortI_perm ls)
  rw [fo_perm p.symm h k, fo_gr (List.pairwise_reverse.mpr (by simpa using sortI_sorted ls)) (fun x hx => h x (p.mem_iff.mp hx)) h0]
  congr 1
  exact sum_perm p
theorem ch_room : ∀ {rs : List Row} {k : Int}, 0 ≤ k → ((ch rs k).1.map Row.len).sum ≤ k
  | [], k, h => by simpa [ch] using h
  | r :: s, k, h => by
    unfold ch
    split
    · rename_i c
      have := ch_room (rs := s) (k := k - r.len) (by omega)
      simp; omega
    · exact ch_room (rs := s) h
theorem ch_mem : ∀ {rs : List Row} {k : Int}, (∀ r ∈ (ch rs k).1, r ∈ rs) ∧ (∀ r ∈ (ch rs k).2, r ∈ rs) ∧ (ch rs k).1.length + (ch rs k).2.length = rs.length
  | [], k => by simp [ch]
  | r :: s, k => by
    unfold ch
    split
    · obtain ⟨a, b, c⟩ := ch_mem (rs := s) (k := k - r.len)
      refine ⟨fun x hx => ?_, fun x hx => by simp [b x hx], by simp; omega⟩
      rcases List.mem_cons.mp hx with rfl | hx
      · simp
      · simp [a x hx]
    · obtain ⟨a, b, c⟩ := ch_mem (rs := s) (k := k)
      refine ⟨fun x hx => by simp [a x hx], fun x hx => ?_, by simp; omega⟩
      rcases List.mem_cons.mp hx with rfl | hx
      · simp
      · simp [b x hx]
theorem toR_row (r : Row) : toR (rowD r) = r := by
  obtain ⟨i, b, l, m⟩ := r
  cases m <;> cases b <;> simp [rowD, toR, moD, kindS] <;> decide +kernel
theorem toRs_dR (rs : List Row) : toRs (dR rs) = rs := by
  unfold toRs
  rw [toL_lst, List.map_map]
  exact (List.map_congr_left fun r _ => toR_row r).trans (List.map_id rs)
theorem addS_snoc {e : Int} {s : Stt} {r : Row} : ∀ {init : List Stt}, addS e (init ++ [s]) r = init ++ (match r.mo with | none => [{ s with some_ := s.some_ ++ [r] }] | some m => [{ s with last := m }, ⟨m, e, some r, []⟩])
  | [] => by cases h : r.mo <;> simp [addS, h]
  | [t] => by cases h : r.mo <;> simp [addS, h]
  | t :: u :: ts => by
    have ih := addS_snoc (e := e) (s := s) (r := r) (init := u :: ts)
    simp only [List.cons_append] at ih ⊢
    rw [addS, ih]
end K14
set_option maxHeartbeats 4000000
namespace K14
open PySem L2 DL
theorem r_law_next (ds : List D) (M : Nm) (Q' : D → Nm → Prop) (E' : ED) (hl : ds.length = 2) (h : sp_law_next ds M Q' E') : w_law_next { nx := fun _ M' => Q' .non M', rt := Q', ex := E' } (startD n_law_next.length ds) M := by
  obtain ⟨a, many, d, rfl, hN, ⟨s, cs, k, rfl, h1, h2, h3⟩, hm, hm2, q⟩ := h
  simp! only [w_law_next, n_law_next, dI]
  simp! only [drf_ref hN, atI_0, atI_1, atI_2]
  have hc : ∃ c : Int, (if (neT 8 (.lst (cs.map .int)) (.lst [])).b = true then (atI (cs.map D.int) (k % max 1 ↑(cs.map D.int).length)).getD .non else .int 0) = .int c ∧ (neT 8 (.lst (cs.map .int)) (.lst [])).ok ∧
      ((neT 8 (.lst (cs.map .int)) (.lst [])).b = true → (atI (cs.map D.int) (k % max 1 ↑(cs.map D.int).length)).isSome = true ∧ lf ((atI (cs.map D.int) (k % max 1 ↑(cs.map D.int).length)).getD .non)) ∧ (cs = [] → c = 0) := by
    cases cs with
    | nil => exact ⟨0, by simp [neT, eqD_lst, eqDs_nil], by simp [neT, okD], by simp [neT, eqD_lst, eqDs_nil], fun _ => rfl⟩
    | cons x xs =>
      have h4 : (0 : Int) ≤ k % max 1 ↑((x :: xs).map D.int).length := Int.emod_nonneg _ (by omega)
      have h5 : k % max 1 ↑((x :: xs).map D.int).length < max 1 ↑((x :: xs).map D.int).length := Int.emod_lt_of_pos _ (by omega)
      have h6 : (max 1 (((x :: xs).map D.int).length : Int)) = ((x :: xs).length : Nat) := by simp; omega
      have e : atI ((x :: xs).map D.int) (k % max 1 ↑((x :: xs).map D.int).length) = some (.int ((x :: xs).getD (k % max 1 ↑((x :: xs).map D.int).length).toNat 0)) := by
        rw [atI_map, atI_nn h4, getD_list (a := 0) (by rw [h6] at h5 h4 ⊢; omega)]; rfl
      rw [e]
      exact ⟨_, by simp [neT, eqD_lst, eqDs_cn]; rfl, by simp [neT, okD], fun _ => ⟨rfl, by simp [lf]⟩, fun z => by simp at z⟩
  obtain ⟨c, ec, ho, hs, hn⟩ := hc
  refine ⟨by omega, ⟨⟨by simp [SZ], ho⟩, ?_⟩, ?_⟩
  · split
    · rename_i hb; exact hs hb
    · trivial
  rw [ec]
  simp! only []
  refine ⟨⟨by omega, by omega, by decide⟩, ?_⟩
  split
  · rename_i hbig
    have hbig : (1000000000000000000 : Int) ≤ c := of_decide_eq_true hbig
    have hne : cs ≠ [] := fun z => by have := hn z; omega
    have hl0 : 0 < cs.length := List.length_pos_iff.mpr hne
    have h4 : (0 : Int) ≤ k % max 1 ↑(cs.map D.int).length := Int.emod_nonneg _ (by omega)
    have h5 : k % max 1 ↑(cs.map D.int).length < max 1 ↑(cs.map D.int).length := Int.emod_lt_of_pos _ (by omega)
    have h6 : (max 1 ((cs.map D.int).length : Int)) = (cs.length : Nat) := by simp; omega
    refine ⟨cdivW hm hm2, _, cs.map D.int, (k % max 1 ↑(cs.map D.int).length).toNat, hN, by simp [sub, stpIx, ixN, kids], ?_, hm, ?_⟩
    · rw [List.length_map] at h5 h4 ⊢
      exact ixN_nn h4 (by simp at h6; omega)
    · refine q _ _ (Int.emod_nonneg _ (by omega)) (Int.emod_lt_of_pos _ hm) ⟨s, cs.set (k % max 1 ↑(cs.map D.int).length).toNat (c / many), k, ?_, h1, h2, h3⟩
      simp [put, stpIx, ixN, kids, setKid, dI, List.map_set]
  · refine ⟨⟨⟨.inr ⟨by decide, by decide⟩, .inr ⟨by decide, by decide⟩⟩, by decide⟩, _, _, 0, hN, sub_nil, rfl, ?_⟩
    simp! only [put_nil, atI_0, atI_1, atI_2]
    refine ⟨_, _, 2, updN_same, sub_nil, rfl, ?_⟩
    simp! only [put_nil, atI_0, atI_1, atI_2, updN_twice]
    have g1 : (0 : Int) ≤ (s * 48271 + c * 69621 + 11) % 2147483647 := Int.emod_nonneg _ (by decide)
    have g2 : (s * 48271 + c * 69621 + 11) % 2147483647 < 2147483647 := Int.emod_lt_of_pos _ (by decide)
    refine ⟨⟨cdivW (by decide) (by decide), hm⟩, q _ _ (Int.emod_nonneg _ (by omega)) (Int.emod_lt_of_pos _ hm) ⟨_, cs, k + 1, rfl, g1, g2, by omega⟩⟩
theorem Pl.ok : ∀ (n : Nat) (x : D), Pl n x → Ty x
  | 0, _, h => h.elim
  | n + 1, .non, _ | n + 1, .bl _, _ | n + 1, .int _, _ | n + 1, .str _, _ | n + 1, .tup _, _ | n + 1, .lst _, _ => trivial
  | n + 1, .dic _ _, h | n + 1, .obj _ _ _ _, h | n + 1, .ref _, h => h.elim
theorem r_law_alike (n : Nat) (ds : List D) (M : Nm) (hl : ds.length = 2) (h : (phr_law_alike (n + 1) ds M).ok) : w_law_alike n { nx := fun _ _ => (phr_law_alike (n + 1) ds M).val = .non, rt := fun d M' => RES M' d (phr_law_alike (n + 1) ds M).val } (startD n_law_alike.length ds) (ro M) := by
  obtain ⟨x, rfl, hp⟩ := h
  show w_law_alike n { nx := fun _ _ => (D.bl true) = .non, rt := fun d M' => RES M' d (.bl true) } [some x, some x, none] (ro M)
  simp! only [w_law_alike]
  have hseq : ∀ xs : List D, xs.length ≤ 100000 → (∀ x ∈ xs, Pl n x) → 
      (∀ d ∈ (rng 0 (xs.length : Int).toNat).map D.int, IsI (drf (ro M) d) ∧ (atI xs (toI (drf (ro M) d))).isSome = true ∧ (phr_law_alike n [(atI xs (toI (drf (ro M) d))).getD .non, (atI xs (toI (drf (ro M) d))).getD .non] (ro M)).ok ∧ (phr_law_alike n [(atI xs (toI (drf (ro M) d))).getD .non, (atI xs (toI (drf (ro M) d))).getD .non] (ro M)).val = .bl true) := fun xs h1 h2 d hd => by
    obtain ⟨i, hi, rfl⟩ := List.mem_map.mp hd
    obtain ⟨j, hj⟩ := List.getElem?_of_mem hi
    have hj2 : j < xs.length := by
      have := (List.getElem?_eq_some_iff.mp hj).1; simpa [rng_length] using this
    rw [rng_get _ _ _ (by simpa using hj2)] at hj
    have : i = (j : Int) := by simp at hj; omega
    subst this
    have ea : atI xs (toI (drf (ro M) (.int (j : Int)))) = some xs[j] := by
      rw [drf_int, toI_int, DL.atI_nat, List.getElem?_eq_getElem hj2]
    have hpl := h2 xs[j] (List.getElem_mem hj2)
    rw [ea]
    refine ⟨trivial, rfl, ?_⟩
    cases n with
    | zero => exact hpl.elim
    | succ n => exact ⟨⟨_, rfl, hpl⟩, rfl⟩
  cases x with
  | non => simp [isiB, tyN, isN, RES_bl, DL.sSetZ, DL.sRetZ, DL.sPar1, DL.sSeq, DL.sIf, DL.sSet, DL.sSetM, DL.sSetMN, DL.sAppN, DL.sSetMT, DL.sSetMS, DL.wLc, DL.wYes, DL.wPop, DL.wSl, DL.w1, DL.w1r, DL.lcW, DL.sFor, DL.sNext, DL.sRet, DL.sRetF, DL.sRetN, DL.sDrop, DL.sApp, DL.sAppR, DL.sSetIx, DL.sPar, DL.sParM, DL.sAsg, DL.wP, DL.wT, DL.wA, DL.wCall, DL.wCallP, DL.wACons, DL.wANil, DL.w2, DL.w2c, DL.w2t, DL.wIf, DL.wTup, DL.wLst, DL.wR1, DL.wAnd, DL.wOr, DL.wNot, DL.wTV, DL.pVar, DL.pInt, DL.pBl, DL.pStr, DL.pNon, DL.pDr, DL.pLf, DL.p1, DL.p2, DL.bI, DL.pc2, DL.tc2, DL.cI, DL.pAnd, DL.pOr, DL.pNot, DL.pIf, DL.pIsi, DL.pIsi2, DL.pChain, DL.tOf, DL.tNot1, DL.tAnd2, DL.tOr2, DL.tChn, DL.tIsN, DL.tNotN, DL.pIsN, DL.pNotN, DL.pNeg, DL.pSl, DL.pSlF, DL.pSlU, DL.pRev, DL.sfN, DL.sfS, DL.iU, DL.iL, DL.iR1, DL.iR2, DL.aCons, DL.aNil, DL.pLst, DL.pTup, DL.pLc, DL.pLcF, DL.pCall, DL.lV, DL.lIx, DL.lk, DL.startD, DL.ro, DL.gN, DL.gT, DL.gTL, DL.gC_cons, DL.gNl, DL.iS, DL.iE, DL.sAppC, DL.IsI_int, DL.toI_int, DL.IsB_bl, DL.toB_bl, DL.IsS_str, DL.toS_str, DL.IsL_lst, DL.IsU_tup, DL.IsQ_lst, DL.IsQ_tup, DL.toL_lst, DL.toL_tup, DL.drf_int, DL.drf_bl, DL.drf_str, DL.drf_non, DL.drf_lst, DL.drf_tup, DL.drf_obj, DL.drf_upd, DL.lenD_lst, DL.lenD_tup, DL.intD_int, DL.intD_bl, DL.rA_ref, DL.lf_int, DL.lf_bl, DL.lf_non, DL.lf_str, DL.lf_ref, DL.IsC_lst, DL.Ty_int, DL.Ty_tup, DL.Ty_lst, DL.Ty_bl, DL.Ty_str, DL.Ty_non, DL.wipeD, DL.ixQ, DL.tYesF, DL.bAddI, DL.bSub, DL.bMul, DL.bMod, DL.bFdiv, DL.bPow, DL.bMax2, DL.bMin2, DL.cLt, DL.cLe, DL.cGt, DL.cGe, List.set, List.map, List.length, List.length_cons, List.length_nil, List.replicate, List.nil_append, List.cons_append, List.append_nil, Option.isSome_some, Option.getD_some, Option.isSome_none, Bool.not_true, Bool.not_false, and_true, true_and, and_self, implies_true, Nat.zero_add, List.length_set, List.length_replicate]
  | bl b => simp [isiB, tyN, isN, RES_bl, eqT, okD, eqD_bl, DL.sSetZ, DL.sRetZ, DL.sPar1, DL.sSeq, DL.sIf, DL.sSet, DL.sSetM, DL.sSetMN, DL.sAppN, DL.sSetMT, DL.sSetMS, DL.wLc, DL.wYes, DL.wPop, DL.wSl, DL.w1, DL.w1r, DL.lcW, DL.sFor, DL.sNext, DL.sRet, DL.sRetF, DL.sRetN, DL.sDrop, DL.sApp, DL.sAppR, DL.sSetIx, DL.sPar, DL.sParM, DL.sAsg, DL.wP, DL.wT, DL.wA, DL.wCall, DL.wCallP, DL.wACons, DL.wANil, DL.w2, DL.w2c, DL.w2t, DL.wIf, DL.wTup, DL.wLst, DL.wR1, DL.wAnd, DL.wOr, DL.wNot, DL.wTV, DL.pVar, DL.pInt, DL.pBl, DL.pStr, DL.pNon, DL.pDr, DL.pLf, DL.p1, DL.p2, DL.bI, DL.pc2, DL.tc2, DL.cI, DL.pAnd, DL.pOr, DL.pNot, DL.pIf, DL.pIsi, DL.pIsi2, DL.pChain, DL.tOf, DL.tNot1, DL.tAnd2, DL.tOr2, DL.tChn, DL.tIsN, DL.tNotN, DL.pIsN, DL.pNotN, DL.pNeg, DL.pSl, DL.pSlF, DL.pSlU, DL.pRev, DL.sfN, DL.sfS, DL.iU, DL.iL, DL.iR1, DL.iR2, DL.aCons, DL.aNil, DL.pLst, DL.pTup, DL.pLc, DL.pLcF, DL.pCall, DL.lV, DL.lIx, DL.lk, DL.startD, DL.ro, DL.gN, DL.gT, DL.gTL, DL.gC_cons, DL.gNl, DL.iS, DL.iE, DL.sAppC, DL.IsI_int, DL.toI_int, DL.IsB_bl, DL.toB_bl, DL.IsS_str, DL.toS_str, DL.IsL_lst, DL.IsU_tup, DL.IsQ_lst, DL.IsQ_tup, DL.toL_lst, DL.toL_tup, DL.drf_int, DL.drf_bl, DL.drf_str, DL.drf_non, DL.drf_lst, DL.drf_tup, DL.drf_obj, DL.drf_upd, DL.lenD_lst, DL.lenD_tup, DL.intD_int, DL.intD_bl, DL.rA_ref, DL.lf_int, DL.lf_bl, DL.lf_non, DL.lf_str, DL.lf_ref, DL.IsC_lst, DL.Ty_int, DL.Ty_tup, DL.Ty_lst, DL.Ty_bl, DL.Ty_str, DL.Ty_non, DL.wipeD, DL.ixQ, DL.tYesF, DL.bAddI, DL.bSub, DL.bMul, DL.bMod, DL.bFdiv, DL.bPow, DL.bMax2, DL.bMin2, DL.cLt, DL.cLe, DL.cGt, DL.cGe, List.set, List.map, List.length, List.length_cons, List.length_nil, List.replicate, List.nil_append, List.cons_append, List.append_nil, Option.isSome_some, Option.getD_some, Option.isSome_none, Bool.not_true, Bool.not_false, and_true, true_and, and_self, implies_true, Nat.zero_add, List.length_set, List.length_replicate]
  | int b => simp [isiB, tyN, isN, RES_bl, eqT, okD, eqD_int, DL.sSetZ, DL.sRetZ, DL.sPar1, DL.sSeq, DL.sIf, DL.sSet, DL.sSetM, DL.sSetMN, DL.sAppN, DL.sSetMT, DL.sSetMS, DL.wLc, DL.wYes, DL.wPop, DL.wSl, DL.w1, DL.w1r, DL.lcW, DL.sFor, DL.sNext, DL.sRet, DL.sRetF, DL.sRetN, DL.sDrop, DL.sApp, DL.sAppR, DL.sSetIx, DL.sPar, DL.sParM, DL.sAsg, DL.wP, DL.wT, DL.wA, DL.wCall, DL.wCallP, DL.wACons, DL.wANil, DL.w2, DL.w2c, DL.w2t, DL.wIf, DL.wTup, DL.wLst, DL.wR1, DL.wAnd, DL.wOr, DL.wNot, DL.wTV, DL.pVar, DL.pInt, DL.pBl, DL.pStr, DL.pNon, DL.pDr, DL.pLf, DL.p1, DL.p2, DL.bI, DL.pc2, DL.tc2, DL.cI, DL.pAnd, DL.pOr, DL.pNot, DL.pIf, DL.pIsi, DL.pIsi2, DL.pChain, DL.tOf, DL.tNot1, DL.tAnd2, DL.tOr2, DL.tChn, DL.tIsN, DL.tNotN, DL.pIsN, DL.pNotN, DL.pNeg, DL.pSl, DL.pSlF, DL.pSlU, DL.pRev, DL.sfN, DL.sfS, DL.iU, DL.iL, DL.iR1, DL.iR2, DL.aCons, DL.aNil, DL.pLst, DL.pTup, DL.pLc, DL.pLcF, DL.pCall, DL.lV, DL.lIx, DL.lk, DL.startD, DL.ro, DL.gN, DL.gT, DL.gTL, DL.gC_cons, DL.gNl, DL.iS, DL.iE, DL.sAppC, DL.IsI_int, DL.toI_int, DL.IsB_bl, DL.toB_bl, DL.IsS_str, DL.toS_str, DL.IsL_lst, DL.IsU_tup, DL.IsQ_lst, DL.IsQ_tup, DL.toL_lst, DL.toL_tup, DL.drf_int, DL.drf_bl, DL.drf_str, DL.drf_non, DL.drf_lst, DL.drf_tup, DL.drf_obj, DL.drf_upd, DL.lenD_lst, DL.lenD_tup, DL.intD_int, DL.intD_bl, DL.rA_ref, DL.lf_int, DL.lf_bl, DL.lf_non, DL.lf_str, DL.lf_ref, DL.IsC_lst, DL.Ty_int, DL.Ty_tup, DL.Ty_lst, DL.Ty_bl, DL.Ty_str, DL.Ty_non, DL.wipeD, DL.ixQ, DL.tYesF, DL.bAddI, DL.bSub, DL.bMul, DL.bMod, DL.bFdiv, DL.bPow, DL.bMax2, DL.bMin2, DL.cLt, DL.cLe, DL.cGt, DL.cGe, List.set, List.map, List.length, List.length_cons, List.length_nil, List.replicate, List.nil_append, List.cons_append, List.append_nil, Option.isSome_some, Option.getD_some, Option.isSome_none, Bool.not_true, Bool.not_false, and_true, true_and, and_self, implies_true, Nat.zero_add, List.length_set, List.length_replicate]
  | str b => 
    have hp : PyData.strOk b = true := hp
    simp [isiB, tyN, isN, RES_bl, eqT, okD, eqD_str, hp, DL.sSetZ, DL.sRetZ, DL.sPar1, DL.sSeq, DL.sIf, DL.sSet, DL.sSetM, DL.sSetMN, DL.sAppN, DL.sSetMT, DL.sSetMS, DL.wLc, DL.wYes, DL.wPop, DL.wSl, DL.w1, DL.w1r, DL.lcW, DL.sFor, DL.sNext, DL.sRet, DL.sRetF, DL.sRetN, DL.sDrop, DL.sApp, DL.sAppR, DL.sSetIx, DL.sPar, DL.sParM, DL.sAsg, DL.wP, DL.wT, DL.wA, DL.wCall, DL.wCallP, DL.wACons, DL.wANil, DL.w2, DL.w2c, DL.w2t, DL.wIf, DL.wTup, DL.wLst, DL.wR1, DL.wAnd, DL.wOr, DL.wNot, DL.wTV, DL.pVar, DL.pInt, DL.pBl, DL.pStr, DL.pNon, DL.pDr, DL.pLf, DL.p1, DL.p2, DL.bI, DL.pc2, DL.tc2, DL.cI, DL.pAnd, DL.pOr, DL.pNot, DL.pIf, DL.pIsi, DL.pIsi2, DL.pChain, DL.tOf, DL.tNot1, DL.tAnd2, DL.tOr2, DL.tChn, DL.tIsN, DL.tNotN, DL.pIsN, DL.pNotN, DL.pNeg, DL.pSl, DL.pSlF, DL.pSlU, DL.pRev, DL.sfN, DL.sfS, DL.iU, DL.iL, DL.iR1, DL.iR2, DL.aCons, DL.aNil, DL.pLst, DL.pTup, DL.pLc, DL.pLcF, DL.pCall, DL.lV, DL.lIx, DL.lk, DL.startD, DL.ro, DL.gN, DL.gT, DL.gTL, DL.gC_cons, DL.gNl, DL.iS, DL.iE, DL.sAppC, DL.IsI_int, DL.toI_int, DL.IsB_bl, DL.toB_bl, DL.IsS_str, DL.toS_str, DL.IsL_lst, DL.IsU_tup, DL.IsQ_lst, DL.IsQ_tup, DL.toL_lst, DL.toL_tup, DL.drf_int, DL.drf_bl, DL.drf_str, DL.drf_non, DL.drf_lst, DL.drf_tup, DL.drf_obj, DL.drf_upd, DL.lenD_lst, DL.lenD_tup, DL.intD_int, DL.intD_bl, DL.rA_ref, DL.lf_int, DL.lf_bl, DL.lf_non, DL.lf_str, DL.lf_ref, DL.IsC_lst, DL.Ty_int, DL.Ty_tup, DL.Ty_lst, DL.Ty_bl, DL.Ty_str, DL.Ty_non, DL.wipeD, DL.ixQ, DL.tYesF, DL.bAddI, DL.bSub, DL.bMul, DL.bMod, DL.bFdiv, DL.bPow, DL.bMax2, DL.bMin2, DL.cLt, DL.cLe, DL.cGt, DL.cGe, List.set, List.map, List.length, List.length_cons, List.length_nil, List.replicate, List.nil_append, List.cons_append, List.append_nil, Option.isSome_some, Option.getD_some, Option.isSome_none, Bool.not_true, Bool.not_false, and_true, true_and, and_self, implies_true, Nat.zero_add, List.length_set, List.length_replicate]
  | lst xs =>
    obtain ⟨hp1, hp2⟩ : xs.length ≤ 100000 ∧ ∀ x ∈ xs, Pl n x := hp
    have hq := hseq xs hp1 hp2
    rw [lcRes_gen (fun _ => false) (fun d => d) (fun d hd => ⟨by
      obtain ⟨h1, h2, h3, h4⟩ := hq d hd
      simp! only [h4], fun z => nomatch z⟩)]
    simp [isiB, tyN, isN, RES_bl, eqT, neT, okD, eqD_bl, eqD_int, eqD_lst, eqDs_nil, DL.sSetZ, DL.sRetZ, DL.sPar1, DL.sSeq, DL.sIf, DL.sSet, DL.sSetM, DL.sSetMN, DL.sAppN, DL.sSetMT, DL.sSetMS, DL.wLc, DL.wYes, DL.wPop, DL.wSl, DL.w1, DL.w1r, DL.lcW, DL.sFor, DL.sNext, DL.sRet, DL.sRetF, DL.sRetN, DL.sDrop, DL.sApp, DL.sAppR, DL.sSetIx, DL.sPar, DL.sParM, DL.sAsg, DL.wP, DL.wT, DL.wA, DL.wCall, DL.wCallP, DL.wACons, DL.wANil, DL.w2, DL.w2c, DL.w2t, DL.wIf, DL.wTup, DL.wLst, DL.wR1, DL.wAnd, DL.wOr, DL.wNot, DL.wTV, DL.pVar, DL.pInt, DL.pBl, DL.pStr, DL.pNon, DL.pDr, DL.pLf, DL.p1, DL.p2, DL.bI, DL.pc2, DL.tc2, DL.cI, DL.pAnd, DL.pOr, DL.pNot, DL.pIf, DL.pIsi, DL.pIsi2, DL.pChain, DL.tOf, DL.tNot1, DL.tAnd2, DL.tOr2, DL.tChn, DL.tIsN, DL.tNotN, DL.pIsN, DL.pNotN, DL.pNeg, DL.pSl, DL.pSlF, DL.pSlU, DL.pRev, DL.sfN, DL.sfS, DL.iU, DL.iL, DL.iR1, DL.iR2, DL.aCons, DL.aNil, DL.pLst, DL.pTup, DL.pLc, DL.pLcF, DL.pCall, DL.lV, DL.lIx, DL.lk, DL.startD, DL.ro, DL.gN, DL.gT, DL.gTL, DL.gC_cons, DL.gNl, DL.iS, DL.iE, DL.sAppC, DL.IsI_int, DL.toI_int, DL.IsB_bl, DL.toB_bl, DL.IsS_str, DL.toS_str, DL.IsL_lst, DL.IsU_tup, DL.IsQ_lst, DL.IsQ_tup, DL.toL_lst, DL.toL_tup, DL.drf_int, DL.drf_bl, DL.drf_str, DL.drf_non, DL.drf_lst, DL.drf_tup, DL.drf_obj, DL.drf_upd, DL.lenD_lst, DL.lenD_tup, DL.intD_int, DL.intD_bl, DL.rA_ref, DL.lf_int, DL.lf_bl, DL.lf_non, DL.lf_str, DL.lf_ref, DL.IsC_lst, DL.Ty_int, DL.Ty_tup, DL.Ty_lst, DL.Ty_bl, DL.Ty_str, DL.Ty_non, DL.wipeD, DL.ixQ, DL.tYesF, DL.bAddI, DL.bSub, DL.bMul, DL.bMod, DL.bFdiv, DL.bPow, DL.bMax2, DL.bMin2, DL.cLt, DL.cLe, DL.cGt, DL.cGe, List.set, List.map, List.length, List.length_cons, List.length_nil, List.replicate, List.nil_append, List.cons_append, List.append_nil, Option.isSome_some, Option.getD_some, Option.isSome_none, Bool.not_true, Bool.not_false, and_true, true_and, and_self, implies_true, Nat.zero_add, List.length_set, List.length_replicate]
    refine ⟨⟨by omega, by rw [rng_length]; simp [SZ]; omega, fun d hd => ?_⟩, by rw [show List.filter (fun x => false) (List.map D.int (rng 0 xs.length)) = [] from List.filter_eq_nil_iff.mpr fun _ _ => Bool.false_ne_true]; exact eqDs_nil⟩
    obtain ⟨h1, h2, h3, h4⟩ := hq _ (List.mem_map.mpr ⟨d, hd, rfl⟩)
    simp only [DL.sSetZ, DL.sRetZ, DL.sPar1, DL.sSeq, DL.sIf, DL.sSet, DL.sSetM, DL.sSetMN, DL.sAppN, DL.sSetMT, DL.sSetMS, DL.wLc, DL.wYes, DL.wPop, DL.wSl, DL.w1, DL.w1r, DL.lcW, DL.sFor, DL.sNext, DL.sRet, DL.sRetF, DL.sRetN, DL.sDrop, DL.sApp, DL.sAppR, DL.sSetIx, DL.sPar, DL.sParM, DL.sAsg, DL.wP, DL.wT, DL.wA, DL.wCall, DL.wCallP, DL.wACons, DL.wANil, DL.w2, DL.w2c, DL.w2t, DL.wIf, DL.wTup, DL.wLst, DL.wR1, DL.wAnd, DL.wOr, DL.wNot, DL.wTV, DL.pVar, DL.pInt, DL.pBl, DL.pStr, DL.pNon, DL.pDr, DL.pLf, DL.p1, DL.p2, DL.bI, DL.pc2, DL.tc2, DL.cI, DL.pAnd, DL.pOr, DL.pNot, DL.pIf, DL.pIsi, DL.pIsi2, DL.pChain, DL.tOf, DL.tNot1, DL.tAnd2, DL.tOr2, DL.tChn, DL.tIsN, DL.tNotN, DL.pIsN, DL.pNotN, DL.pNeg, DL.pSl, DL.pSlF, DL.pSlU, DL.pRev, DL.sfN, DL.sfS, DL.iU, DL.iL, DL.iR1, DL.iR2, DL.aCons, DL.aNil, DL.pLst, DL.pTup, DL.pLc, DL.pLcF, DL.pCall, DL.lV, DL.lIx, DL.lk, DL.startD, DL.ro, DL.gN, DL.gT, DL.gTL, DL.gC_cons, DL.gNl, DL.iS, DL.iE, DL.sAppC, DL.IsI_int, DL.toI_int, DL.IsB_bl, DL.toB_bl, DL.IsS_str, DL.toS_str, DL.IsL_lst, DL.IsU_tup, DL.IsQ_lst, DL.IsQ_tup, DL.toL_lst, DL.toL_tup, DL.drf_int, DL.drf_bl, DL.drf_str, DL.drf_non, DL.drf_lst, DL.drf_tup, DL.drf_obj, DL.drf_upd, DL.lenD_lst, DL.lenD_tup, DL.intD_int, DL.intD_bl, DL.rA_ref, DL.lf_int, DL.lf_bl, DL.lf_non, DL.lf_str, DL.lf_ref, DL.IsC_lst, DL.Ty_int, DL.Ty_tup, DL.Ty_lst, DL.Ty_bl, DL.Ty_str, DL.Ty_non, DL.wipeD, DL.ixQ, DL.tYesF, DL.bAddI, DL.bSub, DL.bMul, DL.bMod, DL.bFdiv, DL.bPow, DL.bMax2, DL.bMin2, DL.cLt, DL.cLe, DL.cGt, DL.cGe, List.set, List.map, List.length, List.length_cons, List.length_nil, List.replicate, List.nil_append, List.cons_append, List.append_nil, Option.isSome_some, Option.getD_some, Option.isSome_none, Bool.not_true, Bool.not_false, and_true, true_and, and_self, implies_true, Nat.zero_add, List.length_set, List.length_replicate] at h2 h3 h4
    exact ⟨⟨h2, h3⟩, by rw [h4]; trivial⟩
  | tup xs => 
    obtain ⟨hp1, hp2⟩ : xs.length ≤ 100000 ∧ ∀ x ∈ xs, Pl n x := hp
    have hq := hseq xs hp1 hp2
    rw [lcRes_gen (fun _ => false) (fun d => d) (fun d hd => ⟨by
      obtain ⟨h1, h2, h3, h4⟩ := hq d hd
      simp! only [h4], fun z => nomatch z⟩)]
    simp [isiB, tyN, isN, RES_bl, eqT, neT, okD, eqD_bl, eqD_int, eqD_lst, eqDs_nil, DL.sSetZ, DL.sRetZ, DL.sPar1, DL.sSeq, DL.sIf, DL.sSet, DL.sSetM, DL.sSetMN, DL.sAppN, DL.sSetMT, DL.sSetMS, DL.wLc, DL.wYes, DL.wPop, DL.wSl, DL.w1, DL.w1r, DL.lcW, DL.sFor, DL.sNext, DL.sRet, DL.sRetF, DL.sRetN, DL.sDrop, DL.sApp, DL.sAppR, DL.sSetIx, DL.sPar, DL.sParM, DL.sAsg, DL.wP, DL.wT, DL.wA, DL.wCall, DL.wCallP, DL.wACons, DL.wANil, DL.w2, DL.w2c, DL.w2t, DL.wIf, DL.wTup, DL.wLst, DL.wR1, DL.wAnd, DL.wOr, DL.wNot, DL.wTV, DL.pVar, DL.pInt, DL.pBl, DL.pStr, DL.pNon, DL.pDr, DL.pLf, DL.p1, DL.p2, DL.bI, DL.pc2, DL.tc2, DL.cI, DL.pAnd, DL.pOr, DL.pNot, DL.pIf, DL.pIsi, DL.pIsi2, DL.pChain, DL.tOf, DL.tNot1, DL.tAnd2, DL.tOr2, DL.tChn, DL.tIsN, DL.tNotN, DL.pIsN, DL.pNotN, DL.pNeg, DL.pSl, DL.pSlF, DL.pSlU, DL.pRev, DL.sfN, DL.sfS, DL.iU, DL.iL, DL.iR1, DL.iR2, DL.aCons, DL.aNil, DL.pLst, DL.pTup, DL.pLc, DL.pLcF, DL.pCall, DL.lV, DL.lIx, DL.lk, DL.startD, DL.ro, DL.gN, DL.gT, DL.gTL, DL.gC_cons, DL.gNl, DL.iS, DL.iE, DL.sAppC, DL.IsI_int, DL.toI_int, DL.IsB_bl, DL.toB_bl, DL.IsS_str, DL.toS_str, DL.IsL_lst, DL.IsU_tup, DL.IsQ_lst, DL.IsQ_tup, DL.toL_lst, DL.toL_tup, DL.drf_int, DL.drf_bl, DL.drf_str, DL.drf_non, DL.drf_lst, DL.drf_tup, DL.drf_obj, DL.drf_upd, DL.lenD_lst, DL.lenD_tup, DL.intD_int, DL.intD_bl, DL.rA_ref, DL.lf_int, DL.lf_bl, DL.lf_non, DL.lf_str, DL.lf_ref, DL.IsC_lst, DL.Ty_int, DL.Ty_tup, DL.Ty_lst, DL.Ty_bl, DL.Ty_str, DL.Ty_non, DL.wipeD, DL.ixQ, DL.tYesF, DL.bAddI, DL.bSub, DL.bMul, DL.bMod, DL.bFdiv, DL.bPow, DL.bMax2, DL.bMin2, DL.cLt, DL.cLe, DL.cGt, DL.cGe, List.set, List.map, List.length, List.length_cons, List.length_nil, List.replicate, List.nil_append, List.cons_append, List.append_nil, Option.isSome_some, Option.getD_some, Option.isSome_none, Bool.not_true, Bool.not_false, and_true, true_and, and_self, implies_true, Nat.zero_add, List.length_set, List.length_replicate]
    refine ⟨⟨by omega, by rw [rng_length]; simp [SZ]; omega, fun d hd => ?_⟩, by rw [show List.filter (fun x => false) (List.map D.int (rng 0 xs.length)) = [] from List.filter_eq_nil_iff.mpr fun _ _ => Bool.false_ne_true]; exact eqDs_nil⟩
    obtain ⟨h1, h2, h3, h4⟩ := hq _ (List.mem_map.mpr ⟨d, hd, rfl⟩)
    simp only [DL.sSetZ, DL.sRetZ, DL.sPar1, DL.sSeq, DL.sIf, DL.sSet, DL.sSetM, DL.sSetMN, DL.sAppN, DL.sSetMT, DL.sSetMS, DL.wLc, DL.wYes, DL.wPop, DL.wSl, DL.w1, DL.w1r, DL.lcW, DL.sFor, DL.sNext, DL.sRet, DL.sRetF, DL.sRetN, DL.sDrop, DL.sApp, DL.sAppR, DL.sSetIx, DL.sPar, DL.sParM, DL.sAsg, DL.wP, DL.wT, DL.wA, DL.wCall, DL.wCallP, DL.wACons, DL.wANil, DL.w2, DL.w2c, DL.w2t, DL.wIf, DL.wTup, DL.wLst, DL.wR1, DL.wAnd, DL.wOr, DL.wNot, DL.wTV, DL.pVar, DL.pInt, DL.pBl, DL.pStr, DL.pNon, DL.pDr, DL.pLf, DL.p1, DL.p2, DL.bI, DL.pc2, DL.tc2, DL.cI, DL.pAnd, DL.pOr, DL.pNot, DL.pIf, DL.pIsi, DL.pIsi2, DL.pChain, DL.tOf, DL.tNot1, DL.tAnd2, DL.tOr2, DL.tChn, DL.tIsN, DL.tNotN, DL.pIsN, DL.pNotN, DL.pNeg, DL.pSl, DL.pSlF, DL.pSlU, DL.pRev, DL.sfN, DL.sfS, DL.iU, DL.iL, DL.iR1, DL.iR2, DL.aCons, DL.aNil, DL.pLst, DL.pTup, DL.pLc, DL.pLcF, DL.pCall, DL.lV, DL.lIx, DL.lk, DL.startD, DL.ro, DL.gN, DL.gT, DL.gTL, DL.gC_cons, DL.gNl, DL.iS, DL.iE, DL.sAppC, DL.IsI_int, DL.toI_int, DL.IsB_bl, DL.toB_bl, DL.IsS_str, DL.toS_str, DL.IsL_lst, DL.IsU_tup, DL.IsQ_lst, DL.IsQ_tup, DL.toL_lst, DL.toL_tup, DL.drf_int, DL.drf_bl, DL.drf_str, DL.drf_non, DL.drf_lst, DL.drf_tup, DL.drf_obj, DL.drf_upd, DL.lenD_lst, DL.lenD_tup, DL.intD_int, DL.intD_bl, DL.rA_ref, DL.lf_int, DL.lf_bl, DL.lf_non, DL.lf_str, DL.lf_ref, DL.IsC_lst, DL.Ty_int, DL.Ty_tup, DL.Ty_lst, DL.Ty_bl, DL.Ty_str, DL.Ty_non, DL.wipeD, DL.ixQ, DL.tYesF, DL.bAddI, DL.bSub, DL.bMul, DL.bMod, DL.bFdiv, DL.bPow, DL.bMax2, DL.bMin2, DL.cLt, DL.cLe, DL.cGt, DL.cGe, List.set, List.map, List.length, List.length_cons, List.length_nil, List.replicate, List.nil_append, List.cons_append, List.append_nil, Option.isSome_some, Option.getD_some, Option.isSome_none, Bool.not_true, Bool.not_false, and_true, true_and, and_self, implies_true, Nat.zero_add, List.length_set, List.length_replicate] at h2 h3 h4
    exact ⟨⟨h2, h3⟩, by rw [h4]; trivial⟩
  | dic _ _ => exact hp.elim
  | _ => exact hp.elim
end K14
set_option maxHeartbeats 4000000
namespace K14
open PySem L2 DL
theorem num_val {i lo hi : Int} {M : Nm} (h : lo ≤ i ∧ i ≤ hi) : (ph_is_number [.int i, .int lo, .int hi] M).val = .bl true := by
  show D.bl (decide (lo ≤ i) && decide (i ≤ hi)) = _
  simp; omega
theorem num_ok {i lo hi : Int} {M : Nm} : (ph_is_number [.int i, .int lo, .int hi] M).ok := ⟨_, _, _, rfl, trivial⟩
theorem in_kind {b : Bool} : inT true (.str (kindS b)) (.tup [.str "clip", .str "live"]) = ⟨True, false⟩ := by
  unfold inT
  congr 1
  · simp [flat, IsQ_tup, toL_tup]
  · cases b <;> simp [inB, toL_tup, eqD_str, kindS] <;> decide +kernel
theorem row_at {r : Row} : atI [D.int r.id, D.str (kindS r.live), D.int r.len, moD r.mo] 0 = some (.int r.id) ∧ atI [D.int r.id, D.str (kindS r.live), D.int r.len, moD r.mo] 1 = some (.str (kindS r.live)) ∧
    atI [D.int r.id, D.str (kindS r.live), D.int r.len, moD r.mo] 2 = some (.int r.len) ∧ atI [D.int r.id, D.str (kindS r.live), D.int r.len, moD r.mo] 3 = some (moD r.mo) := ⟨rfl, rfl, rfl, rfl⟩
theorem in_kindD {b : D} (h : flat b = true) : inT true b (.tup [.str "clip", .str "live"]) = ⟨True, !isKind b⟩ := by
  unfold inT
  congr 1
  · refine eq_true ⟨h, trivial, fun d hd => ?_⟩
    rw [toL_tup] at hd
    simp at hd
    rcases hd with rfl | rfl <;> rfl
  · rw [toL_tup]
    cases b with
    | str s =>
      show (!inB (.str s) [.str "clip", .str "live"]) = !kindB s
      congr 1
      unfold inB kindB
      rw [List.any_cons, List.any_cons, List.any_nil, eqD_str, eqD_str, Bool.or_false]
      congr 1 <;> exact decide_eq_decide.mpr eq_comm
    | non => show (!inB .non [.str "clip", .str "live"]) = true; simp [inB, eqD, toPy, PyData.eqv]
    | bl z => show (!inB (.bl z) [.str "clip", .str "live"]) = true; simp [inB, eqD, toPy, PyData.eqv]
    | int z => show (!inB (.int z) [.str "clip", .str "live"]) = true; simp [inB, eqD, toPy, PyData.eqv]
    | tup _ => cases h
    | lst _ => cases h
    | dic _ _ => cases h
    | _ => cases h
theorem flat_Ty {x : D} (h : flat x = true) : Ty x := by cases x <;> first | trivial | cases h
theorem numV {x : D} {lo hi : Int} {M : Nm} : (ph_is_number [x, .int lo, .int hi] M).val = .bl (isnum x lo hi) := rfl
theorem num_okD {x : D} {lo hi : Int} {M : Nm} (h : flat x = true) : (ph_is_number [x, .int lo, .int hi] M).ok := ⟨_, _, _, rfl, flat_Ty h⟩
theorem drf_flat {N : Nm} {x : D} (h : flat x = true) : drf N x = x := by cases x <;> first | rfl | cases h
theorem row4 {a b c m : D} : isRowL [a, b, c, m] = (isKind b && (isnum a 0 99 && isnum c 1 120) && moB m) := rfl
theorem isN_mo {m : D} (h : flat m = true) : (isN m = true ∧ moB m = true) ∨ (isN m = false ∧ moB m = isnum m 0 900) := by
  cases m <;> first | exact .inl ⟨rfl, rfl⟩ | exact .inr ⟨rfl, rfl⟩
theorem is_row4 {a b c m : D} (M : Nm) (fa : flat a = true) (fb : flat b = true) (fc : flat c = true) (fm : flat m = true) :
    w_is_row { nx := fun _ _ => D.bl (isRowL [a, b, c, m]) = .non, rt := fun d M' => RES M' d (.bl (isRowL [a, b, c, m])) } [some (.tup [a, b, c, m])] (ro M) := by
  have e5 : isiB "tuple" (.tup [a, b, c, m]) = true := rfl
  have e6 : neT 8 (.int ((1 + 1 + 1 + 1 : Nat) : Int)) (.int 4) = ⟨True, false⟩ := by simp [neT, okD, eqD_int]
  have a0 : atI [a, b, c, m] 0 = some a := rfl
  have a1 : atI [a, b, c, m] 1 = some b := rfl
  have a2 : atI [a, b, c, m] 2 = some c := rfl
  have a3 : atI [a, b, c, m] 3 = some m := rfl
  rw [row4]
  unfold w_is_row
  simp! only [e5, e6, a0, a1, a2, a3, in_kindD fb, numV]
  refine ⟨fun _ _ => by decide, ?_⟩
  cases hk : isKind b with
  | false => exact (if_pos (by rfl)).mpr (RES_bl.mpr rfl)
  | true =>
    refine (if_neg (by decide)).mpr ?_
    refine ⟨⟨num_okD fa, fun _ => num_okD fc⟩, ?_⟩
    cases h1 : isnum a 0 99 with
    | false => exact (if_pos (by rfl)).mpr (RES_bl.mpr rfl)
    | true =>
      cases h2 : isnum c 1 120 with
      | false => exact (if_pos (by rfl)).mpr (RES_bl.mpr rfl)
      | true =>
        refine (if_neg (by decide)).mpr ?_
        rcases isN_mo fm with ⟨h3, h4⟩ | ⟨h3, h4⟩
        · simp only [h3, h4]
          exact ⟨fun z => (by cases z), RES_bl.mpr rfl⟩
        · simp only [h3, h4]
          exact ⟨fun _ => num_okD fm, RES_bl.mpr rfl⟩
theorem r_is_row (ds : List D) (M : Nm) (hl : ds.length = 1) (h : (ph_is_row ds M).ok) : w_is_row { nx := fun _ _ => (ph_is_row ds M).val = .non, rt := fun d M' => RES M' d (ph_is_row ds M).val } (startD n_is_row.length ds) (ro M) := by
  obtain ⟨xs, rfl, hx, hf⟩ := h
  show w_is_row { nx := fun _ _ => D.bl (isRowL xs) = .non, rt := fun d M' => RES M' d (.bl (isRowL xs)) } [some (.tup xs)] (ro M)
  by_cases h4 : xs.length = 4
  · match xs, h4, hf with
    | [a, b, c, m], _, hf => exact is_row4 M (hf a (by simp)) (hf b (by simp)) (hf c (by simp)) (hf m (by simp))
  · have e5 : isiB "tuple" (.tup xs) = true := rfl
    have e4 : neT 8 (.int (xs.length : Int)) (.int 4) = ⟨True, true⟩ := by
      unfold neT
      rw [eqD_int, decide_eq_false (by omega)]
      congr 1
      exact eq_true ⟨trivial, trivial⟩
    have e7 : isRowL xs = false := by
      unfold isRowL
      split
      · simp at h4
      · rfl
    rw [e7]
    unfold w_is_row
    simp! only [e5, e4]
    refine ⟨fun _ => fun y => (by cases y), ?_⟩
    exact (if_pos (by rfl)).mpr (RES_bl.mpr rfl)
theorem flat_row {r : Row} : ∀ x ∈ [D.int r.id, D.str (kindS r.live), D.int r.len, moD r.mo], flat x = true := by
  intro x hx
  simp at hx
  rcases hx with rfl | rfl | rfl | rfl
  · rfl
  · rfl
  · rfl
  · cases r.mo <;> rfl
theorem isrow_ok {r : Row} {M : Nm} : (ph_is_row [rowD r] M).ok := ⟨_, rfl, by simp, flat_row⟩
theorem kindB_s (b : Bool) : kindB (kindS b) = true := by cases b <;> decide +kernel
theorem isrow_valB {r : Row} {M : Nm} : (ph_is_row [rowD r] M).val = .bl (rowB r) := by
  show D.bl (kindB (kindS r.live) && (isnum (.int r.id) 0 99 && isnum (.int r.len) 1 120) && moB (moD r.mo)) = _
  rw [kindB_s]; rfl
theorem moB_some {m : Int} : moB (moD (some m)) = (decide (0 ≤ m) && decide (m ≤ 900)) := rfl
theorem rowB_ok {r : Row} (h : ROk1 r) (k : ∀ m ∈ r.mo, 0 ≤ m ∧ m ≤ 900) : rowB r = true := by
  have h1 := h.id
  have h2 := h.len
  have h3 : moB (moD r.mo) = true := by
    cases hm : r.mo with
    | none => rfl
    | some m =>
      have := k m hm
      rw [moB_some]
      exact Bool.and_eq_true_iff.mpr ⟨decide_eq_true this.1, decide_eq_true this.2⟩
  unfold rowB
  rw [h3, decide_eq_true h1.1, decide_eq_true h1.2, decide_eq_true h2.1, decide_eq_true h2.2]; rfl
theorem rowB_ok1 {r : Row} (h : rowB r = true) : ROk1 r ∧ ∀ m ∈ r.mo, 0 ≤ m ∧ m ≤ 900 := by
  unfold rowB at h
  simp only [Bool.and_eq_true, decide_eq_true_eq] at h
  refine ⟨⟨⟨h.1.1.1, h.1.1.2⟩, h.1.2⟩, fun m hm => ?_⟩
  have h3 := h.2
  rw [show r.mo = some m from hm, moB_some] at h3
  simpa using h3
theorem isrow_val {r : Row} {M : Nm} (h : ROk1 r) (k : ∀ m ∈ r.mo, 0 ≤ m ∧ m ≤ 900) : (ph_is_row [rowD r] M).val = .bl true := by rw [isrow_valB, rowB_ok h k]
theorem desc_sum {xs : List Int} {d : Int} : (d :: xs).sum - d = xs.sum := by simp; omega
theorem lens_lc {N : Nm} {G : GF} {ft : TF} {fe : PF} {δ0 : DL.Loc} {rs : List Row} (h : ∀ r ∈ rs, (ft (G (rowD r) δ0).loc N).b = true ∧ (true = true → (fe (G (rowD r) δ0).loc N).val = .int r.len)) : lcRes G ft fe δ0 N (rs.map rowD) = (rs.map Row.len).map D.int :=
  (lcRes_map rowD (fun _ => true) (fun r => .int r.len) h).trans (by rw [List.filter_eq_self.mpr fun _ _ => rfl, List.map_map]; rfl)
theorem cut_drop {α : Type} {f : α → D} {a : List α} {j : Nat} : cutD (a.map f) (some (j : Int)) none = (a.drop j).map f := by
  unfold cutD
  rw [HT.sIx_nat, HT.sIx_none, List.length_map, ← List.map_drop]
  rcases Nat.le_total j a.length with h | h
  · rw [Nat.min_eq_left h, List.take_of_length_le (by simp)]
  · rw [Nat.min_eq_right h, List.drop_of_length_le (by omega), List.drop_of_length_le h]; simp
theorem row_ix {r : Row} {i : Int} {d : D} (h : atI [D.int r.id, D.str (kindS r.live), D.int r.len, moD r.mo] i = some d) : ixQ (rowD r) (.int i) = ⟨True, d⟩ := by
  unfold ixQ
  rw [toI_int]
  show (⟨_, (atI [D.int r.id, D.str (kindS r.live), D.int r.len, moD r.mo] i).getD .non⟩ : PV) = _
  congr 1
  · show (IsQ (rowD r) ∧ IsI (.int i) ∧ (atI [D.int r.id, D.str (kindS r.live), D.int r.len, moD r.mo] i).isSome = true) = True
    rw [h]; simp [IsQ_tup, IsI_int, rowD]
  · rw [h]; rfl
theorem row0 {r : Row} : ixQ (rowD r) (.int 0) = ⟨True, .int r.id⟩ := row_ix rfl
theorem row2 {r : Row} : ixQ (rowD r) (.int 2) = ⟨True, .int r.len⟩ := row_ix rfl
theorem row3 {r : Row} : ixQ (rowD r) (.int 3) = ⟨True, moD r.mo⟩ := row_ix rfl
theorem IsQ_row {r : Row} : IsQ (rowD r) = True := rfl
theorem rat0 {r : Row} : atI (toL (rowD r)) 0 = some (.int r.id) := rfl
theorem rat1 {r : Row} : atI (toL (rowD r)) 1 = some (.str (kindS r.live)) := rfl
theorem rat2 {r : Row} : atI (toL (rowD r)) 2 = some (.int r.len) := rfl
theorem rat3 {r : Row} : atI (toL (rowD r)) 3 = some (moD r.mo) := rfl
theorem all_rows {rs : List Row} {p : D → Prop} : (∀ d ∈ rs.map rowD, p d) ↔ ∀ r ∈ rs, p (rowD r) :=
  ⟨fun h x hx => h _ (List.mem_map.mpr ⟨x, hx, rfl⟩), fun h d hd => by obtain ⟨x, hx, rfl⟩ := List.mem_map.mp hd; exact h x hx⟩
theorem drf_row {N : Nm} {r : Row} : drf N (rowD r) = rowD r := rfl
theorem lf_row {r : Row} : lf (rowD r) := by
  unfold rowD; simp only [lf, lfs]
  refine ⟨trivial, trivial, trivial, ?_, trivial⟩
  cases r.mo <;> trivial
theorem lf_row_ {r : Row} : lf (rowD r) = True := eq_true lf_row
theorem foV {ls : List Int} {k : Int} {M : Nm} : (ph_fewest_out [dI ls, .int k] M).val = .int (fo ls k) := by
  show D.int (fo (toIs (dI ls)) (toI (.int k))) = _
  rw [toIs_lst, toI_int]
theorem RES_pair {N : Nm} {a b : Addr} {t u : D} (hab : a ≠ b) (h1 : N a = some ⟨true, t⟩) (h2 : N b = some ⟨true, u⟩) : RES N (.tup [.ref a, .ref b]) (.tup [t, u]) := by
  simp [RES, refsW, refsWs, res, ress, h1, h2, hab]
end K14
set_option maxHeartbeats 4000000
namespace K14
open PySem L2 DL
theorem in_ids {x : Int} {a : List Int} : inT false (.int x) (dI a) = ⟨True, decide (x ∈ a)⟩ := by
  unfold inT
  rw [toL_lst, inB_int]
  congr 1
  simp [flat, IsQ_lst]
theorem r_need_rows (ds : List D) (M : Nm) (hl : ds.length = 3) (h : (ph_need_rows ds M).ok) : w_need_rows { nx := fun _ _ => (ph_need_rows ds M).val = .non, rt := fun d M' => RES M' d (ph_need_rows ds M).val } (startD n_need_rows.length ds) (ro M) := by
  obtain ⟨rs, b, e, rfl, h, hn⟩ := h
  simp! only [w_need_rows, ph_need_rows, n_need_rows, dR]
  have hbe := h.be
  refine ⟨by decide, fun a ha => ⟨⟨by omega, by rw [List.length_map]; omega⟩, ?_⟩⟩
  have e30 : (((rs.map rowD).length : Int)).toNat = rs.length := by simp
  rw [e30]
  refine loopD_rng (fun i δ N => ∃ (l : Int) (x5 x6 : Option D), δ = [some (.lst (rs.map rowD)), some (.int b), some (.int e), some (.ref a), some (.int l), x5, x6] ∧ N a = some ⟨true, dI ((rs.take i).map Row.id)⟩ ∧ i ≤ rs.length ∧
    ∀ m ∈ (rs.drop i).filterMap Row.mo, l ≤ m) ?_ ?_ ?_
  · exact ⟨b, none, none, rfl, by rw [updN_same]; rfl, Nat.zero_le _, fun m hm => (h.mo m (by simpa using hm)).1⟩
  · intro δ N _; trivial
  · rintro i δ N L hi hL ⟨l, x5, x6, rfl, hN, hi', hm⟩
    have hd : rs.drop i = rs[i] :: rs.drop (i + 1) := List.drop_eq_getElem_cons hi
    have hrow : atI (rs.map rowD) (0 + (i : Int)) = some (rowD rs[i]) := by rw [atI_map, show (0 : Int) + i = (i : Int) by omega, DL.atI_nat, List.getElem?_eq_getElem hi]; rfl
    have hmem : rs[i] ∈ rs := List.getElem_mem hi
    have hmo : ∀ m ∈ rs[i].mo, b ≤ m ∧ m < e := fun m hm => h.mo m (List.mem_filterMap.mpr ⟨rs[i], hmem, hm⟩)
    have hnid : rs[i].id ∉ (rs.take i).map Row.id := fun z => by
      obtain ⟨r', hr', er⟩ := List.mem_map.mp z
      obtain ⟨j, hj⟩ := List.getElem?_of_mem hr'
      have hji : j < i := by have := (List.getElem?_eq_some_iff.mp hj).1; simp at this; omega
      rw [List.getElem?_take, if_pos hji, List.getElem?_eq_getElem (by omega)] at hj
      have := Option.some.inj hj
      rw [← this] at er
      have := (List.pairwise_iff_getElem.mp h.nd) j i (by simp; omega) (by simpa using hi) hji
      simp at this; exact this er
    have hiv : ∀ M, (ph_is_row [rowD rs[i]] M).val = .bl true := fun M => isrow_val (h.one _ hmem) fun m hm => by have := hmo m hm; omega
    simp! only [hrow, drf_ref hN, drf_row, IsQ_row, rat0, rat1, rat2, rat3, lf_row_, hiv, in_ids]
    refine ⟨by decide, ⟨fun _ => isrow_ok, ?_⟩⟩
    refine (if_neg (by simp; refine ⟨by omega, ?_⟩; simpa using hnid)).mpr ?_
    have hnew : updN N a ⟨true, put (dI ((rs.take i).map Row.id)) [] (.lst (((rs.take i).map Row.id).map D.int ++ [.int rs[i].id]))⟩ a = some ⟨true, dI ((rs.take (i + 1)).map Row.id)⟩ := by
      rw [updN_same, put_nil, List.take_succ, List.getElem?_eq_getElem hi]
      simp only [dI, List.map_append]; rfl
    have hsz : (((rs.take i).map Row.id).map D.int).length < SZ := by simp [SZ]; omega
    cases hmi : rs[i].mo with
    | none =>
      simp only [moD, isN]
      refine (if_neg (by simp)).mpr ⟨_, _, hN, sub_nil, hsz, hL _ _ ⟨l, _, _, rfl, hnew, hi, fun m hm2 => hm m ?_⟩⟩
      rw [hd, List.filterMap_cons, hmi]; exact hm2
    | some m =>
      have hm1 := hmo m hmi
      have hl := hm m (by rw [hd, List.filterMap_cons, hmi]; simp)
      simp! only [moD, isN]
      refine (if_pos (by simp)).mpr ?_
      refine (if_neg (by simp [hl, hm1.2])).mpr ?_
      refine ⟨_, _, hN, sub_nil, hsz, hL _ _ ⟨m + 1, _, _, rfl, hnew, hi, fun m2 hm2 => ?_⟩⟩
      have hup := h.up
      rw [← List.take_append_drop i rs, List.filterMap_append, hd, List.filterMap_cons, hmi] at hup
      have := (List.pairwise_cons.mp (List.pairwise_append.mp hup).2.1).1 m2 hm2
      omega
theorem strz_snoc {rs : List Row} {r : Row} {b e : Int} : strz (rs ++ [r]) b e = addS e (strz rs b e) r := by unfold strz; rw [List.foldl_append]; rfl
theorem strz_ne (b e : Int) : ∀ rs : List Row, ∃ init s, strz rs b e = init ++ [s] := by
  intro rs
  unfold strz
  suffices ∀ (acc : List Stt), (∃ init s, acc = init ++ [s]) → ∃ init s, rs.foldl (addS e) acc = init ++ [s] from this _ ⟨[], _, rfl⟩
  induction rs with
  | nil => intro acc h; exact h
  | cons r rs ih =>
    rintro acc ⟨init, s, rfl⟩
    refine ih _ ?_
    rw [addS_snoc]
    cases r.mo with
    | none => exact ⟨init, _, rfl⟩
    | some m => exact ⟨init ++ [{ s with last := m }], ⟨m, e, some r, []⟩, by simp⟩
theorem strV {rs : List Row} {b e : Int} {M : Nm} : (ph_stretches [dR rs, .int b, .int e] M).val = .lst ((strz rs b e).map sttD) := by
  show D.lst ((strz (toRs (dR rs)) (toI (.int b)) (toI (.int e))).map sttD) = _
  rw [toRs_dR, toI_int, toI_int]
theorem ixN_last {n : Nat} : ixN (n + 1) (-1) = some n := by unfold ixN; rw [if_neg (by omega), if_pos (by omega)]; congr 1; omega
def tot (ss : List Stt) : Nat := (ss.map fun s => s.some_.length).sum
theorem tot_app {xs ys : List Stt} : tot (xs ++ ys) = tot xs + tot ys := by unfold tot; rw [List.map_append, List.sum_append]
theorem addS_tot {init : List Stt} {s : Stt} {r : Row} {e : Int} : tot (addS e (init ++ [s]) r) ≤ tot (init ++ [s]) + 1 ∧ (addS e (init ++ [s]) r).length ≤ (init ++ [s]).length + 1 := by
  rw [addS_snoc]
  cases r.mo with
  | none => simp [tot_app, tot]; omega
  | some m => simp [tot_app, tot]
theorem strz_tot {b e : Int} {rs : List Row} : ∀ n, n ≤ rs.length → tot (strz (rs.take n) b e) ≤ n ∧ (strz (rs.take n) b e).length ≤ n + 1
  | 0, _ => by simp [strz, tot]
  | n + 1, h => by
    obtain ⟨i1, i2⟩ := strz_tot (b := b) (e := e) (rs := rs) n (by omega)
    obtain ⟨init, s, es⟩ := strz_ne b e (rs.take n)
    have hg : rs[n]? = some rs[n] := List.getElem?_eq_getElem (by omega)
    have ht : rs.take (n + 1) = rs.take n ++ [rs[n]] := by rw [List.take_succ, hg]; rfl
    rw [ht, strz_snoc, es]
    obtain ⟨j1, j2⟩ := addS_tot (init := init) (s := s) (r := rs[n]) (e := e)
    rw [es] at i1 i2
    exact ⟨by omega, by omega⟩
theorem sub_last {xs : List D} {x : D} {π : Pth} : sub (.lst (xs ++ [x])) (.ix (-1) :: π) = sub x π := by
  have e : stpIx (.lst (xs ++ [x])) (.ix (-1)) = some xs.length := by
    show ixN (xs ++ [x]).length (-1) = _
    rw [List.length_append]; exact ixN_last
  rw [sub, e]
  simp [kids]
theorem put_last {xs : List D} {x e : D} {π : Pth} : put (.lst (xs ++ [x])) (.ix (-1) :: π) e = .lst (xs ++ [put x π e]) := by
  have h : stpIx (.lst (xs ++ [x])) (.ix (-1)) = some xs.length := by
    show ixN (xs ++ [x]).length (-1) = _
    rw [List.length_append]; exact ixN_last
  rw [put, h]
  simp [kids, setKid]
end K14
set_option maxHeartbeats 4000000
namespace K14
open PySem L2 DL
theorem ne_nilI {a : List Int} : neT 8 (.lst (a.map .int)) (.lst []) = ⟨True, !decide (a = [])⟩ := by
  have h : ∀ c : List Int, okD 8 (dI c) := fun c d hd => by obtain ⟨i, _, rfl⟩ := List.mem_map.mp hd; trivial
  unfold neT
  congr 1
  · exact eq_true ⟨h a, h []⟩
  · cases a with
    | nil => simp [eqD_lst, eqDs_nil]
    | cons x xs => simp [eqD_lst, eqDs_cn]
theorem erase_map {α β : Type} {f : α → β} : ∀ {xs : List α} {n : Nat}, (xs.map f).eraseIdx n = (xs.eraseIdx n).map f
  | [], _ => rfl
  | x :: xs, 0 => rfl
  | x :: xs, n + 1 => by simp [erase_map (xs := xs) (n := n)]
theorem sset_ok {a : List Int} : (sortsetD (dI a)).ok = (a.length < 64) := by
  unfold sortsetD; rw [toL_lst, List.length_map]; exact propext ⟨fun h => h.2, fun h => ⟨Ints_map, h⟩⟩
theorem sset_val {a : List Int} : (sortsetD (dI a)).val = dI (usort a) := by unfold sortsetD; rw [toIs_lst]
theorem moments_lc {a ac : Addr} (hac : ac ≠ a) {b e : Int} (hbe : b < e) (he : e ≤ 900) (hb0 : 0 ≤ b) {m : Int} {x4 x5 : Option D} {Qc : D → Nm → Prop} {N0 : Nm}
    (hQ : ∀ N acc dd, N a = some ⟨true, dd⟩ → HSt dd → N ac = some ⟨true, dI acc⟩ → (∀ x ∈ acc, b ≤ x ∧ x < e) → acc.length ≤ 6 → (∀ z, z ≠ a → z ≠ ac → N z = N0 z) → Qc (.ref ac) N) :
    ∀ (items : List Int) (N : Nm) (acc : List Int) (dd : D), N a = some ⟨true, dd⟩ → HSt dd → N ac = some ⟨true, dI acc⟩ → (∀ x ∈ acc, b ≤ x ∧ x < e) → acc.length + items.length ≤ 6 → (∀ z, z ≠ a → z ≠ ac → N z = N0 z) →
      lcW (gN 8) wYes (w2 (bI (fun x x_1 => True) fun i j => D.int (i + j)) (wP (pVar 1)) (wCall 2 sp_law_next (wACons (wP (pVar 0)) (wACons (wP (p2 (bI (fun x x_1 => True) fun i j => D.int (i - j)) (pDr (pVar 2)) (pDr (pVar 1)))) wANil))))
        [some (D.ref a), some (D.int b), some (D.int e), some (D.int m), x4, x5, none, none, none, none, none, none] ac Qc (items.map D.int) N
  | [], N, acc, dd, h1, h2, h3, h4, h5, h6 => hQ N acc dd h1 h2 h3 h4 (by simpa using h5) h6
  | it :: items, N, acc, dd, h1, h2, h3, h4, h5, h6 => by
    rw [List.map_cons]
    simp! only []
    refine ⟨by decide, ?_⟩
    simp only [if_true]
    refine ⟨a, e - b, dd, rfl, h1, h2, by omega, by omega, fun r d' r0 r1 hs' => ?_⟩
    simp! only []
    refine ⟨acc.map D.int, ?_, ?_, ?_⟩
    · rw [updN_ne hac]; exact h3
    · rw [List.length_map]; show _ < 16000000; simp at h5; omega
    · refine moments_lc hac hbe he hb0 hQ items _ (acc ++ [b + r]) d' (by rw [updN_ne (fun z => hac z.symm), updN_same]) hs' ?_ ?_ ?_ ?_
      · rw [updN_same]; simp only [dI, List.map_append]; rfl
      · intro x hx
        rcases List.mem_append.mp hx with hx | hx
        · exact h4 x hx
        · simp at hx; omega
      · simp at h5 ⊢; omega
      · intro z hz1 hz2
        rw [updN_ne hz2, updN_ne hz1]; exact h6 z hz1 hz2
theorem r_law_rows (ds : List D) (M : Nm) (Q' : D → Nm → Prop) (E' : ED) (hl : ds.length = 4) (h : sp_law_rows ds M Q' E') : w_law_rows { nx := fun _ M' => Q' .non M', rt := Q', ex := E' } (startD n_law_rows.length ds) M := by
  obtain ⟨a, d, b, e, most, rfl, hN, hs, hb0, hbe, he, hm0, hm1, q⟩ := h
  simp! only [w_law_rows, n_law_rows]
  have el : (lrD (.int 100)).val = .lst ((rng 0 100).map .int) := rfl
  refine ⟨⟨trivial, by decide, by decide⟩, trivial, fun a4 h4 => ?_⟩
  have n4 : a ≠ a4 := fun z => by subst z; rw [hN] at h4; cases h4
  refine ⟨a, 4, d, rfl, by rw [updN_ne n4]; exact hN, hs, by decide, by decide, fun often d1 o0 o1 hs1 => ?_⟩
  simp! only []
  refine ⟨a, 6, d1, rfl, updN_same, hs1, by decide, by decide, fun r6 d2 r60 r61 hs2 => ?_⟩
  simp! only [updN_twice]
  have hmul : ∀ c : Bool, 0 ≤ r6 * (bif c then 1 else 0) ∧ r6 * (bif c then 1 else 0) < 6 := fun c => by cases c <;> simp <;> omega
  have hnat : ∀ c : Bool, (r6 * (bif c then 1 else 0)).toNat ≤ 6 := fun c => by have := hmul c; omega
  refine ⟨.inl ⟨by omega, by omega⟩, Int.le_trans (by decide) (hmul _).1, Int.lt_of_lt_of_le (hmul _).2 (by decide), fun ac hac => ?_⟩
  have nac : ac ≠ a := fun z => by subst z; rw [updN_same] at hac; cases hac
  have nac4 : ac ≠ a4 := fun z => by subst z; rw [updN_ne (fun z => n4 z.symm), updN_same] at hac; cases hac
  refine moments_lc nac hbe he hb0 ?_ _ _ [] d2 (by rw [updN_ne (fun z => nac z.symm), updN_same]) hs2 (by rw [updN_same]; rfl) (by simp) (by rw [rng_length, List.length_nil, Nat.zero_add]; exact hnat _) (fun z hz1 hz2 => rfl)
  intro N1 acc d3 hN1 hs3 hac1 hacc hal hpr
  have hp4 : N1 a4 = some ⟨true, (lrD (.int 100)).val⟩ := by rw [hpr a4 (fun z => n4 z.symm) (fun z => nac4 z.symm), updN_ne (fun z => nac4 z.symm), updN_ne (fun z => n4 z.symm), updN_same]
  simp only [drf_ref hac1, sset_ok, sset_val]
  refine ⟨by omega, fun a6 h6 => ⟨by decide, fun a7 h7 => ?_⟩⟩
  have e6a : a6 ≠ a := fun z => by subst z; rw [hN1] at h6; cases h6
  have e64 : a6 ≠ a4 := fun z => by subst z; rw [hp4] at h6; cases h6
  have h7' : N1 a7 = none ∧ a7 ≠ a6 := by
    by_cases z : a7 = a6
    · subst z; rw [updN_same] at h7; cases h7
    · rw [updN_ne z] at h7; exact ⟨h7, z⟩
  obtain ⟨h7n, e76⟩ := h7'
  have e7a : a7 ≠ a := fun z => by subst z; rw [hN1] at h7n; cases h7n
  have e74 : a7 ≠ a4 := fun z => by subst z; rw [hp4] at h7n; cases h7n
  refine ⟨a, most + 1, d3, rfl, by rw [updN_ne (fun z => e7a z.symm), updN_ne (fun z => e6a z.symm)]; exact hN1, hs3, by omega, by omega, fun r7 d4 r70 r71 hs4 => ?_⟩
  simp! only []
  refine ⟨by omega, by omega, ?_⟩
  refine loopD_rng (fun i δ N => ∃ (Lf ms : List Int) (rs : List Row) (x8 x9 x10 x11 : Option D) (dd : D), δ = [some (.ref a), some (.int b), some (.int e), some (.int most), some (.ref a4), some (.int often), some (.ref a6), some (.ref a7), x8, x9, x10, x11] ∧
    N a = some ⟨true, dd⟩ ∧ HSt dd ∧ N a4 = some ⟨true, dI Lf⟩ ∧ N a6 = some ⟨true, dI ms⟩ ∧ N a7 = some ⟨true, dR rs⟩ ∧ rs.length = i ∧ Lf.length = 100 - i ∧ Lf.Nodup ∧ (∀ l ∈ Lf, 0 ≤ l ∧ l ≤ 99) ∧ ms.Pairwise (· < ·) ∧ (∀ x ∈ ms, b ≤ x ∧ x < e) ∧
    (∀ r ∈ rs, ROk1 r ∧ r.id ∉ Lf) ∧ (rs.map Row.id).Nodup ∧ (∀ m ∈ rs.filterMap Row.mo, (b ≤ m ∧ m < e) ∧ ∀ y ∈ ms, m < y) ∧ (rs.filterMap Row.mo).Pairwise (· < ·) ∧
    (∀ z, z ≠ a → z ≠ a4 → z ≠ a6 → z ≠ a7 → N z = N1 z)) ?_ ?_ ?_
  · refine ⟨rng 0 100, usort acc, [], none, none, none, none, d4, rfl, updN_same, hs4, ?_, ?_, ?_, rfl, by rw [rng_length], by decide +kernel, by decide +kernel, usort_up, fun x hx => hacc x (usort_mem.mp hx), by simp, by simp, by simp, by simp, fun z z1 z2 z3 z4 => by rw [updN_ne z1, updN_ne z4, updN_ne z3]⟩
    · rw [updN_ne (fun z => n4 z.symm), updN_ne (fun z => e74 z.symm), updN_ne (fun z => e64 z.symm)]; exact hp4
    · rw [updN_ne e6a, updN_ne (fun z => e76 z.symm), updN_same]
    · rw [updN_ne e7a, updN_same]; rfl
  · rintro δ N ⟨Lf, ms, rs, x8, x9, x10, x11, dd, rfl, g1, g2, g3, g4, g5, g6, g7, g8, g9, g10, g11, g12, g13, g14, g15, g16⟩
    simp! only []
    have Mac : M ac = none := by rw [updN_ne nac, updN_ne nac4] at hac; exact hac
    have hM : ∀ z c, z ≠ a → M z = some c → N1 z = some c ∧ z ≠ a4 ∧ z ≠ a6 ∧ z ≠ a7 := fun z c hz hc => by
      have z4 : z ≠ a4 := fun y => by subst y; rw [h4] at hc; cases hc
      have zc : z ≠ ac := fun y => by subst y; rw [Mac] at hc; cases hc
      have hz1 : N1 z = some c := by rw [hpr z hz zc, updN_ne zc, updN_ne hz, updN_ne z4]; exact hc
      exact ⟨hz1, z4, (fun y => by subst y; rw [h6] at hz1; cases hz1), (fun y => by subst y; rw [h7n] at hz1; cases hz1)⟩
    refine ⟨_, g5, q dd rs (remN N a7) ⟨by omega, fun r hr => (g12 r hr).1, g13, fun m hm => (g14 m hm).1, g15, ⟨hb0, hbe, he⟩⟩ (by omega) g2 (fun z c hz hc => ?_) (by rw [remN_ne (fun z => e7a z.symm)]; exact g1)⟩
    obtain ⟨y1, y2, y3, y4⟩ := hM z c hz hc
    rw [remN_ne y4, g16 z hz y2 y3 y4]; exact y1
  · rintro i δ N L hi hL ⟨Lf, ms, rs, x8, x9, x10, x11, dd, rfl, g1, g2, g3, g4, g5, g6, g7, g8, g9, g10, g11, g12, g13, g14, g15, g16⟩
    have hi30 : i < 30 := by omega
    simp! only []
    refine ⟨by decide, by decide, a, 2, dd, rfl, g1, g2, by decide, by decide, fun rk dk k0 k1 hk => ?_⟩
    have hkind : atI [D.str (Str.ofString "clip"), D.str (Str.ofString "live")] rk = some (.str (kindS (decide (rk = 1)))) := by
      have : rk = 0 ∨ rk = 1 := by omega
      rcases this with rfl | rfl <;> rfl
    simp! only [hkind]
    refine ⟨by decide, a, 3, dk, rfl, updN_same, hk, by decide, by decide, fun rl dl l0 l1 hdl => ?_⟩
    have hmany : ∃ many : Int, atI [D.int 6, D.int 40, D.int 120] rl = some (.int many) ∧ 0 < many ∧ many ≤ 120 := by
      have : rl = 0 ∨ rl = 1 ∨ rl = 2 := by omega
      rcases this with rfl | rfl | rfl
      · exact ⟨6, rfl, by decide, by decide⟩
      · exact ⟨40, rfl, by decide, by decide⟩
      · exact ⟨120, rfl, by decide, by decide⟩
    obtain ⟨many, em, hm1, hm2⟩ := hmany
    simp! only [em, updN_twice]
    refine ⟨a, many, dl, rfl, updN_same, hdl, hm1, by omega, fun rn dn n0 n1 hdn => ?_⟩
    have q6 : updN N a ⟨true, dn⟩ a6 = some ⟨true, dI ms⟩ := by rw [updN_ne e6a]; exact g4
    simp! only [updN_twice, drf_ref q6, ne_nilI]
    have q4 : updN N a ⟨true, dn⟩ a4 = some ⟨true, dI Lf⟩ := by rw [updN_ne (fun z => n4 z.symm)]; exact g3
    have q7 : updN N a ⟨true, dn⟩ a7 = some ⟨true, dR rs⟩ := by rw [updN_ne e7a]; exact g5
    have qa : updN N a ⟨true, dn⟩ a = some ⟨true, dn⟩ := updN_same
    have qz : ∀ z, z ≠ a → z ≠ a4 → z ≠ a6 → z ≠ a7 → updN N a ⟨true, dn⟩ z = N1 z := fun z z1 z2 z3 z4 => by rw [updN_ne z1]; exact g16 z z1 z2 z3 z4
    generalize updN N a ⟨true, dn⟩ = N2 at *
    have tail : ∀ (N3 : Nm) (d3 : D) (ms3 : List Int) (mo : Option Int), N3 a = some ⟨true, d3⟩ → HSt d3 → N3 a4 = some ⟨true, dI Lf⟩ → N3 a6 = some ⟨true, dI ms3⟩ → N3 a7 = some ⟨true, dR rs⟩ → (∀ z, z ≠ a → z ≠ a4 → z ≠ a6 → z ≠ a7 → N3 z = N1 z) →
        ms3.Pairwise (· < ·) → (∀ x ∈ ms3, b ≤ x ∧ x < e) → (∀ m ∈ mo, (b ≤ m ∧ m < e) ∧ (∀ y ∈ ms3, m < y) ∧ ∀ m' ∈ rs.filterMap Row.mo, m' < m) → (∀ m ∈ rs.filterMap Row.mo, ∀ y ∈ ms3, m < y) →
        (∃ c, N3 a7 = some c ∧ DL.IsL c.d) ∧ (∃ c, N3 a4 = some c ∧ DL.IsL c.d) ∧ (lenD (drf N3 (D.ref a4))).ok ∧ sp_law_next [D.ref a, (lenD (drf N3 (D.ref a4))).val] N3 (fun d N1 => IsI d ∧ -2 ^ 63 ≤ toI d ∧ toI d < 2 ^ 63 ∧ ∃ xs n y, N1 a4 = some ⟨true, .lst xs⟩ ∧
          ixN xs.length (toI d) = some n ∧ xs[n]? = some y ∧ lf y ∧ 1 + 1 + 1 + 1 ≤ SZ ∧ lf (.tup [y, .str (kindS (decide (rk = 1))), .int (1 + rn), moD mo]) ∧ ∃ xs_1, updN N1 a4 ⟨true, .lst (xs.eraseIdx n)⟩ a7 = some ⟨true, .lst xs_1⟩ ∧ xs_1.length < SZ ∧
          L [some (.ref a), some (.int b), some (.int e), some (.int most), some (.ref a4), some (.int often), some (.ref a6), some (.ref a7), some (.int (0 + i)), some (.str (kindS (decide (rk = 1)))), some (.int (1 + rn)), some (moD mo)]
            (updN (updN N1 a4 ⟨true, .lst (xs.eraseIdx n)⟩) a7 ⟨true, .lst (xs_1 ++ [.tup [y, .str (kindS (decide (rk = 1))), .int (1 + rn), moD mo]])⟩)) E' := by
      intro N3 d3 ms3 mo w1 w2 w3 w4 w5 w6 w7 w8 w9 w10
      refine ⟨⟨_, w5, trivial⟩, ⟨_, w3, trivial⟩, by rw [drf_ref w3]; trivial, ?_⟩
      rw [drf_ref w3]
      refine ⟨a, _, d3, rfl, w1, w2, by rw [List.length_map]; omega, by rw [List.length_map]; omega, fun rp dp p0 p1 hdp => ?_⟩
      rw [List.length_map] at p1
      have hpn : rp.toNat < Lf.length := by omega
      refine ⟨trivial, by rw [toI_int]; omega, by rw [toI_int]; omega, Lf.map D.int, rp.toNat, .int Lf[rp.toNat], by rw [updN_ne (fun z => n4 z.symm)]; exact w3, by rw [toI_int, List.length_map]; exact ixN_nn p0 p1, by rw [List.getElem?_map, List.getElem?_eq_getElem hpn]; rfl, by rw [lf_int]; trivial, by decide, ?_, rs.map rowD, ?_, ?_, hL _ _ ?_⟩
      · have := lf_row (r := ⟨Lf[rp.toNat], decide (rk = 1), 1 + rn, mo⟩); exact this
      · rw [updN_ne e74, updN_ne e7a]; exact w5
      · rw [List.length_map]; show _ < 16000000; omega
      · have hid := g9 Lf[rp.toNat] (List.getElem_mem hpn)
        have hnot : Lf[rp.toNat] ∉ Lf.eraseIdx rp.toNat := fun z => by
          obtain ⟨j, hj, hjn, ej⟩ := List.mem_eraseIdx_iff_getElem.mp z
          rcases Nat.lt_or_gt_of_ne hjn with h | h
          · exact (List.pairwise_iff_getElem.mp g8) j rp.toNat hj hpn h ej
          · exact (List.pairwise_iff_getElem.mp g8) rp.toNat j hpn hj h ej.symm
        have hsub : ∀ l ∈ Lf.eraseIdx rp.toNat, l ∈ Lf := fun l hl => List.mem_of_mem_eraseIdx hl
        refine ⟨Lf.eraseIdx rp.toNat, ms3, rs ++ [⟨Lf[rp.toNat], decide (rk = 1), 1 + rn, mo⟩], _, _, _, _, dp, rfl, ?_, hdp, ?_, ?_, ?_, by simp; omega, by rw [List.length_eraseIdx_of_lt hpn]; omega, List.Pairwise.sublist (List.eraseIdx_sublist _ _) g8, fun l hl => g9 l (hsub l hl), w7, w8, ?_, ?_, ?_, ?_, ?_⟩
        · rw [updN_ne (fun z => e7a z.symm), updN_ne n4, updN_same]
        · rw [updN_ne (fun z => e74 z.symm), updN_same]; rw [erase_map]
        · rw [updN_ne (fun z => e76 z.symm), updN_ne e64, updN_ne e6a]; exact w4
        · rw [updN_same]; simp only [dR, List.map_append]; rfl
        · intro r hr
          rcases List.mem_append.mp hr with hr | hr
          · exact ⟨(g12 r hr).1, fun z => (g12 r hr).2 (hsub _ z)⟩
          · simp at hr; subst hr
            exact ⟨⟨hid, by show 1 ≤ 1 + rn ∧ 1 + rn ≤ 120; omega⟩, hnot⟩
        · rw [List.map_append]
          refine List.nodup_append.mpr ⟨g13, by simp, fun x hx y hy => ?_⟩
          simp at hy; subst hy
          obtain ⟨r, hr, rfl⟩ := List.mem_map.mp hx
          exact fun z => (g12 r hr).2 (by rw [z]; exact List.getElem_mem hpn)
        · intro m hm
          rw [List.filterMap_append] at hm
          rcases List.mem_append.mp hm with hm | hm
          · exact ⟨(g14 m hm).1, w10 m hm⟩
          · have hm : m ∈ mo := by simpa using hm
            exact ⟨(w9 m hm).1, (w9 m hm).2.1⟩
        · rw [List.filterMap_append]
          refine List.pairwise_append.mpr ⟨g15, by cases mo <;> simp, fun x hx y hy => ?_⟩
          have hy : y ∈ mo := by simpa using hy
          exact (w9 y hy).2.2 x hx
        · intro z z1 z2 z3 z4
          rw [updN_ne z4, updN_ne z2, updN_ne z1]; exact w6 z z1 z2 z3 z4
    refine ⟨by decide, ?_⟩
    by_cases hms : ms = []
    · refine (if_neg (by simp [hms])).mpr ?_
      exact tail N2 dn ms none qa hdn q4 q6 q7 qz g10 g11 (by simp) (fun m hm => (g14 m hm).2)
    · refine (if_pos (by simp [hms])).mpr ?_
      refine ⟨a, 4, dn, rfl, qa, hdn, by decide, by decide, fun rt dt t0 t1 hdt => ?_⟩
      refine ⟨trivial, ?_⟩
      have u4 : updN N2 a ⟨true, dt⟩ a4 = some ⟨true, dI Lf⟩ := by rw [updN_ne (fun z => n4 z.symm)]; exact q4
      have u6 : updN N2 a ⟨true, dt⟩ a6 = some ⟨true, dI ms⟩ := by rw [updN_ne e6a]; exact q6
      have u7 : updN N2 a ⟨true, dt⟩ a7 = some ⟨true, dR rs⟩ := by rw [updN_ne e7a]; exact q7
      have ua : updN N2 a ⟨true, dt⟩ a = some ⟨true, dt⟩ := updN_same
      have uz : ∀ z, z ≠ a → z ≠ a4 → z ≠ a6 → z ≠ a7 → updN N2 a ⟨true, dt⟩ z = N1 z := fun z z1 z2 z3 z4 => by rw [updN_ne z1]; exact qz z z1 z2 z3 z4
      generalize updN N2 a ⟨true, dt⟩ = N3 at *
      by_cases hof : rt < often
      · refine (if_pos (decide_eq_true hof)).mpr ?_
        obtain ⟨m, ms', rfl⟩ : ∃ m ms', ms = m :: ms' := by
          cases ms with
          | nil => exact absurd rfl hms
          | cons m ms' => exact ⟨m, ms', rfl⟩
        obtain ⟨p1, p2⟩ := List.pairwise_cons.mp g10
        refine ⟨⟨_, u6, trivial⟩, by decide, by decide, (m :: ms').map D.int, 0, .int m, u6, ixN_nn (by decide) (by simp), rfl, by rw [lf_int]; trivial, ?_⟩
        exact tail _ dt ms' (some m) (by rw [updN_ne (fun z => e6a z.symm)]; exact ua) hdt (by rw [updN_ne (fun z => e64 z.symm)]; exact u4) updN_same (by rw [updN_ne e76]; exact u7) (fun z z1 z2 z3 z4 => by rw [updN_ne z3]; exact uz z z1 z2 z3 z4) p2 (fun x hx => g11 x (by simp [hx]))
          (fun m' hm' => by
            have : m' = m := by simpa using hm'.symm
            subst this
            exact ⟨g11 m' (by simp), p1, fun m2 hm2 => (g14 m2 hm2).2 m' (by simp)⟩) (fun m2 hm2 y hy => (g14 m2 hm2).2 y (by simp [hy]))
      · refine (if_neg (fun z => hof (of_decide_eq_true z))).mpr ?_
        exact tail N3 dt ms none ua hdt u4 u6 u7 uz g10 g11 (by simp) (fun m hm => (g14 m hm).2)
end K14
set_option maxHeartbeats 4000000
namespace K14.TX
open K14
open PySem L2 DL TL
theorem getD_list {α : Type} {a : α} : ∀ {xs : List α} {n : Nat}, n < xs.length → xs[n]? = some (xs.getD n a) := by
  intro xs n h
  rw [List.getElem?_eq_getElem h, List.getD_eq_getElem?_getD, List.getElem?_eq_getElem h]; rfl
theorem FOk.pos {fs : List Int} (h : FOk fs) : ∀ l ∈ fs, 1 ≤ l := by
  obtain ⟨h1, h2, h3, h4⟩ := h
  cases fs with
  | nil => simp at h1
  | cons x xs =>
    simp at h1; subst h1
    intro l hl
    rcases List.mem_cons.mp hl with rfl | hl
    · omega
    · have := (List.pairwise_cons.mp h3).1 l hl; omega
theorem numS_nat {i : Int} (h : 0 ≤ i) : tl (numS i) = numL i.toNat := by
  obtain ⟨n, rfl⟩ := Int.eq_ofNat_of_zero_le h
  exact tl_num n
theorem numS_len {i : Int} (h : 0 ≤ i) (h1 : i ≤ 999) : 1 ≤ (numS i).length ∧ (numS i).length ≤ 3 := by
  rw [len_tl, numS_nat h]
  refine ⟨List.length_pos_iff.mpr (numL_ne _), numL_len (by decide) (by omega)⟩
theorem rdI_num {i : Int} (h : 0 ≤ i) (h1 : i ≤ 999) : PySem.intText? (numS i) = some i ∧ rdI (numS i) = i := by
  obtain ⟨n, rfl⟩ := Int.eq_ofNat_of_zero_le h
  have e : PySem.intText? (numS n) = some (n : Int) := int_num (Nat.le_trans (numL_len (k := 3) (by decide) (by omega)) (by decide))
  exact ⟨e, by unfold rdI; rw [e]; rfl⟩
theorem numS_free {i : Int} {s : Nat} (h : 0 ≤ i) (hs : s < 48 ∨ 57 < s) : s ∉ tl (numS i) := by rw [numS_nat h]; exact numL_free hs
theorem kind_tl (b : Bool) : tl (kindS b) = cond b [108, 105, 118, 101] [99, 108, 105, 112] := by cases b <;> rfl
theorem kind_dec (b : Bool) : decide (kindS b = ("live" : Str)) = b := by cases b <;> decide +kernel
structure RF (r : Row) : Prop where
  id : 0 ≤ r.id ∧ r.id ≤ 999
  len : 0 ≤ r.len ∧ r.len ≤ 999
  mo : ∀ m ∈ r.mo, 0 ≤ m ∧ m ≤ 999
theorem _root_.K14.ROk1.rf {r : Row} (h : ROk1 r) (k : ∀ m ∈ r.mo, 0 ≤ m ∧ m ≤ 899) : RF r := by
  have := h.id; have := h.len
  exact ⟨by omega, by omega, fun m hm => by have := k m hm; omega⟩
theorem words_free {r : Row} (h : RF r) {s : Nat} (hs : s = 32 ∨ s = 10) : ∀ p ∈ wordsOf r, s ∉ tl p := by
  have hf : s < 48 ∨ 57 < s := by omega
  have hk : s ∉ tl (kindS r.live) := by rw [kind_tl]; cases r.live <;> rcases hs with rfl | rfl <;> decide
  intro p hp
  unfold wordsOf at hp
  rcases List.mem_append.mp hp with hp | hp
  · simp at hp
    rcases hp with rfl | rfl | rfl
    · exact numS_free h.id.1 hf
    · exact hk
    · exact numS_free h.len.1 hf
  · cases hm : r.mo with
    | none => rw [hm] at hp; simp at hp
    | some m =>
      rw [hm] at hp
      have : p = numS m := by simpa using hp
      subst this
      exact numS_free (h.mo m hm).1 hf
theorem words_ne {r : Row} : wordsOf r ≠ [] := by simp [wordsOf]
theorem tl_sp : tl (" " : Str) = [32] := rfl
theorem tl_nl : tl ("\n" : Str) = [10] := rfl
theorem split_line {r : Row} (h : RF r) : Txt.split (lineS r) " " = wordsOf r := split_join tl_sp (by decide +kernel) words_ne (words_free h (.inl rfl))
theorem rdW_words {r : Row} (h : RF r) : rdW (wordsOf r) = r := by
  obtain ⟨i, l, n, m⟩ := r
  unfold rdW wordsOf
  have e1 := (rdI_num h.id.1 h.id.2).2
  have e2 := (rdI_num h.len.1 h.len.2).2
  have e3 := kind_dec l
  cases m with
  | none => simp at e1 e2 ⊢; exact ⟨e1, e3, e2⟩
  | some m =>
    have e4 := (rdI_num (h.mo m rfl).1 (h.mo m rfl).2).2
    simp at e1 e2 ⊢; exact ⟨e1, e3, e2, e4⟩
theorem mem_joinL {S : List Nat} {c : Nat} : ∀ {ps : List (List Nat)}, c ∈ joinL S ps → c ∈ S ∨ ∃ p ∈ ps, c ∈ p
  | [], h => by simp [joinL] at h
  | [p], h => .inr ⟨p, by simp, h⟩
  | p :: q :: r, h => by
    rw [joinL] at h
    rcases List.mem_append.mp h with h | h
    · exact .inr ⟨p, by simp, h⟩
    · rcases List.mem_append.mp h with h | h
      · exact .inl h
      · exact (mem_joinL h).imp id fun ⟨p, hp, hc⟩ => ⟨p, by simp [hp], hc⟩
theorem tl_tjoin (y : Str) (ps : List Str) : tl (Txt.join y ps) = joinL (tl y) (ps.map tl) := by rw [join_eq, tl_join]
theorem line_free {r : Row} (h : RF r) : 10 ∉ tl (lineS r) := by
  unfold lineS
  rw [tl_tjoin]
  intro z
  rcases mem_joinL z with z | ⟨p, hp, hc⟩
  · rw [tl_sp] at z; simp at z
  · obtain ⟨w, hw, rfl⟩ := List.mem_map.mp hp
    exact words_free h (.inr rfl) w hw hc
theorem split_text {rs : List Row} (hne : rs ≠ []) (h : ∀ r ∈ rs, RF r) : Txt.split (textS rs) "\n" = rs.map lineS :=
  split_join tl_nl (by decide +kernel) (by simpa using hne) fun p hp => by obtain ⟨r, hr, rfl⟩ := List.mem_map.mp hp; exact line_free (h r hr)
theorem joinL_len {S : List Nat} : ∀ {ps : List (List Nat)}, (joinL S ps).length ≤ (ps.map List.length).sum + ps.length * S.length
  | [] => by simp [joinL]
  | [p] => by simp [joinL]
  | p :: q :: r => by
    have := joinL_len (S := S) (ps := q :: r)
    rw [joinL]
    simp only [List.length_append, List.map_cons, List.sum_cons, List.length_cons, Nat.add_mul, Nat.one_mul] at this ⊢
    omega
theorem words_len {r : Row} (h : RF r) : ((wordsOf r).map (·.length)).sum ≤ 13 ∧ (wordsOf r).length ≤ 4 := by
  have a := (numS_len h.id.1 h.id.2).2
  have b := (numS_len h.len.1 h.len.2).2
  have c : (kindS r.live).length = 4 := by cases r.live <;> rfl
  unfold wordsOf
  cases hm : r.mo with
  | none => simp; omega
  | some m => have d := (numS_len (h.mo m hm).1 (h.mo m hm).2).2; simp; omega
theorem line_len {r : Row} (h : RF r) : (lineS r).length ≤ 17 := by
  have hw := words_len h
  unfold lineS
  rw [len_tl, tl_tjoin]
  refine Nat.le_trans joinL_len ?_
  rw [List.map_map, List.length_map, tl_sp]
  have e : (wordsOf r).map (List.length ∘ tl) = (wordsOf r).map (·.length) := List.map_congr_left fun x _ => (len_tl x).symm
  rw [e]
  simp; omega
theorem sum_lines {rs : List Row} (h : ∀ r ∈ rs, RF r) : ((rs.map lineS).map (·.length)).sum ≤ 17 * rs.length := by
  induction rs with
  | nil => simp
  | cons r rs ih =>
    have := ih fun x hx => h x (by simp [hx])
    have := line_len (h r (by simp))
    simp only [List.map_cons, List.sum_cons, List.length_cons]; omega
theorem text_len {rs : List Row} (h : ∀ r ∈ rs, RF r) : (textS rs).length ≤ 18 * rs.length := by
  have hs := sum_lines h
  unfold textS
  rw [len_tl, tl_tjoin]
  refine Nat.le_trans joinL_len ?_
  rw [List.map_map, List.length_map, List.length_map, tl_nl]
  have e : (rs.map lineS).map (List.length ∘ tl) = (rs.map lineS).map (·.length) := List.map_congr_left fun x _ => (len_tl x).symm
  rw [e]
  simp at hs ⊢; omega
theorem line_ne {r : Row} : tl (lineS r) ≠ [] := by
  unfold lineS wordsOf
  rw [tl_tjoin]
  simp only [List.cons_append, List.map_cons, joinL]
  rw [tl_sp]; simp
theorem text_ne {rs : List Row} (hne : rs ≠ []) : textS rs ≠ "" := by
  intro z
  have z : tl (textS rs) = [] := by rw [z]; rfl
  unfold textS at z
  rw [tl_tjoin] at z
  cases rs with
  | nil => exact hne rfl
  | cons r rs =>
    cases rs with
    | nil => exact line_ne z
    | cons q rs => simp only [List.map_cons, joinL] at z; exact line_ne (List.append_eq_nil_iff.mp z).1
theorem rdT_text {rs : List Row} (h : ∀ r ∈ rs, RF r) : rdT (textS rs) = rs := by
  unfold rdT
  by_cases hne : rs = []
  · subst hne; exact if_pos rfl
  · rw [if_neg (text_ne hne), split_text hne h, List.map_map]
    have : rs.map ((fun l => rdW (Txt.split l " ")) ∘ lineS) = rs.map id := List.map_congr_left fun r hr => by
      show rdW (Txt.split (lineS r) " ") = r
      rw [split_line (h r hr), rdW_words (h r hr)]
    rw [this, List.map_id]
theorem strOk_tl {s : Str} : PyData.strOk s = true ↔ ∀ c ∈ tl s, c < 0x110000 := by
  unfold PyData.strOk
  rw [Array.all_eq_true_iff_forall_mem]
  simp [tl]
theorem kind_lt : ∀ (b : Bool) (c : Nat), c ∈ cond b [108, 105, 118, 101] [99, 108, 105, 112] → c < 0x110000 := by
  intro b c h
  cases b <;> simp at h <;> omega
theorem text_ok {rs : List Row} (h : ∀ r ∈ rs, RF r) : PyData.strOk (textS rs) = true := by
  rw [strOk_tl]
  intro c hc
  unfold textS at hc
  rw [tl_tjoin] at hc
  rcases mem_joinL hc with z | ⟨p, hp, hc⟩
  · rw [tl_nl] at z; simp at z; omega
  · rw [List.map_map] at hp
    obtain ⟨r, hr, rfl⟩ := List.mem_map.mp hp
    have hc : c ∈ tl (lineS r) := hc
    unfold lineS at hc
    rw [tl_tjoin] at hc
    rcases mem_joinL hc with z | ⟨p, hp, hc⟩
    · rw [tl_sp] at z; simp at z; omega
    · obtain ⟨w, hw, rfl⟩ := List.mem_map.mp hp
      have dig : ∀ i : Int, 0 ≤ i → c ∈ tl (numS i) → c < 0x110000 := fun i hi hc => by
        rw [numS_nat hi] at hc
        have := numL_digits _ c hc
        omega
      have hR := h r hr
      unfold wordsOf at hw
      rcases List.mem_append.mp hw with hw | hw
      · simp at hw
        rcases hw with rfl | rfl | rfl
        · exact dig _ hR.id.1 hc
        · rw [kind_tl] at hc; exact kind_lt _ _ hc
        · exact dig _ hR.len.1 hc
      · cases hm : r.mo with
        | none => rw [hm] at hw; simp at hw
        | some m =>
          rw [hm] at hw
          have : w = numS m := by simpa using hw
          subst this
          exact dig _ (hR.mo m hm).1 hc
end K14.TX
set_option maxHeartbeats 4000000
namespace K14
open PySem L2 DL
theorem eqD_self {x : D} (h : okD 8 x) : eqD x x = true := SeqAt.eqv_refl _ (okD.lay 8 x h).1
theorem ne_self {x : D} (h : okD 8 x) : neT 8 x x = ⟨True, false⟩ := by
  unfold neT
  rw [eqD_self h]
  simp [h]
section
variable {f g : PF} {t u : TF} {δ : DL.Loc} {N : Nm} {x y z : D} {b b2 : Bool}
theorem tc2_eq {op : D → D → TV} (h1 : f δ N = ⟨True, x⟩) (h2 : g δ N = ⟨True, y⟩) (h3 : op x y = ⟨True, b⟩) : tc2 op f g δ N = ⟨True, b⟩ := by
  unfold tc2
  rw [h1, h2]
  show TV.mk (True ∧ True ∧ (op x y).ok) (op x y).b = _
  rw [h3]
  congr 1
  exact eq_true ⟨trivial, trivial, trivial⟩
theorem pc2_eq {op : D → D → TV} (h1 : f δ N = ⟨True, x⟩) (h2 : g δ N = ⟨True, y⟩) (h3 : op x y = ⟨True, b⟩) : pc2 op f g δ N = ⟨True, .bl b⟩ := by
  unfold pc2
  rw [h1, h2]
  show PV.mk (True ∧ True ∧ (op x y).ok) (.bl (op x y).b) = _
  rw [h3]
  congr 1
  exact eq_true ⟨trivial, trivial, trivial⟩
theorem p2_eq {op : D → D → PV} (h1 : f δ N = ⟨True, x⟩) (h2 : g δ N = ⟨True, y⟩) (h3 : op x y = ⟨True, z⟩) : p2 op f g δ N = ⟨True, z⟩ := by
  unfold p2
  rw [h1, h2]
  show PV.mk (True ∧ True ∧ (op x y).ok) (op x y).val = _
  rw [h3]
  congr 1
  exact eq_true ⟨trivial, trivial, trivial⟩
theorem p1_eq {op : D → PV} (h1 : f δ N = ⟨True, x⟩) (h3 : op x = ⟨True, z⟩) : p1 op f δ N = ⟨True, z⟩ := by
  unfold p1
  rw [h1]
  show PV.mk (True ∧ (op x).ok) (op x).val = _
  rw [h3]
  congr 1
  exact eq_true ⟨trivial, trivial⟩
theorem isN_eq (h1 : f δ N = ⟨True, x⟩) : pIsN f δ N = ⟨True, .bl (isN x)⟩ := by unfold pIsN; rw [h1]
theorem and_eq (h1 : f δ N = ⟨True, .bl b⟩) (h2 : g δ N = ⟨True, .bl b2⟩) : pAnd f g δ N = ⟨True, .bl (b && b2)⟩ := by
  unfold pAnd
  rw [h1, h2]
  congr 1
  exact eq_true ⟨trivial, trivial, fun _ => ⟨trivial, trivial⟩⟩
theorem or_eq (h1 : t δ N = ⟨True, b⟩) (h2 : u δ N = ⟨True, b2⟩) : tOr2 t u δ N = ⟨True, b || b2⟩ := by
  unfold tOr2
  rw [h1, h2]
  congr 1
  exact eq_true ⟨trivial, fun _ => trivial⟩
theorem sl_eq {lo hi : SF} {xs : List D} (h1 : f δ N = ⟨True, .lst xs⟩) {i j : Option Int} (h2 : lo δ N = (True, i)) (h3 : hi δ N = (True, j)) : pSl f lo hi δ N = ⟨True, .lst (cutD xs i j)⟩ := by
  unfold pSl
  rw [h1, h2, h3]
  congr 1
  exact eq_true ⟨trivial, trivial, trivial, trivial⟩
theorem sfS_eq {i : Int} (h1 : f δ N = ⟨True, .int i⟩) : sfS f δ N = (True, some i) := by
  unfold sfS
  rw [h1]
  congr 1
  exact eq_true ⟨trivial, trivial⟩
theorem var_eq {i : Nat} (h : lk δ i = some x) : pVar i δ N = ⟨True, x⟩ := by
  unfold pVar
  rw [h]
  congr 1
  exact eq_true rfl
theorem dr_eq (h : f δ N = ⟨True, x⟩) : pDr f δ N = ⟨True, drf N x⟩ := by unfold pDr; rw [h]
theorem len_eq {xs : List D} : lenD (.lst xs) = ⟨True, .int xs.length⟩ := rfl
theorem sub_eq {i j : Int} : bSub (.int i) (.int j) = ⟨True, .int (i - j)⟩ := by
  unfold bSub bI
  congr 1
  exact eq_true ⟨trivial, trivial, trivial⟩
theorem eqT_self (h : okD 8 x) : eqT 8 x x = ⟨True, true⟩ := by
  unfold eqT
  rw [eqD_self h]
  simp [h]
end
theorem pv_and {q : PV} {x : D} (h : q = ⟨True, x⟩) : q.ok ∧ q.val = x := by rw [h]; exact ⟨trivial, rfl⟩
theorem tv_and {q : TV} {b : Bool} (h : q = ⟨True, b⟩) : q.ok ∧ q.b = b := by rw [h]; exact ⟨trivial, rfl⟩
theorem tv_mk {p : Prop} {b : Bool} (h : p) : (⟨p, b⟩ : TV) = ⟨True, b⟩ := by rw [eq_true h]
theorem av_mk {p : Prop} {xs : List D} (h : p) : (⟨p, xs⟩ : AV) = ⟨True, xs⟩ := by rw [eq_true h]
theorem pv_mk {p : Prop} {x : D} (h : p) : (⟨p, x⟩ : PV) = ⟨True, x⟩ := by rw [eq_true h]
section
variable {δ : DL.Loc} {N : Nm} {t u : TF} {f g h : PF} {b : Bool} {x y z : D}
theorem tand_F (h : t δ N = ⟨True, false⟩) : tAnd2 t u δ N = ⟨True, false⟩ := by
  unfold tAnd2; rw [h]; exact tv_mk ⟨trivial, fun z => by cases z⟩
theorem tand_T (h : t δ N = ⟨True, true⟩) (k : u δ N = ⟨True, b⟩) : tAnd2 t u δ N = ⟨True, b⟩ := by
  unfold tAnd2; rw [h, k]; exact tv_mk (b := b) ⟨trivial, fun _ => trivial⟩
theorem tand_B {b2 : Bool} (h : t δ N = ⟨True, b⟩) (k : u δ N = ⟨True, b2⟩) : tAnd2 t u δ N = ⟨True, b && b2⟩ := by
  unfold tAnd2; rw [h, k]; exact tv_mk ⟨trivial, fun _ => trivial⟩
theorem tor_F (h : t δ N = ⟨True, false⟩) (k : u δ N = ⟨True, b⟩) : tOr2 t u δ N = ⟨True, b⟩ := by
  unfold tOr2; rw [h, k]; exact tv_mk (b := b) ⟨trivial, fun _ => trivial⟩
theorem tnot_eq (h : t δ N = ⟨True, b⟩) : tNot1 t δ N = ⟨True, !b⟩ := by unfold tNot1; rw [h]
theorem tof_eq (h : f δ N = ⟨True, .bl b⟩) : tOf f δ N = ⟨True, b⟩ := by
  unfold tOf; rw [h]; exact tv_mk (b := b) ⟨trivial, trivial⟩
theorem isi_eq {T : String} (h : f δ N = ⟨True, x⟩) (ht : Ty x) : pIsi T f δ N = ⟨True, .bl (isiB T x)⟩ := by
  unfold pIsi; rw [h]; exact pv_mk ⟨trivial, ht⟩
theorem notN_eq (h : f δ N = ⟨True, x⟩) : DL.tNotN f δ N = ⟨True, !isN x⟩ := by unfold DL.tNotN; rw [h]
theorem pnot_eq (h : f δ N = ⟨True, .bl b⟩) : pNot f δ N = ⟨True, .bl (!b)⟩ := by
  unfold pNot; rw [h]; exact pv_mk ⟨trivial, trivial⟩
theorem pand_F (h : f δ N = ⟨True, .bl false⟩) : pAnd f g δ N = ⟨True, .bl false⟩ := by
  unfold pAnd; rw [h]; exact pv_mk ⟨trivial, trivial, fun z => by cases z⟩
theorem plf_eq (h : f δ N = ⟨True, x⟩) (hl : lf x) : pLf f δ N = ⟨True, x⟩ := by
  unfold pLf; rw [h]; exact pv_mk ⟨trivial, hl⟩
theorem pif_T (h : t δ N = ⟨True, true⟩) (k : f δ N = ⟨True, x⟩) : pIf t f g δ N = ⟨True, x⟩ := by
  unfold pIf; rw [h, k]; exact pv_mk (x := x) ⟨trivial, trivial⟩
theorem pif_F (h : t δ N = ⟨True, false⟩) (k : g δ N = ⟨True, x⟩) : pIf t f g δ N = ⟨True, x⟩ := by
  unfold pIf; rw [h, k]; exact pv_mk (x := x) ⟨trivial, trivial⟩
theorem int_eq {i : Int} : pInt i δ N = ⟨True, .int i⟩ := rfl
theorem str_eq {i : Str} : pStr i δ N = ⟨True, .str i⟩ := rfl
end
theorem ix_tup {xs : List D} {n : Int} {d : D} (h : atI xs n = some d) : ixQ (.tup xs) (.int n) = ⟨True, d⟩ := by
  unfold ixQ
  have e : atI (toL (.tup xs)) (toI (.int n)) = some d := h
  rw [e]
  exact pv_mk (x := d) ⟨trivial, trivial, rfl⟩
theorem dget_eq {ks : List Key} {xs : List D} {y d : D} (hy : isKey y) (h : getK ks xs (toK y) = some d) : dgetD (.dic ks xs) y = ⟨True, d⟩ := by
  unfold dgetD
  show (⟨IsDic (.dic ks xs) ∧ isKey y ∧ (getK ks xs (toK y)).isSome = true, (getK ks xs (toK y)).getD .non⟩ : PV) = _
  rw [h]
  exact pv_mk (x := d) ⟨trivial, hy, rfl⟩
theorem dgetF_eq {ks : List Key} {xs : List D} {y d : D} (hy : isKey y) (h : getK ks xs (toK y) = some d) : dgetF (.fdic ks xs) y = ⟨True, d⟩ := by
  unfold dgetF
  show (⟨isKey y ∧ (getK ks xs (toK y)).isSome = true, (getK ks xs (toK y)).getD .non⟩ : PV) = _
  rw [h]
  exact pv_mk (x := d) ⟨hy, rfl⟩
theorem din_eq {neg : Bool} {ks : List Key} {xs : List D} {y : D} {b : Bool} (hy : isKey y) (h : (getK ks xs (toK y)).isSome = b) : dinT neg y (.dic ks xs) = ⟨True, if neg = true then !b else b⟩ := by
  unfold dinT
  show (⟨isKey y ∧ IsDic (.dic ks xs), if neg = true then !(getK ks xs (toK y)).isSome else (getK ks xs (toK y)).isSome⟩ : TV) = _
  rw [h]
  exact tv_mk ⟨hy, trivial⟩
theorem inI_eq {neg : Bool} {i : Int} {xs : List Int} : inT neg (.int i) (dI xs) = ⟨True, if neg = true then !decide (i ∈ xs) else decide (i ∈ xs)⟩ := by
  unfold inT
  rw [toL_lst, inB_int]
  refine tv_mk ⟨rfl, trivial, fun d hd => ?_⟩
  obtain ⟨x, _, rfl⟩ := List.mem_map.mp hd
  rfl
section
variable {δ : DL.Loc} {N : Nm} {t u : TF} {f g h : PF} {b : Bool} {x y z : D}
theorem tor_T (h : t δ N = ⟨True, true⟩) : tOr2 t u δ N = ⟨True, true⟩ := by
  unfold tOr2; rw [h]; exact tv_mk ⟨trivial, fun z => by cases z⟩
theorem por_T (h : f δ N = ⟨True, .bl true⟩) : pOr f g δ N = ⟨True, .bl true⟩ := by
  unfold pOr; rw [h]; exact pv_mk ⟨trivial, trivial, fun z => by cases z⟩
theorem nil_eq : pLst aNil δ N = ⟨True, .lst []⟩ := by
  unfold pLst aNil; exact pv_mk ⟨trivial, Nat.zero_le _⟩
theorem iL_and {xs : List D} (h : f δ N = ⟨True, .lst xs⟩) : (iL f δ N).ok ∧ (iL f δ N).vals = xs := by
  unfold iL; rw [h]; exact ⟨⟨trivial, trivial⟩, rfl⟩
theorem cat_eq {xs ys : List D} (h1 : f δ N = ⟨True, .lst xs⟩) (h2 : g δ N = ⟨True, .lst ys⟩) (h3 : xs.length + ys.length ≤ SZ) : p2 catL f g δ N = ⟨True, .lst (xs ++ ys)⟩ := p2_eq h1 h2 (by unfold catL; exact pv_mk (x := .lst (xs ++ ys)) ⟨trivial, trivial, h3⟩)
theorem lc_eq {α : Type} {fi : PF} {G : GF} {ft : TF} {fe : PF} {vs : List Nat} {k : α → D} {p : α → Bool} {g : α → D} {xs : List α} (hi : fi δ N = ⟨True, .lst (xs.map k)⟩) (hl : xs.length ≤ SZ)
    (h : ∀ x ∈ xs, (G (k x) (wipeD δ vs)).ok ∧ ft (G (k x) (wipeD δ vs)).loc N = ⟨True, p x⟩ ∧ (p x = true → fe (G (k x) (wipeD δ vs)).loc N = ⟨True, g x⟩)) : pLc (iL fi) G ft fe vs δ N = ⟨True, .lst ((xs.filter p).map g)⟩ := by
  have e1 : lcRes G ft fe (wipeD δ vs) N (xs.map k) = (xs.filter p).map g := lcRes_map k p g fun x hx => by
    obtain ⟨h1, h2, h3⟩ := h x hx
    exact ⟨by rw [h2], fun z => by rw [h3 z]⟩
  unfold pLc iL
  rw [hi]
  show (⟨_, .lst (lcRes G ft fe (wipeD δ vs) N (xs.map k))⟩ : PV) = _
  rw [e1]
  refine pv_mk ⟨⟨trivial, trivial⟩, by show (xs.map k).length ≤ SZ; rw [List.length_map]; exact hl, fun d hd => ?_⟩
  obtain ⟨x, hx, rfl⟩ := List.mem_map.mp hd
  obtain ⟨h1, h2, h3⟩ := h x hx
  refine ⟨h1, by rw [h2]; trivial, fun z => ?_⟩
  rw [h2] at z
  rw [h3 z]; trivial
theorem lcF_eq {α : Type} {fi : PF} {G : GF} {ft : TF} {fe : PF} {vs : List Nat} {k : α → D} {p : α → Bool} {g : α → D} {xs : List α} (hi : fi δ N = ⟨True, .lst (xs.map k)⟩) (hl : xs.length ≤ SZ)
    (h : ∀ x ∈ xs, (G (k x) (wipeD δ vs)).ok ∧ ft (G (k x) (wipeD δ vs)).loc N = ⟨True, p x⟩ ∧ (p x = true → fe (G (k x) (wipeD δ vs)).loc N = ⟨True, g x⟩)) (hf : ∀ x ∈ xs, p x = true → lf (g x)) : pLcF (iL fi) G ft fe vs δ N = ⟨True, .lst ((xs.filter p).map g)⟩ := by
  have h0 := lc_eq (vs := vs) hi hl h
  have hv : lcRes G ft fe (wipeD δ vs) N (iL fi δ N).vals = (xs.filter p).map g := D.lst.inj (congrArg PV.val h0)
  have ho : (pLc (iL fi) G ft fe vs δ N).ok := by rw [h0]; trivial
  unfold pLcF
  rw [hv]
  refine pv_mk ⟨ho, lfs_iff.mpr fun d hd => ?_⟩
  obtain ⟨x, hx, rfl⟩ := List.mem_map.mp hd
  obtain ⟨h1, h2⟩ := List.mem_filter.mp hx
  exact hf x h1 h2
theorem lcR_eq {fi : PF} {G : GF} {ft : TF} {fe : PF} {vs : List Nat} {n : Nat} {p : Int → Bool} {g : Int → D} (hi : fi δ N = ⟨True, .int n⟩) (hl : n ≤ 100000)
    (h : ∀ x ∈ rng 0 n, (G (.int x) (wipeD δ vs)).ok ∧ ft (G (.int x) (wipeD δ vs)).loc N = ⟨True, p x⟩ ∧ (p x = true → fe (G (.int x) (wipeD δ vs)).loc N = ⟨True, g x⟩)) : pLc (iR1 fi) G ft fe vs δ N = ⟨True, .lst (((rng 0 n).filter p).map g)⟩ := by
  have e1 : lcRes G ft fe (wipeD δ vs) N ((rng 0 n).map D.int) = ((rng 0 n).filter p).map g := lcRes_map D.int p g fun x hx => by
    obtain ⟨h1, h2, h3⟩ := h x hx
    exact ⟨by rw [h2], fun z => by rw [h3 z]⟩
  have e0 : iR1 fi δ N = ⟨True, (rng 0 n).map D.int⟩ := by
    unfold iR1
    rw [hi]
    exact av_mk ⟨trivial, trivial, by show -(2 ^ 62 : Int) ≤ (n : Int); omega, by show (n : Int) < 2 ^ 62; omega⟩
  unfold pLc
  rw [e0]
  show (⟨_, .lst (lcRes G ft fe (wipeD δ vs) N ((rng 0 n).map D.int))⟩ : PV) = _
  rw [e1]
  refine pv_mk ⟨trivial, by show ((rng 0 n).map D.int).length ≤ 16000000; rw [List.length_map, rng_length]; omega, fun d hd => ?_⟩
  obtain ⟨x, hx, rfl⟩ := List.mem_map.mp hd
  obtain ⟨h1, h2, h3⟩ := h x hx
  refine ⟨h1, by rw [h2]; trivial, fun z => ?_⟩
  rw [h2] at z
  rw [h3 z]; trivial
theorem dv_eq {i : Nat} (h : lk δ i = some x) (hx : drf N x = x) : pDr (pVar i) δ N = ⟨True, x⟩ := by rw [dr_eq (var_eq h), hx]
theorem tup2_eq (h1 : f δ N = ⟨True, x⟩) (h2 : g δ N = ⟨True, y⟩) : pTup (aCons f (aCons g aNil)) δ N = ⟨True, .tup [x, y]⟩ := by
  unfold pTup aCons aNil
  rw [h1, h2]
  exact pv_mk ⟨⟨trivial, trivial, trivial⟩, Nat.le_of_ble_eq_true rfl⟩
theorem and2_eq (h1 : f δ N = ⟨True, .bl true⟩) (h2 : g δ N = ⟨True, .bl b⟩) : pAnd f g δ N = ⟨True, .bl b⟩ := and_eq (b := true) h1 h2
end
theorem ne_b {x y : D} (h1 : okD 8 x) (h2 : okD 8 y) : neT 8 x y = ⟨True, !eqD x y⟩ := by
  unfold neT; exact tv_mk ⟨h1, h2⟩
theorem eq_b {x y : D} (h1 : okD 8 x) (h2 : okD 8 y) : eqT 8 x y = ⟨True, eqD x y⟩ := by
  unfold eqT; exact tv_mk ⟨h1, h2⟩
end K14
set_option maxHeartbeats 4000000
namespace K14
open PySem L2 DL TL
theorem strOk_tl {s : Str} : PyData.strOk s = true ↔ ∀ c ∈ tl s, c < 0x110000 := by
  unfold PyData.strOk
  rw [Array.all_eq_true_iff_forall_mem]
  simp [tl]
theorem spl_wt (c : Nat) : ∀ (r acc : List Nat), ((spl [c] 0 acc r).map fun p => p.length + 1).sum = acc.length + r.length + 1
  | [], acc => by rw [spl_nil]; simp
  | x :: r, acc => by
    cases h : pre [c] (x :: r) with
    | true =>
      rw [spl_hit h]
      show ((acc :: spl [c] 0 [] r).map fun p => p.length + 1).sum = _
      rw [List.map_cons, List.sum_cons, spl_wt c r []]
      simp; omega
    | false =>
      rw [spl_miss h, spl_wt c r (acc ++ [x])]
      simp; omega
theorem spl_sub (c : Nat) : ∀ (r acc p : List Nat), p ∈ spl [c] 0 acc r → ∀ x ∈ p, x ∈ acc ∨ x ∈ r
  | [], acc, p, hp, x, hx => by
    rw [spl_nil] at hp
    rw [List.mem_singleton.mp hp] at hx
    exact .inl hx
  | y :: r, acc, p, hp, x, hx => by
    cases h : pre [c] (y :: r) with
    | true =>
      rw [spl_hit h] at hp
      rcases List.mem_cons.mp hp with rfl | hp
      · exact .inl hx
      · rcases spl_sub c r [] p hp x hx with z | z
        · cases z
        · exact .inr (List.mem_cons_of_mem _ z)
    | false =>
      rw [spl_miss h] at hp
      rcases spl_sub c r (acc ++ [y]) p hp x hx with z | z
      · rcases List.mem_append.mp z with z | z
        · exact .inl z
        · rw [List.mem_singleton.mp z]; exact .inr (by simp)
      · exact .inr (List.mem_cons_of_mem _ z)
def wt (ps : List Str) : Nat := (ps.map fun p => p.length + 1).sum
theorem wt_app {a b : List Str} : wt (a ++ b) = wt a + wt b := by unfold wt; rw [List.map_append, List.sum_append]
theorem wt_len : ∀ {ps : List Str}, ps.length ≤ wt ps
  | [] => Nat.zero_le _
  | p :: ps => by
    have := wt_len (ps := ps)
    unfold wt at this ⊢
    simp only [List.map_cons, List.sum_cons, List.length_cons]; omega
theorem wt_mem : ∀ {ps : List Str} {p : Str}, p ∈ ps → p.length + 1 ≤ wt ps
  | q :: ps, p, h => by
    unfold wt
    rw [List.map_cons, List.sum_cons]
    rcases List.mem_cons.mp h with rfl | h
    · omega
    · have := wt_mem h; unfold wt at this; omega
structure SplF (s y : Str) : Prop where
  wt : wt (Txt.split s y) = s.length + 1
  ok : PyData.strOk s = true → ∀ p ∈ Txt.split s y, PyData.strOk p = true
  ne : Txt.split s y ≠ []
theorem spl_facts {s y : Str} {c : Nat} (e : tl y = [c]) (hk : y.cps.all (· < 256) = true) : SplF s y := by
  have h := split_spl s y (by rw [e]; simp) (kind_ok hk)
  rw [e] at h
  refine ⟨?_, fun h0 p hp => ?_, fun z => ?_⟩
  · have w := spl_wt c (tl s) []
    rw [← h, List.map_map] at w
    unfold wt
    rw [show ((fun p => p.length + 1) ∘ tl) = (fun p : Str => p.length + 1) from funext fun p => by show (tl p).length + 1 = _; rw [← len_tl]] at w
    rw [w, len_tl s]; simp
  · rw [strOk_tl] at h0 ⊢
    intro x hx
    have : tl p ∈ spl [c] 0 [] (tl s) := by rw [← h]; exact List.mem_map.mpr ⟨p, hp, rfl⟩
    rcases spl_sub c (tl s) [] (tl p) this x hx with z | z
    · cases z
    · exact h0 x z
  · have w := spl_wt c (tl s) []
    rw [← h, z] at w
    simp at w
theorem sp_sp {s : Str} : SplF s " " := spl_facts (c := 32) rfl (by decide +kernel)
theorem sp_nl {s : Str} : SplF s "\n" := spl_facts (c := 10) rfl (by decide +kernel)
theorem SplF.sok {s y : Str} {n : Nat} (h : SplF s y) (k : SOk s n) : ∀ p ∈ Txt.split s y, SOk p n := fun p hp => ⟨h.ok k.ok p hp, by have := wt_mem hp; have := h.wt; have := k.len; omega⟩
theorem SplF.len {s y : Str} (h : SplF s y) : (Txt.split s y).length ≤ s.length + 1 := by have := wt_len (ps := Txt.split s y); have := h.wt; omega
section
variable {δ : DL.Loc} {N : Nm} {f g h : PF} {t u : TF}
theorem chn_eq {p q : Int → Int → Bool} {i j k : Int} (h1 : f δ N = ⟨True, .int i⟩) (h2 : g δ N = ⟨True, .int j⟩) (h3 : h δ N = ⟨True, .int k⟩) : tChn p q f g h δ N = ⟨True, p i j && q j k⟩ := by
  unfold tChn
  rw [h1, h2, h3]
  exact tv_mk ⟨trivial, trivial, trivial, trivial, fun _ => ⟨trivial, trivial⟩⟩
theorem lcS_eq {G : GF} {ft : TF} {fe : PF} {vs : List Nat} {s : Str} {p : Nat → Bool} {g : Nat → D} (hi : f δ N = ⟨True, .str s⟩) (hl : s.length ≤ 100000)
    (h : ∀ n : Nat, (G (.str ⟨#[n]⟩) (wipeD δ vs)).ok ∧ ft (G (.str ⟨#[n]⟩) (wipeD δ vs)).loc N = ⟨True, p n⟩ ∧ (p n = true → fe (G (.str ⟨#[n]⟩) (wipeD δ vs)).loc N = ⟨True, g n⟩)) : pLc (iS f) G ft fe vs δ N = ⟨True, .lst (((tl s).filter p).map g)⟩ := by
  have e1 : lcRes G ft fe (wipeD δ vs) N (signs s) = ((tl s).filter p).map g := lcRes_map (fun n => D.str ⟨#[n]⟩) p g fun x hx => by
    obtain ⟨h1, h2, h3⟩ := h x
    exact ⟨by rw [h2], fun z => by rw [h3 z]⟩
  unfold pLc iS
  rw [hi]
  show (⟨_, .lst (lcRes G ft fe (wipeD δ vs) N (signs s))⟩ : PV) = _
  rw [e1]
  refine pv_mk ⟨⟨trivial, trivial⟩, ?_, fun d hd => ?_⟩
  · show (signs s).length ≤ 16000000
    unfold signs
    rw [List.length_map]
    have := len_tl s
    show (tl s).length ≤ _
    omega
  · obtain ⟨x, hx, rfl⟩ := List.mem_map.mp (show d ∈ signs s from hd)
    obtain ⟨h1, h2, h3⟩ := h x
    refine ⟨h1, by rw [h2]; trivial, fun z => ?_⟩
    rw [h2] at z
    rw [h3 z]; trivial
end
theorem lenS_eq {s : Str} (h : s.length ≤ 100000) : lenD (.str s) = ⟨True, .int s.length⟩ := pv_mk (by show _ ≤ 16000000; omega)
theorem sin_signB {n : Nat} : sinT true (.str ⟨#[n]⟩) (.str "0123456789") = ⟨True, !digB n⟩ := by
  have e : sgn (.str ⟨#[n]⟩) = n := rfl
  have e2 : (toS (.str "0123456789")).cps.toList = [48, 49, 50, 51, 52, 53, 54, 55, 56, 57] := rfl
  unfold sinT
  rw [e, e2]
  exact tv_mk ⟨rfl, trivial⟩
theorem okD_sgns {ns : List Nat} (h : ∀ n ∈ ns, n < 0x110000) : okD 8 (.lst (ns.map fun n => D.str ⟨#[n]⟩)) := fun d hd => by
  obtain ⟨n, hn, rfl⟩ := List.mem_map.mp hd
  show PyData.strOk (⟨#[n]⟩ : Str) = true
  rw [strOk_tl]
  intro c hc
  have : c = n := by simpa [tl] using hc
  rw [this]; exact h n hn
theorem ne_nilS {ns : List Nat} (h : ∀ n ∈ ns, n < 0x110000) : neT 8 (.lst (ns.map fun n => D.str ⟨#[n]⟩)) (.lst []) = ⟨True, !decide (ns = [])⟩ := by
  rw [ne_b (x := .lst (ns.map fun n => D.str ⟨#[n]⟩)) (y := .lst []) (okD_sgns h) (fun d hd => by cases hd)]
  cases ns with
  | nil => simp [eqD_lst, eqDs_nil]
  | cons x xs => simp [eqD_lst, eqDs_cn]
theorem filt_dig {s : Str} : decide ((tl s).filter (fun n => !digB n) = []) = s.cps.toList.all digB := by
  show decide ((tl s).filter (fun n => !digB n) = []) = (tl s).all digB
  cases h : (tl s).all digB with
  | true =>
    refine decide_eq_true (List.filter_eq_nil_iff.mpr fun n hn z => ?_)
    rw [List.all_eq_true.mp h n hn] at z; cases z
  | false =>
    refine decide_eq_false fun z => ?_
    have : (tl s).all digB = true := List.all_eq_true.mpr fun n hn => by
      have := List.filter_eq_nil_iff.mp z n hn
      cases hd : digB n with
      | true => rfl
      | false => rw [hd] at this; exact absurd rfl this
    rw [this] at h; cases h
theorem fig_no {s : Str} (h : SOk s 100000) {δ : DL.Loc} {N : Nm} {f1 f2 f3 fs fe : PF} {p q : Int → Int → Bool} {i k : Int} {G : GF} {ft : TF} {vs : List Nat} (h1 : f1 δ N = ⟨True, .int i⟩) (h2 : f2 δ N = ⟨True, .int s.length⟩) (h3 : f3 δ N = ⟨True, .int k⟩) (hp : (p i s.length && q s.length k) = (decide (1 ≤ s.length) && decide (s.length ≤ 3)))
    (hs : fs δ N = ⟨True, .str s⟩) (hc : ∀ n : Nat, (G (.str ⟨#[n]⟩) (wipeD δ vs)).ok ∧ ft (G (.str ⟨#[n]⟩) (wipeD δ vs)).loc N = ⟨True, !digB n⟩ ∧ ((!digB n) = true → fe (G (.str ⟨#[n]⟩) (wipeD δ vs)).loc N = ⟨True, .str ⟨#[n]⟩⟩)) :
    tOr2 (tNot1 (tChn p q f1 f2 f3)) (tc2 (neT 8) (pLc (iS fs) G ft fe vs) (pLst aNil)) δ N = ⟨True, !figB s⟩ := by
  rw [or_eq (tnot_eq (chn_eq h1 h2 h3)) (tc2_eq (lcS_eq (p := fun n => !digB n) (g := fun n => .str ⟨#[n]⟩) hs h.len hc) nil_eq (ne_nilS fun n hn => strOk_tl.mp h.ok n (List.mem_filter.mp hn).1)), hp, filt_dig]
  unfold figB
  congr 1
  cases decide (1 ≤ s.length) <;> cases decide (s.length ≤ 3) <;> cases s.cps.toList.all digB <;> rfl
theorem figB_facts {s : Str} (h : figB s = true) : 1 ≤ s.length ∧ s.length ≤ 3 ∧ (∀ c ∈ tl s, 48 ≤ c ∧ c ≤ 57) ∧ ∃ c, (tl s).head? = some c := by
  unfold figB at h
  simp only [Bool.and_eq_true, decide_eq_true_eq] at h
  obtain ⟨⟨h1, h2⟩, h3⟩ := h
  refine ⟨h1, h2, fun c hc => ?_, ?_⟩
  · have := List.all_eq_true.mp h3 c hc
    have : c ∈ [48, 49, 50, 51, 52, 53, 54, 55, 56, 57] := of_decide_eq_true this
    simp at this; omega
  · have := len_tl s
    cases e : tl s with
    | nil => rw [e] at this; simp at this; omega
    | cons c r => exact ⟨c, rfl⟩
theorem rdI_dig {s : Str} (h : figB s = true) : PySem.intText? s = some (rdI s) ∧ 0 ≤ rdI s := by
  obtain ⟨h1, h2, h3, c, hc⟩ := figB_facts h
  have e := PySem.intText_digits (x := s) (fun c hc => h3 c hc) (fun z => by have z : tl s = [] := z; rw [z] at hc; cases hc) (by omega)
  have e2 : rdI s = ((NumText.digitsVal s.cps.toList : Nat) : Int) := by unfold rdI; rw [e]; rfl
  rw [e2]
  exact ⟨e, by omega⟩
theorem intS_eq {s : Str} (h : figB s = true) : intSD (.str s) = ⟨True, .int (rdI s)⟩ := by
  obtain ⟨e, _⟩ := rdI_dig h
  have := (figB_facts h).2.1
  unfold intSD
  simp only [toS_str]
  rw [e]
  exact pv_mk ⟨trivial, rfl, by omega⟩
theorem ixS0 {s : Str} {c : Nat} (h : s.length ≤ 100000) (hc : (tl s).head? = some c) : ixS (.str s) (.int 0) = ⟨True, .str ⟨#[c]⟩⟩ := by
  have e : atI (tl s) 0 = some c := by
    cases e : tl s with
    | nil => rw [e] at hc; cases hc
    | cons x xs => rw [e] at hc; cases hc; exact atI_0
  unfold ixS
  simp only [toS_str, toI_int]
  have e : atI s.cps.toList 0 = some c := e
  rw [e]
  exact pv_mk ⟨trivial, trivial, by show _ ≤ 16000000; omega, rfl⟩
theorem eq0 {c : Nat} (h : c < 0x110000) : eqT 8 (.str ⟨#[c]⟩) (.str "0") = ⟨True, decide (c = 48)⟩ := by
  have k1 : PyData.strOk (⟨#[c]⟩ : Str) = true := by
    rw [strOk_tl]
    intro x hx
    have hx : x = c := by simpa [tl] using hx
    rw [hx]; exact h
  have k2 : PyData.strOk ("0" : Str) = true := by decide +kernel
  rw [eq_b (x := .str ⟨#[c]⟩) (y := .str "0") k1 k2, eqD_str]
  congr 1
  refine decide_eq_decide.mpr ⟨fun z => ?_, fun z => by rw [z]; rfl⟩
  have h : [c] = [48] := congrArg tl z
  simpa using h
theorem ne0 {s : Str} (h : PyData.strOk s = true) : neT 8 (.str s) (.str "0") = ⟨True, !decide (s = "0")⟩ := by
  have k2 : PyData.strOk ("0" : Str) = true := by decide +kernel
  rw [ne_b (x := .str s) (y := .str "0") h k2, eqD_str]
theorem zer_eq {s : Str} {c : Nat} (hc : (tl s).head? = some c) : zerB s = (decide (c = 48) && !decide (s = "0")) := by
  unfold zerB
  rw [show s.cps.toList.head? = some c from hc]
  congr 1
  exact decide_eq_decide.mpr ⟨fun z => by cases z; rfl, fun z => by rw [z]⟩
theorem numO_of {s : Str} (h : figB s = true) : numO s = if zerB s = true then none else some (rdI s) := by unfold numO; rw [if_pos h]
theorem RES_mo {N : Nm} {o : Option Int} {d : D} : RES N (moD o) d ↔ d = moD o := by
  cases o with
  | none => exact RES_non
  | some i => exact RES_int
theorem r_number_of (ds : List D) (M : Nm) (hl : ds.length = 1) (h : (ph_number_of ds M).ok) : w_number_of { nx := fun _ _ => (ph_number_of ds M).val = .non, rt := fun d M' => RES M' d (ph_number_of ds M).val } (startD n_number_of.length ds) (ro M) := by
  obtain ⟨s, rfl, h⟩ := h
  show w_number_of { nx := fun _ _ => moD (numO s) = .non, rt := fun d M' => RES M' d (moD (numO s)) } [some (.str s), none] (ro M)
  unfold w_number_of
  have d0 : ∀ {x} , pDr (pVar 0) [some (.str s), x] (ro M) = ⟨True, .str s⟩ := fun {x} => dv_eq (x := .str s) rfl rfl
  have T := fig_no (δ := [some (.str s), none]) (N := ro M) (f1 := pInt 1) (f2 := p1 lenD (pDr (pVar 0))) (f3 := pInt 3) (fs := pDr (pVar 0)) (fe := pVar 1) (p := fun i j => decide (i ≤ j)) (q := fun i j => decide (i ≤ j)) (i := 1) (k := 3) (G := gN 1) (ft := tc2 (sinT true) (pDr (pVar 1)) (pStr "0123456789")) (vs := [1]) h int_eq (p1_eq d0 (lenS_eq h.len)) int_eq
    (by congr 1 <;> exact decide_eq_decide.mpr (by omega)) d0 fun n => ⟨by show (1:Nat) < 2; decide, tc2_eq (dv_eq (x := .str ⟨#[n]⟩) rfl rfl) str_eq sin_signB, fun _ => var_eq rfl⟩
  cases hf : figB s with
  | false =>
    rw [hf] at T
    refine st_ifT (tv_and T) ?_
    have e : numO s = none := by unfold numO; rw [if_neg (by rw [hf]; decide)]
    rw [e]
    exact ⟨trivial, RES_non.mpr rfl⟩
  | true =>
    rw [hf] at T
    refine st_ifF (tv_and T) ?_
    obtain ⟨f1, f2, f3, c, hc⟩ := figB_facts hf
    have hc1 : c < 0x110000 := by have := f3 c (List.mem_of_mem_head? hc); omega
    have T2 : tAnd2 (tc2 (eqT 8) (p2 ixS (pDr (pVar 0)) (pInt 0)) (pStr "0")) (tc2 (neT 8) (pDr (pVar 0)) (pStr "0")) [some (.str s), none] (ro M) = ⟨True, zerB s⟩ := by
      rw [zer_eq hc]
      exact tand_B (tc2_eq (p2_eq d0 int_eq (ixS0 h.len hc)) str_eq (eq0 hc1)) (tc2_eq d0 str_eq (ne0 h.ok))
    rw [numO_of hf]
    cases hz : zerB s with
    | true =>
      rw [hz] at T2
      have e := pif_T (f := pNon) (g := p1 intSD (pDr (pVar 0))) (x := .non) T2 rfl
      unfold sRetF
      rw [e]
      exact ⟨trivial, RES_non.mpr rfl⟩
    | false =>
      rw [hz] at T2
      have e := pif_F (f := pNon) (g := p1 intSD (pDr (pVar 0))) T2 (p1_eq d0 (intS_eq hf))
      unfold sRetF
      rw [e]
      exact ⟨trivial, RES_int.mpr rfl⟩
theorem r_law_figures (ds : List D) (M : Nm) (hl : ds.length = 3) (h : (ph_law_figures ds M).ok) : w_law_figures { nx := fun _ _ => (ph_law_figures ds M).val = .non, rt := fun d M' => RES M' d (ph_law_figures ds M).val } (startD n_law_figures.length ds) (ro M) := by
  obtain ⟨s, lo, hi, rfl, h⟩ := h
  show w_law_figures { nx := fun _ _ => moD (figO s lo hi) = .non, rt := fun d M' => RES M' d (moD (figO s lo hi)) } [some (.str s), some (.int lo), some (.int hi), none] (ro M)
  unfold w_law_figures
  have d0 : pDr (pVar 0) [some (.str s), some (.int lo), some (.int hi), none] (ro M) = ⟨True, .str s⟩ := dv_eq (x := .str s) rfl rfl
  have d1 : pDr (pVar 1) [some (.str s), some (.int lo), some (.int hi), none] (ro M) = ⟨True, .int lo⟩ := dv_eq (x := .int lo) rfl rfl
  have d2 : pDr (pVar 2) [some (.str s), some (.int lo), some (.int hi), none] (ro M) = ⟨True, .int hi⟩ := dv_eq (x := .int hi) rfl rfl
  have T := fig_no (δ := [some (.str s), some (.int lo), some (.int hi), none]) (N := ro M) (f1 := pInt 0) (f2 := p1 lenD (pDr (pVar 0))) (f3 := pInt 4) (fs := pDr (pVar 0)) (fe := pVar 3) (p := fun i j => decide (i < j)) (q := fun i j => decide (i < j)) (i := 0) (k := 4) (G := gN 3) (ft := tc2 (sinT true) (pDr (pVar 3)) (pStr "0123456789")) (vs := [3]) h int_eq (p1_eq d0 (lenS_eq h.len)) int_eq
    (by congr 1 <;> exact decide_eq_decide.mpr (by omega)) d0 fun n => ⟨by show (3:Nat) < 4; decide, tc2_eq (dv_eq (x := .str ⟨#[n]⟩) rfl rfl) str_eq sin_signB, fun _ => var_eq rfl⟩
  cases hf : figB s with
  | false =>
    rw [hf] at T
    refine st_ifT (tv_and T) ?_
    have e : figO s lo hi = none := by unfold figO numO; rw [if_neg (by rw [hf]; decide)]; rfl
    rw [e]
    exact ⟨trivial, RES_non.mpr rfl⟩
  | true =>
    rw [hf] at T
    refine st_ifF (tv_and T) ?_
    obtain ⟨f1, f2, f3, c, hc⟩ := figB_facts hf
    have hc1 : c < 0x110000 := by have := f3 c (List.mem_of_mem_head? hc); omega
    have hg : cGt (.int (s.length : Int)) (.int 1) = ⟨True, decide ((1 : Int) < s.length)⟩ := by unfold cGt cI; exact tv_mk ⟨trivial, trivial⟩
    have T2 := or_eq (tand_B (tc2_eq (f := p1 lenD (pDr (pVar 0))) (g := pInt 1) (p1_eq d0 (lenS_eq h.len)) int_eq hg) (tc2_eq (op := eqT 8) (p2_eq d0 int_eq (ixS0 h.len hc)) str_eq (eq0 hc1))) (tnot_eq (chn_eq (p := fun i j => decide (i ≤ j)) (q := fun i j => decide (i ≤ j)) d1 (p1_eq d0 (intS_eq hf)) d2))
    have ez : (decide ((1 : Int) < s.length) && decide (c = 48)) = zerB s := by
      rw [zer_eq hc, Bool.and_comm]
      by_cases c0 : c = 48
      · subst c0
        congr 1
        by_cases e : s = "0"
        · subst e; rfl
        · rw [decide_eq_false e]
          refine decide_eq_true ?_
          have hl := len_tl s
          cases et : tl s with
          | nil => rw [et] at hc; cases hc
          | cons x xs =>
            rw [et] at hc; cases hc
            cases xs with
            | nil => exact absurd (ext_tl (by rw [et]; rfl)) e
            | cons y ys => rw [et] at hl; simp at hl; omega
      · rw [decide_eq_false c0]; simp
    rw [ez] at T2
    have er : figO s lo hi = if (zerB s || !(decide (lo ≤ rdI s) && decide (rdI s ≤ hi))) = true then none else some (rdI s) := by
      unfold figO
      rw [numO_of hf]
      cases zerB s with
      | true => rfl
      | false =>
        show (if lo ≤ rdI s ∧ rdI s ≤ hi then some (rdI s) else none) = _
        by_cases e1 : lo ≤ rdI s <;> by_cases e2 : rdI s ≤ hi <;> simp [e1, e2]
    rw [er]
    cases hb : (zerB s || !(decide (lo ≤ rdI s) && decide (rdI s ≤ hi))) with
    | true =>
      rw [hb] at T2
      exact st_ifT (tv_and T2) ⟨trivial, RES_non.mpr rfl⟩
    | false =>
      rw [hb] at T2
      refine st_ifF (tv_and T2) ?_
      have e := p1_eq d0 (intS_eq hf)
      unfold sRetF
      rw [e]
      exact ⟨trivial, RES_int.mpr rfl⟩
end K14
set_option maxHeartbeats 4000000
namespace K14
open PySem L2 DL TL
theorem in34B {n : Nat} : inT true (.int n) (.tup [.int 3, .int 4]) = ⟨True, !decide (n = 3 ∨ n = 4)⟩ := by
  unfold inT
  rw [toL_tup]
  have e : inB (.int n) [.int 3, .int 4] = decide (n = 3 ∨ n = 4) := by
    unfold inB
    rw [List.any_cons, List.any_cons, List.any_nil, eqD_int, eqD_int, Bool.or_false]
    by_cases h3 : n = 3
    · subst h3; rfl
    · by_cases h4 : n = 4
      · subst h4; rfl
      · rw [decide_eq_false (show ¬ (3 : Int) = n by omega), decide_eq_false (show ¬ (4 : Int) = n by omega), decide_eq_false (show ¬ (n = 3 ∨ n = 4) by omega)]; rfl
  rw [e]
  refine tv_mk ⟨rfl, trivial, fun d hd => ?_⟩
  simp at hd
  rcases hd with rfl | rfl <;> rfl
theorem noneT {os : List (Option Int)} : inT false .non (.lst (os.map moD)) = ⟨True, decide (none ∈ os)⟩ := by
  have e : ∀ os : List (Option Int), inB .non (os.map moD) = decide (none ∈ os) := fun os => by
    induction os with
    | nil => rfl
    | cons o os ih =>
      unfold inB at ih ⊢
      rw [List.map_cons, List.any_cons, ih]
      cases o with
      | none => show (eqD .non .non || _) = _; rw [eqD_non]; simp
      | some i => show (eqD (.int i) .non || _) = _; rw [eqD_int_non]; simp
  unfold inT
  rw [toL_lst, e]
  refine tv_mk ⟨rfl, trivial, fun d hd => ?_⟩
  obtain ⟨o, _, rfl⟩ := List.mem_map.mp hd
  cases o <;> rfl
theorem ix_lst {xs : List D} {n : Int} {d : D} (h : atI xs n = some d) : ixQ (.lst xs) (.int n) = ⟨True, d⟩ := by
  unfold ixQ
  have e : atI (toL (.lst xs)) (toI (.int n)) = some d := h
  rw [e]
  exact pv_mk (x := d) ⟨trivial, trivial, rfl⟩
theorem ix0 {x : D} {xs : List D} : ixQ (.lst (x :: xs)) (.int 0) = ⟨True, x⟩ := ix_lst atI_0
theorem ix1 {x y : D} {xs : List D} : ixQ (.lst (x :: y :: xs)) (.int 1) = ⟨True, y⟩ := ix_lst atI_1
theorem ix2 {x y z : D} {xs : List D} : ixQ (.lst (x :: y :: z :: xs)) (.int 2) = ⟨True, z⟩ := ix_lst atI_2
theorem eqIb {i j : Int} : eqT 8 (.int i) (.int j) = ⟨True, decide (i = j)⟩ := by
  rw [eq_b (x := .int i) (y := .int j) trivial trivial, eqD_int]
theorem cLe_eq {i j : Int} : cLe (.int i) (.int j) = ⟨True, decide (i ≤ j)⟩ := by unfold cLe cI; exact tv_mk ⟨trivial, trivial⟩
theorem lf_mo {o : Option Int} : lf (moD o) := by cases o <;> trivial
theorem flat_mo {o : Option Int} : flat (moD o) = true := by cases o <;> rfl
theorem drf_mo {N : Nm} {o : Option Int} : drf N (moD o) = moD o := by cases o <;> rfl
theorem isN_moD {o : Option Int} : isN (moD o) = o.isNone := by cases o <;> rfl
section
variable {δ : DL.Loc} {N : Nm} {f g h k : PF} {t u : TF}
theorem tisN_eq {x : D} (h1 : f δ N = ⟨True, x⟩) : DL.tIsN f δ N = ⟨True, isN x⟩ := by unfold DL.tIsN; rw [h1]
theorem call1_eq {ph : List D → Nm → PV} {x z : D} (h1 : f δ N = ⟨True, x⟩) (h2 : (ph [x] N).ok ∧ (ph [x] N).val = z) : pCall 1 ph (aCons f aNil) δ N = ⟨True, z⟩ := by
  obtain ⟨h2, rfl⟩ := h2
  unfold pCall aCons aNil
  simp only [h1]
  exact pv_mk (x := (ph [x] N).val) ⟨⟨trivial, trivial⟩, rfl, h2⟩
theorem call3_eq {ph : List D → Nm → PV} {x y z r : D} (h1 : f δ N = ⟨True, x⟩) (h2 : g δ N = ⟨True, y⟩) (h3 : h δ N = ⟨True, z⟩) (h4 : (ph [x, y, z] N).ok ∧ (ph [x, y, z] N).val = r) : pCall 3 ph (aCons f (aCons g (aCons h aNil))) δ N = ⟨True, r⟩ := by
  obtain ⟨h4, rfl⟩ := h4
  unfold pCall aCons aNil
  simp only [h1, h2, h3]
  exact pv_mk (x := (ph [x, y, z] N).val) ⟨⟨trivial, trivial, trivial, trivial⟩, rfl, h4⟩
theorem numE {s : Str} (h1 : f δ N = ⟨True, .str s⟩) (h2 : SOk s 100000) : pCall 1 ph_number_of (aCons f aNil) δ N = ⟨True, moD (numO s)⟩ := call1_eq h1 ⟨⟨s, rfl, h2⟩, rfl⟩
theorem figE {s : Str} {lo hi : Int} (h1 : f δ N = ⟨True, .str s⟩) (h2 : SOk s 100000) : pCall 3 ph_law_figures (aCons f (aCons (pInt lo) (aCons (pInt hi) aNil))) δ N = ⟨True, moD (figO s lo hi)⟩ := call3_eq h1 int_eq int_eq ⟨⟨s, lo, hi, rfl, h2⟩, rfl⟩
theorem rowE {ws : List Str} (h1 : f δ N = ⟨True, .lst (ws.map D.str)⟩) (h2 : ws.length ≤ 200000) (h3 : ∀ w ∈ ws, SOk w 100000) : pCall 1 ph_row_of (aCons f aNil) δ N = ⟨True, frD (rowO ws)⟩ := by
  refine call1_eq h1 ⟨⟨ws, rfl, h2, h3⟩, ?_⟩
  show frD (rowO ((toL (.lst (ws.map D.str))).map toS)) = _
  rw [toL_lst, List.map_map]
  rw [show ws.map (toS ∘ D.str) = ws from (List.map_congr_left fun x _ => rfl).trans (List.map_id _)]
theorem lrowE {s : Str} (h1 : f δ N = ⟨True, .str s⟩) (h2 : SOk s 100000) : pCall 1 ph_law_row (aCons f aNil) δ N = ⟨True, frD (rowO (Txt.split s " "))⟩ := call1_eq h1 ⟨⟨s, rfl, h2⟩, rfl⟩
theorem isrE {xs : List D} (h1 : f δ N = ⟨True, .tup xs⟩) (h2 : xs.length ≤ 1000) (h3 : ∀ x ∈ xs, flat x = true) : pCall 1 ph_is_row (aCons f aNil) δ N = ⟨True, .bl (isRowL xs)⟩ := call1_eq h1 ⟨⟨xs, rfl, h2, h3⟩, rfl⟩
theorem tup4_eq {a b c d : D} (h1 : f δ N = ⟨True, a⟩) (h2 : g δ N = ⟨True, b⟩) (h3 : h δ N = ⟨True, c⟩) (h4 : k δ N = ⟨True, d⟩) : pTup (aCons f (aCons g (aCons h (aCons k aNil)))) δ N = ⟨True, .tup [a, b, c, d]⟩ := by
  unfold pTup aCons aNil
  rw [h1, h2, h3, h4]
  exact pv_mk ⟨⟨trivial, trivial, trivial, trivial, trivial⟩, Nat.le_of_ble_eq_true rfl⟩
theorem lst1_eq {a : D} (h1 : f δ N = ⟨True, a⟩) : pLst (aCons f aNil) δ N = ⟨True, .lst [a]⟩ := by
  unfold pLst aCons aNil
  rw [h1]
  exact pv_mk ⟨⟨trivial, trivial⟩, Nat.le_of_ble_eq_true rfl⟩
end
theorem spE {s y : Str} (h : s.length ≤ 100000) (hy : (y.length == 0) = false) : splitD (.str s) (.str y) = ⟨True, .lst ((Txt.split s y).map D.str)⟩ := by
  unfold splitD
  simp only [toS_str]
  exact pv_mk ⟨trivial, trivial, hy, by show _ ≤ 16000000; omega⟩
theorem kindS_of {b : Str} (h : kindB b = true) : kindS (decide (b = ("live" : Str))) = b := by
  unfold kindB at h
  rcases Bool.or_eq_true_iff.mp h with h | h
  · rw [of_decide_eq_true h]; decide +kernel
  · rw [of_decide_eq_true h]; decide +kernel
def rowF (i : Int) (b : Str) (l : Int) (mo : Option Int) : Option Row :=
  if (isRowL [.int i, .str b, .int l, moD mo] && (mo.isNone || decide (mo.getD 0 ≤ 899))) = true then some ⟨i, decide (b = ("live" : Str)), l, mo⟩ else none
theorem rowM_no {a b c : Str} {m : Option (Option Int)} (h : kindB b = false ∨ numO a = none ∨ numO c = none ∨ m = none) : rowM a b c m = none := by
  unfold rowM
  rcases h with h | h | h | h
  · rw [if_neg (by rw [h]; decide)]
  · split
    · unfold figO; rw [h]; rfl
    · rfl
  · split
    · unfold figO; rw [h]
      cases (numO a).bind fun i => if 0 ≤ i ∧ i ≤ 99 then some i else none <;> rfl
    · rfl
  · split
    · rw [h]
      cases figO a 0 99 with
      | none => rfl
      | some i => cases figO c 1 120 <;> rfl
    · rfl
theorem figO_of {s : Str} {i lo hi : Int} (h : numO s = some i) : figO s lo hi = if lo ≤ i ∧ i ≤ hi then some i else none := by unfold figO; rw [h]; rfl
theorem rowM_F {a b c : Str} {i l : Int} {mo : Option Int} {m : Option (Option Int)} (h1 : numO a = some i) (h2 : numO c = some l) (hm : m = if (mo.isNone || (decide (0 ≤ mo.getD 0) && decide (mo.getD 0 ≤ 899))) = true then some mo else none) : rowM a b c m = rowF i b l mo := by
  have em : (moB (moD mo) && (mo.isNone || decide (mo.getD 0 ≤ 899))) = (mo.isNone || (decide (0 ≤ mo.getD 0) && decide (mo.getD 0 ≤ 899))) := by
    cases mo with
    | none => rfl
    | some v =>
      show (isnum (.int v) 0 900 && (false || decide (v ≤ 899))) = (false || (decide (0 ≤ v) && decide (v ≤ 899)))
      show ((decide (0 ≤ v) && decide (v ≤ 900)) && (false || decide (v ≤ 899))) = (false || (decide (0 ≤ v) && decide (v ≤ 899)))
      by_cases h1 : 0 ≤ v <;> by_cases h2 : v ≤ 899 <;> simp [h1, h2]
      omega
  unfold rowM rowF
  rw [figO_of h1, figO_of h2]
  rw [row4, Bool.and_assoc, em, show isKind (.str b) = kindB b from rfl, show isnum (.int i) 0 99 = (decide (0 ≤ i) && decide (i ≤ 99)) from rfl, show isnum (.int l) 1 120 = (decide (1 ≤ l) && decide (l ≤ 120)) from rfl, hm]
  generalize (mo.isNone || (decide (0 ≤ mo.getD 0) && decide (mo.getD 0 ≤ 899))) = z
  by_cases k : kindB b = true
  · by_cases c1 : 0 ≤ i ∧ i ≤ 99
    · by_cases c2 : 1 ≤ l ∧ l ≤ 120
      · cases z <;> simp [k, c1, c2]
      · rw [if_pos k, if_pos c1, if_neg c2]
        refine (if_neg fun w => c2 ?_).symm
        simp only [Bool.and_eq_true, decide_eq_true_eq] at w
        exact w.1.2.2
    · rw [if_pos k, if_neg c1]
      refine (if_neg fun w => c1 ?_).symm
      simp only [Bool.and_eq_true, decide_eq_true_eq] at w
      exact w.1.2.1
  · rw [if_neg k, if_neg]
    simp [k]
theorem RES_fr {N : Nm} {o : Option Row} {d : D} : RES N (frD o) d ↔ d = frD o := by
  cases o with
  | none => exact RES_non
  | some r =>
    show RES N (rowD r) d ↔ d = rowD r
    cases hm : r.mo <;> simp [RES, rowD, moD, hm, refsW, refsWs, res, ress] <;> exact ⟨fun h => h.symm, fun h => h.symm⟩
theorem row_tail {x0 x1 : Option D} {i l : Int} {b : Str} {mo : Option Int} {M : Nm} {nx : DL.Loc → Nm → Prop} {d : D} (hd : d = frD (rowF i b l mo)) :
    sRetF (pIf (tAnd2 (tOf (pCall 1 ph_is_row (aCons (pDr (pVar 3)) aNil))) (tOr2 (tIsN (pDr (pVar 2))) (tc2 cLe (pDr (pVar 2)) (pInt 899)))) (pLf (pVar 3)) pNon) { nx := nx, rt := fun e M' => RES M' e d } [x0, x1, some (moD mo), some (.tup [.int i, .str b, .int l, moD mo]), none] (ro M) := by
  have hfl : ∀ x ∈ [D.int i, .str b, .int l, moD mo], flat x = true := by
    intro x hx
    simp at hx
    rcases hx with rfl | rfl | rfl | rfl
    · rfl
    · rfl
    · rfl
    · exact flat_mo
  have hlf : lf (.tup [D.int i, .str b, .int l, moD mo]) := by
    simp [lf, lfs, lf_mo]
  have d3 : pDr (pVar 3) [x0, x1, some (moD mo), some (.tup [.int i, .str b, .int l, moD mo]), none] (ro M) = ⟨True, .tup [.int i, .str b, .int l, moD mo]⟩ := dv_eq (i := 3) (x := .tup [.int i, .str b, .int l, moD mo]) rfl rfl
  have d2 : pDr (pVar 2) [x0, x1, some (moD mo), some (.tup [.int i, .str b, .int l, moD mo]), none] (ro M) = ⟨True, moD mo⟩ := dv_eq (i := 2) (x := moD mo) rfl drf_mo
  have T1 := tof_eq (isrE d3 (by show 4 ≤ 1000; decide) hfl)
  have T2 : tOr2 (tIsN (pDr (pVar 2))) (tc2 cLe (pDr (pVar 2)) (pInt 899)) [x0, x1, some (moD mo), some (.tup [.int i, .str b, .int l, moD mo]), none] (ro M) = ⟨True, mo.isNone || decide (mo.getD 0 ≤ 899)⟩ := by
    cases mo with
    | none => exact tor_T (tisN_eq d2)
    | some v => exact tor_F (tisN_eq d2) (tc2_eq d2 int_eq cLe_eq)
  have T3 := tand_B T1 T2
  unfold rowF at hd
  cases hb : (isRowL [.int i, .str b, .int l, moD mo] && (mo.isNone || decide (mo.getD 0 ≤ 899))) with
  | true =>
    rw [hb] at T3 hd
    have e := pif_T (f := pLf (pVar 3)) (g := pNon) T3 (plf_eq (var_eq rfl) hlf)
    unfold sRetF
    rw [e]
    refine ⟨trivial, ?_⟩
    have k : kindB b = true := by
      simp only [Bool.and_eq_true, row4] at hb
      exact hb.1.1.1
    have e2 : d = .tup [.int i, .str b, .int l, moD mo] := by
      rw [hd, if_pos rfl]
      show D.tup [.int i, .str (kindS (decide (b = ("live" : Str)))), .int l, moD mo] = _
      rw [kindS_of k]
    have e3 : d = frD (some ⟨i, decide (b = ("live" : Str)), l, mo⟩) := by rw [hd, if_pos rfl]
    show RES (ro M) (.tup [.int i, .str b, .int l, moD mo]) d
    exact Eq.mpr (congrArg (fun z => RES (ro M) z d) (e2.symm.trans e3)) (RES_fr.mpr e3)
  | false =>
    rw [hb] at T3 hd
    have e := pif_F (f := pLf (pVar 3)) (g := pNon) (x := .non) T3 rfl
    unfold sRetF
    rw [e, hd]
    exact ⟨trivial, RES_non.mpr rfl⟩
theorem in_kS {b : Str} : inT true (.str b) (.tup [.str "clip", .str "live"]) = ⟨True, !kindB b⟩ := in_kindD (b := .str b) rfl
theorem r_row_of (ds : List D) (M : Nm) (hlen : ds.length = 1) (h : (ph_row_of ds M).ok) : w_row_of { nx := fun _ _ => (ph_row_of ds M).val = .non, rt := fun d M' => RES M' d (ph_row_of ds M).val } (startD n_row_of.length ds) (ro M) := by
  obtain ⟨ws, rfl, hn, hw⟩ := h
  have ev : (ph_row_of [.lst (ws.map D.str)] M).val = frD (rowO ws) := by
    show frD (rowO ((toL (.lst (ws.map D.str))).map toS)) = _
    rw [toL_lst, List.map_map]
    rw [show ws.map (toS ∘ D.str) = ws from (List.map_congr_left fun x _ => rfl).trans (List.map_id _)]
  rw [ev]
  show w_row_of { nx := fun _ _ => frD (rowO ws) = .non, rt := fun d M' => RES M' d (frD (rowO ws)) } [some (.lst (ws.map D.str)), none, none, none, none] (ro M)
  unfold w_row_of
  have d0 : ∀ {x1 x2 x3 x4}, pDr (pVar 0) [some (.lst (ws.map D.str)), x1, x2, x3, x4] (ro M) = ⟨True, .lst (ws.map D.str)⟩ := dv_eq (x := .lst (ws.map D.str)) rfl rfl
  have L : ∀ {x1 x2 x3 x4}, p1 lenD (pDr (pVar 0)) [some (.lst (ws.map D.str)), x1, x2, x3, x4] (ro M) = ⟨True, .int ws.length⟩ := fun {x1 x2 x3 x4} => by
    have := p1_eq (d0 (x1 := x1) (x2 := x2) (x3 := x3) (x4 := x4)) len_eq
    rw [List.length_map] at this; exact this
  have T1 : tc2 (inT true) (p1 lenD (pDr (pVar 0))) (pTup (aCons (pInt 3) (aCons (pInt 4) aNil))) [some (.lst (ws.map D.str)), none, none, none, none] (ro M) = ⟨True, !decide (ws.length = 3 ∨ ws.length = 4)⟩ := tc2_eq L (tup2_eq int_eq int_eq) in34B
  by_cases hl34 : ws.length = 3 ∨ ws.length = 4
  · rw [decide_eq_true hl34] at T1
    obtain ⟨a, b, c, more, rfl, hmore⟩ : ∃ a b c more, ws = a :: b :: c :: more ∧ (more = [] ∨ ∃ d, more = [d]) := by
      match ws, hl34 with
      | [a, b, c], _ => exact ⟨a, b, c, [], rfl, .inl rfl⟩
      | [a, b, c, d], _ => exact ⟨a, b, c, [d], rfl, .inr ⟨d, rfl⟩⟩
    have hwn : ∀ w ∈ a :: c :: more, SOk w 100000 := fun w hx => hw w (by
      rcases List.mem_cons.mp hx with rfl | hx
      · simp
      · rcases List.mem_cons.mp hx with rfl | hx <;> simp [*])
    have T2 := tor_F (u := tc2 (inT true) (p2 ixQ (pDr (pVar 0)) (pInt 1)) (pTup (aCons (pStr "clip") (aCons (pStr "live") aNil)))) T1 (tc2_eq (p2_eq d0 int_eq (ix1 (y := .str b))) (tup2_eq str_eq str_eq) in_kS)
    cases hk : kindB b with
    | false =>
      rw [hk] at T2
      refine st_ifT (tv_and T2) ?_
      have e : rowO (a :: b :: c :: more) = none := by
        rcases hmore with rfl | ⟨d, rfl⟩
        · exact rowM_no (.inl hk)
        · exact rowM_no (.inl hk)
      rw [e]
      exact ⟨trivial, RES_non.mpr rfl⟩
    | true =>
      rw [hk] at T2
      refine st_ifF (tv_and T2) ?_
      have hnum : pLc (iL (p2 catL (pLst (aCons (pLf (p2 ixQ (pDr (pVar 0)) (pInt 0))) aNil)) (pSl (pVar 0) (sfS (pInt 2)) sfN))) (gN 4) tYesF (pCall 1 ph_number_of (aCons (pDr (pVar 4)) aNil)) [4] [some (.lst ((a :: b :: c :: more).map D.str)), none, none, none, none] (ro M) = ⟨True, .lst ((a :: c :: more).map fun w => moD (numO w))⟩ := by
        have ec : cutD ((a :: b :: c :: more).map D.str) (some 2) none = (c :: more).map D.str := cut_drop (j := 2)
        have e1 := cat_eq (lst1_eq (plf_eq (p2_eq (d0 (x1 := none) (x2 := none) (x3 := none) (x4 := none)) int_eq (ix0 (x := .str a))) trivial)) (sl_eq (f := pVar 0) (δ := [some (.lst ((a :: b :: c :: more).map D.str)), none, none, none, none]) (N := ro M) (var_eq rfl) (sfS_eq (int_eq (i := 2))) (hi := sfN) (j := none) rfl) (by
          rw [ec]
          rcases hmore with rfl | ⟨d, rfl⟩ <;> exact Nat.le_of_ble_eq_true rfl)
        rw [ec] at e1
        have e2 := lc_eq (vs := [4]) (k := D.str) (p := fun _ => true) (g := fun w => moD (numO w)) (xs := a :: c :: more) (G := gN 4) (ft := tYesF) (fe := pCall 1 ph_number_of (aCons (pDr (pVar 4)) aNil)) e1 (by rcases hmore with rfl | ⟨d, rfl⟩ <;> exact Nat.le_of_ble_eq_true rfl) fun w hx => ⟨by show (4:Nat) < 5; decide, rfl, fun _ => numE (dv_eq (x := .str w) rfl rfl) (hwn w hx)⟩
        rw [List.filter_eq_self.mpr fun _ _ => rfl] at e2
        exact e2
      refine st_set _ (pv_and hnum) rfl ?_
      have dN : ∀ {x2 x3 x4}, pDr (pVar 1) [some (.lst ((a :: b :: c :: more).map D.str)), some (.lst ((a :: c :: more).map fun w => moD (numO w))), x2, x3, x4] (ro M) = ⟨True, .lst ((a :: c :: more).map fun w => moD (numO w))⟩ := dv_eq (x := .lst ((a :: c :: more).map fun w => moD (numO w))) rfl rfl
      have T3 : tc2 (inT false) pNon (pDr (pVar 1)) [some (.lst ((a :: b :: c :: more).map D.str)), some (.lst ((a :: c :: more).map fun w => moD (numO w))), none, none, none] (ro M) = ⟨True, decide (none ∈ (a :: c :: more).map numO)⟩ := by
        refine tc2_eq (f := pNon) rfl dN ?_
        have := noneT (os := (a :: c :: more).map numO)
        rw [List.map_map] at this
        exact this
      by_cases hno : none ∈ (a :: c :: more).map numO
      · rw [decide_eq_true hno] at T3
        refine st_ifT (tv_and T3) ?_
        have e : rowO (a :: b :: c :: more) = none := by
          rcases hmore with rfl | ⟨d, rfl⟩
          · simp only [List.map_cons, List.map_nil, List.mem_cons, List.not_mem_nil, or_false] at hno
            refine rowM_no ?_
            rcases hno with h | h
            · exact .inr (.inl h.symm)
            · exact .inr (.inr (.inl h.symm))
          · simp only [List.map_cons, List.map_nil, List.mem_cons, List.not_mem_nil, or_false] at hno
            refine rowM_no ?_
            rcases hno with h | h | h
            · exact .inr (.inl h.symm)
            · exact .inr (.inr (.inl h.symm))
            · exact .inr (.inr (.inr (by unfold figO; rw [← h]; rfl)))
        rw [e]
        exact ⟨trivial, RES_non.mpr rfl⟩
      · rw [decide_eq_false hno] at T3
        refine st_ifF (tv_and T3) ?_
        obtain ⟨i, hi⟩ : ∃ i, numO a = some i := by
          cases h : numO a with
          | none => exact absurd (by simp [h]) hno
          | some i => exact ⟨i, rfl⟩
        obtain ⟨l, hl⟩ : ∃ i, numO c = some i := by
          cases h : numO c with
          | none => exact absurd (by simp [h]) hno
          | some i => exact ⟨i, rfl⟩
        have LN : ∀ {x2 x3 x4}, p1 lenD (pDr (pVar 1)) [some (.lst ((a :: b :: c :: more).map D.str)), some (.lst ((a :: c :: more).map fun w => moD (numO w))), x2, x3, x4] (ro M) = ⟨True, .int (more.length + 2 : Nat)⟩ := fun {x2 x3 x4} => by
          have := p1_eq (dN (x2 := x2) (x3 := x3) (x4 := x4)) len_eq
          rw [List.length_map] at this; exact this
        have go : ∀ mo : Option Int, rowO (a :: b :: c :: more) = rowF i b l mo → 
            pIf (tc2 (eqT 8) (p1 lenD (pDr (pVar 1))) (pInt 3)) (pLf (p2 ixQ (pDr (pVar 1)) (pInt 2))) pNon [some (.lst ((a :: b :: c :: more).map D.str)), some (.lst ((a :: c :: more).map fun w => moD (numO w))), none, none, none] (ro M) = ⟨True, moD mo⟩ →
            sSeq (sSet 2 (wP (pIf (tc2 (eqT 8) (p1 lenD (pDr (pVar 1))) (pInt 3)) (pLf (p2 ixQ (pDr (pVar 1)) (pInt 2))) pNon)))
              (sSeq (sSet 3 (wP (pTup (aCons (pLf (p2 ixQ (pDr (pVar 1)) (pInt 0))) (aCons (pLf (p2 ixQ (pDr (pVar 0)) (pInt 1))) (aCons (pLf (p2 ixQ (pDr (pVar 1)) (pInt 1))) (aCons (pVar 2) aNil)))))))
              (sRetF (pIf (tAnd2 (tOf (pCall 1 ph_is_row (aCons (pDr (pVar 3)) aNil))) (tOr2 (tIsN (pDr (pVar 2))) (tc2 cLe (pDr (pVar 2)) (pInt 899)))) (pLf (pVar 3)) pNon)))
              { nx := fun _ _ => frD (rowO (a :: b :: c :: more)) = .non, rt := fun d M' => RES M' d (frD (rowO (a :: b :: c :: more))) } [some (.lst ((a :: b :: c :: more).map D.str)), some (.lst ((a :: c :: more).map fun w => moD (numO w))), none, none, none] (ro M) := fun mo hro he => by
          refine st_set _ (pv_and he) rfl ?_
          refine st_set (.tup [.int i, .str b, .int l, moD mo]) (pv_and (tup4_eq (plf_eq (p2_eq dN int_eq (ix0.trans (by show (⟨True, moD (numO a)⟩ : PV) = _; rw [hi]; rfl))) trivial) (plf_eq (p2_eq d0 int_eq (ix1 (y := .str b))) trivial) (plf_eq (p2_eq dN int_eq (ix1.trans (by show (⟨True, moD (numO c)⟩ : PV) = _; rw [hl]; rfl))) trivial) (var_eq rfl))) rfl ?_
          exact row_tail (by rw [hro])
        rcases hmore with rfl | ⟨d, rfl⟩
        · refine go none (rowM_F hi hl rfl) (pif_F (tc2_eq LN int_eq eqIb) rfl)
        · obtain ⟨v, hv⟩ : ∃ i, numO d = some i := by
            cases h : numO d with
            | none => exact absurd (by simp [h]) hno
            | some i => exact ⟨i, rfl⟩
          refine go (some v) (rowM_F hi hl ?_) (pif_T (tc2_eq LN int_eq eqIb) (plf_eq (p2_eq dN int_eq (ix2.trans (by show (⟨True, moD (numO d)⟩ : PV) = _; rw [hv]))) trivial))
          rw [figO_of hv]
          show _ = if (false || (decide (0 ≤ v) && decide (v ≤ 899))) = true then some (some v) else none
          by_cases e1 : 0 ≤ v <;> by_cases e2 : v ≤ 899 <;> simp [e1, e2]
  · rw [decide_eq_false hl34] at T1
    refine st_ifT (tv_and (tor_T T1)) ?_
    have e : rowO ws = none := by
      match ws, hl34 with
      | [], _ => rfl
      | [_], _ => rfl
      | [_, _], _ => rfl
      | [_, _, _], h => exact absurd (.inl rfl) h
      | [_, _, _, _], h => exact absurd (.inr rfl) h
      | _ :: _ :: _ :: _ :: _ :: _, _ => rfl
    rw [e]
    exact ⟨trivial, RES_non.mpr rfl⟩
end K14
set_option maxHeartbeats 4000000
namespace K14
open PySem L2 DL TL TX
theorem catL_lst {a b : List D} : catL (.lst a) (.lst b) = ⟨a.length + b.length ≤ SZ, .lst (a ++ b)⟩ := by
  unfold catL
  simp only [IsL_lst, toL_lst, true_and]
theorem joinV {s : Str} {ps : List Str} (h : (ps.map (·.length)).sum + ps.length * s.length ≤ SZ) : joinD (.str s) (.lst (ps.map D.str)) = ⟨True, .str (Txt.join s ps)⟩ := by
  have e : (ps.map D.str).map toS = ps := by rw [List.map_map]; exact (List.map_congr_left fun x _ => rfl).trans (List.map_id _)
  unfold joinD
  rw [toL_lst, toS_str, e]
  congr 1
  exact eq_true ⟨trivial, trivial, fun d hd => by obtain ⟨x, _, rfl⟩ := List.mem_map.mp hd; trivial, h⟩
theorem st_drop {K : EndD} {δ : DL.Loc} {N : Nm} {f : PF} {u : WS} (h : (f δ N).ok) (k : u K δ N) : sSeq (sDrop (wP f)) u K δ N := ⟨h, k⟩
theorem ROk.rf1 {rs : List Row} (h : ROk rs 0 900) {r : Row} (hr : r ∈ rs) : RF r ∧ ∀ m ∈ r.mo, 0 ≤ m ∧ m ≤ 899 := by
  have hm : ∀ m ∈ r.mo, 0 ≤ m ∧ m ≤ 899 := fun m hm => by
    have := h.mo m (List.mem_filterMap.mpr ⟨r, hr, hm⟩); omega
  exact ⟨(h.one r hr).rf hm, hm⟩
theorem r_written (ds : List D) (M : Nm) (hl : ds.length = 1) (h : (ph_written ds M).ok) : w_written { nx := fun _ _ => (ph_written ds M).val = .non, rt := fun d M' => RES M' d (ph_written ds M).val } (startD n_written.length ds) (ro M) := by
  obtain ⟨rs, rfl, h, hn30⟩ := h
  have ev : (ph_written [dR rs] M).val = .str (textS rs) := by
    show D.str (textS (toRs (dR rs))) = _
    rw [toRs_dR]
  rw [ev]
  have hn := h.n
  have hrf : ∀ r ∈ rs, RF r := fun r hr => (h.rf1 hr).1
  have sg : ∀ i : Int, 0 ≤ i → i ≤ 999 → strD (.int i) = ⟨True, .str (numS i)⟩ := fun i h0 h1 => by
    unfold strD
    rw [toI_int]
    congr 1
    refine eq_true ⟨trivial, ?_⟩
    have : ∀ n : Fin 1000, n.val.log2 < 1920 := by decide +kernel
    exact this ⟨i.natAbs, by omega⟩
  show w_written _ [some (dR rs), none, none, none, none, none, none] _
  unfold w_written
  refine (st_drop (by simp! only []; exact ⟨rs, 0, 900, rfl, h, hn30⟩) ?_)
  refine st_setM (.lst []) (by simp! only []; decide) trivial fun a ha => ?_
  refine st_for (rs.map rowD) (by simp! only []) ?_
  refine loopD_get (fun i δ N => ∃ x2 x3 x4 x5 x6, δ = [some (dR rs), some (.ref a), x2, x3, x4, x5, x6] ∧ N a = some ⟨true, .lst ((rs.take i).map fun r => .str (lineS r))⟩) ?_ ?_ ?_
  · exact ⟨_, _, _, _, _, rfl, updN_same⟩
  · rintro δ N ⟨x2, x3, x4, x5, x6, rfl, z1⟩
    rw [List.length_map, List.take_length] at z1
    have da : drf N (.ref a) = .lst (rs.map fun r => .str (lineS r)) := drf_ref z1
    simp! only [da]
    have e : rs.map (fun r => D.str (lineS r)) = (rs.map lineS).map D.str := by rw [List.map_map]; rfl
    have hs := sum_lines hrf
    rw [e, joinV (by simp only [List.length_map]; show _ + _ * 1 ≤ 16000000; omega)]
    exact ⟨trivial, RES_str.mpr rfl⟩
  · rintro i d0 δ N L hd0 hL ⟨x2, x3, x4, x5, x6, rfl, z1⟩
    rw [List.getElem?_map] at hd0
    obtain ⟨r, hr, rfl⟩ := Option.map_eq_some_iff.mp hd0
    have hmem : r ∈ rs := List.mem_of_getElem? hr
    obtain ⟨hf, hm⟩ := h.rf1 hmem
    refine ⟨by simp! only [rowD]; decide, ?_⟩
    show sSeq _ _ _ [some (dR rs), some (.ref a), some (.int r.id), some (.str (kindS r.live)), some (.int r.len), some (moD r.mo), x6] N
    refine st_set (.lst ((wordsOf r).map D.str)) (by
      simp! only [sg _ hf.id.1 hf.id.2, sg _ hf.len.1 hf.len.2]
      cases hmo : r.mo with
      | none =>
        simp! only [moD, isN, catL_lst, wordsOf, hmo]
        have c00 : (if false = true then D.lst [(strD D.non).val] else D.lst []) = D.lst [] := if_neg (by decide)
        rw [c00, catL_lst]
        exact ⟨⟨by decide, (if_neg (by decide)).mpr (by decide), by show _ ≤ 16000000; simp⟩, rfl⟩
      | some m =>
        have := hm m hmo
        simp! only [moD, isN, catL_lst, wordsOf, hmo, sg m (by omega) (by omega)]
        have c11 : (if True then D.lst [D.str (numS m)] else D.lst []) = D.lst [D.str (numS m)] := if_pos trivial
        rw [c11, catL_lst]
        exact ⟨⟨by decide, (if_pos trivial).mpr (by decide), by show _ ≤ 16000000; simp⟩, rfl⟩) rfl ?_
    refine st_app1 (a := a) (π := []) (.str (lineS r)) (by
      simp! only []
      have hw := words_len hf
      rw [joinV (by show _ + _ * 1 ≤ 16000000; omega)]
      exact ⟨trivial, rfl⟩) (by simp! only []) z1 sub_nil (by rw [List.length_map, List.length_take]; show _ < 16000000; omega) ?_
    refine hL _ _ ⟨_, _, _, _, _, rfl, ?_⟩
    rw [updN_same, put_nil, List.take_succ, hr]
    simp only [List.map_append]; rfl
theorem st_par {i j : Nat} {f g : PF} {d1 d2 : D} {w : WS} {K : EndD} {δ δ' : DL.Loc} {N : Nm} (h1 : f δ N = ⟨True, d1⟩) (h2 : g δ N = ⟨True, d2⟩) (e : (δ.set i (some d1)).set j (some d2) = δ') (k : w K δ' N) : sSeq (sPar i j (wACons (wP f) (wACons (wP g) wANil))) w K δ N := by
  subst e
  refine ⟨by rw [h1]; trivial, by rw [h2]; trivial, _, _, rfl, ?_⟩
  rw [h1, h2]; exact k
theorem moD_none {o : Option Int} (h : isN (moD o) = false) : ∃ i, o = some i := by cases o with | none => cases h | some i => exact ⟨i, rfl⟩
theorem rowM_so {a b c : Str} {i l : Int} {m : Option (Option Int)} {mo : Option Int} (hk : kindB b = true) (h1 : figO a 0 99 = some i) (h2 : figO c 1 120 = some l) (hm : m = some mo) : rowM a b c m = some ⟨i, decide (b = ("live" : Str)), l, mo⟩ := by
  unfold rowM
  rw [if_pos hk, h1, h2, hm]; rfl
theorem rowM_n3 {a b c : Str} {m : Option (Option Int)} (h : figO a 0 99 = none ∨ figO c 1 120 = none ∨ m = none) : rowM a b c m = none := by
  unfold rowM
  split
  · rcases h with h | h | h
    · rw [h]; rfl
    · rw [h]; cases figO a 0 99 <;> rfl
    · rw [h]
      cases figO a 0 99 with
      | none => rfl
      | some i => cases figO c 1 120 <;> rfl
  · rfl
theorem r_law_row (ds : List D) (M : Nm) (hlen : ds.length = 1) (h : (ph_law_row ds M).ok) : w_law_row { nx := fun _ _ => (ph_law_row ds M).val = .non, rt := fun d M' => RES M' d (ph_law_row ds M).val } (startD n_law_row.length ds) (ro M) := by
  obtain ⟨s, rfl, hs⟩ := h
  show w_law_row { nx := fun _ _ => frD (rowO (Txt.split s " ")) = .non, rt := fun d M' => RES M' d (frD (rowO (Txt.split s " "))) } [some (.str s), none, none, none, none] (ro M)
  unfold w_law_row
  refine st_set (.lst ((Txt.split s " ").map D.str)) (pv_and (p2_eq (dv_eq (i := 0) (x := .str s) rfl rfl) str_eq (spE hs.len rfl))) rfl ?_
  have F := sp_sp (s := s)
  have hw := F.sok hs
  obtain ⟨ws, hws⟩ : ∃ ws, ws = Txt.split s " " := ⟨_, rfl⟩
  rw [← hws] at hw ⊢
  show sSeq _ _ _ [some (.str s), some (.lst (ws.map D.str)), none, none, none] (ro M)
  have d0 : ∀ {x0 x2 x3 x4}, pDr (pVar 1) [x0, some (.lst (ws.map D.str)), x2, x3, x4] (ro M) = ⟨True, .lst (ws.map D.str)⟩ := dv_eq (x := .lst (ws.map D.str)) rfl rfl
  have L : ∀ {x0 x2 x3 x4}, p1 lenD (pDr (pVar 1)) [x0, some (.lst (ws.map D.str)), x2, x3, x4] (ro M) = ⟨True, .int ws.length⟩ := fun {x0 x2 x3 x4} => by
    have := p1_eq (d0 (x0 := x0) (x2 := x2) (x3 := x3) (x4 := x4)) len_eq
    rw [List.length_map] at this; exact this
  have T1 : tc2 (inT true) (p1 lenD (pDr (pVar 1))) (pTup (aCons (pInt 3) (aCons (pInt 4) aNil))) [some (.str s), some (.lst (ws.map D.str)), none, none, none] (ro M) = ⟨True, !decide (ws.length = 3 ∨ ws.length = 4)⟩ := tc2_eq L (tup2_eq int_eq int_eq) in34B
  by_cases hl34 : ws.length = 3 ∨ ws.length = 4
  · rw [decide_eq_true hl34] at T1
    clear hws
    obtain ⟨a, b, c, more, rfl, hmore⟩ : ∃ a b c more, ws = a :: b :: c :: more ∧ (more = [] ∨ ∃ d, more = [d]) := by
      match ws, hl34 with
      | [a, b, c], _ => exact ⟨a, b, c, [], rfl, .inl rfl⟩
      | [a, b, c, d], _ => exact ⟨a, b, c, [d], rfl, .inr ⟨d, rfl⟩⟩
    have T2 := tor_F (u := tc2 (inT true) (p2 ixQ (pDr (pVar 1)) (pInt 1)) (pTup (aCons (pStr "clip") (aCons (pStr "live") aNil)))) T1 (tc2_eq (p2_eq d0 int_eq (ix1 (y := .str b))) (tup2_eq str_eq str_eq) in_kS)
    cases hk : kindB b with
    | false =>
      rw [hk] at T2
      refine st_ifT (tv_and T2) ?_
      have e : rowO (a :: b :: c :: more) = none := by
        rcases hmore with rfl | ⟨d, rfl⟩
        · exact rowM_no (.inl hk)
        · exact rowM_no (.inl hk)
      rw [e]
      exact ⟨trivial, RES_non.mpr rfl⟩
    | true =>
      rw [hk] at T2
      refine st_ifF (tv_and T2) ?_
      refine st_par (figE (p2_eq d0 int_eq (ix0 (x := .str a))) (hw a (by simp))) (figE (p2_eq d0 int_eq (ix2 (z := .str c))) (hw c (by simp))) rfl ?_
      show sSeq _ _ _ [some (.str s), some (.lst ((a :: b :: c :: more).map D.str)), some (moD (figO a 0 99)), some (moD (figO c 1 120)), none] (ro M)
      have go : ∀ (m : Option (Option Int)) (x : Option Int), rowO (a :: b :: c :: more) = rowM a b c m → (m = some x ∨ (m = none ∧ x = none ∧ more.length = 1)) → (m = some none → more.length = 0) →
          pIf (tc2 (eqT 8) (p1 lenD (pDr (pVar 1))) (pInt 4)) (pCall 3 ph_law_figures (aCons (p2 ixQ (pDr (pVar 1)) (pInt 3)) (aCons (pInt 0) (aCons (pInt 899) aNil)))) pNon [some (.str s), some (.lst ((a :: b :: c :: more).map D.str)), some (moD (figO a 0 99)), some (moD (figO c 1 120)), none] (ro M) = ⟨True, moD x⟩ →
          sSeq (sSet 4 (wP (pIf (tc2 (eqT 8) (p1 lenD (pDr (pVar 1))) (pInt 4)) (pCall 3 ph_law_figures (aCons (p2 ixQ (pDr (pVar 1)) (pInt 3)) (aCons (pInt 0) (aCons (pInt 899) aNil)))) pNon)))
            (sSeq (sIf (wT (tOr2 (tIsN (pDr (pVar 2))) (tOr2 (tIsN (pDr (pVar 3))) (tAnd2 (tc2 (eqT 8) (p1 lenD (pDr (pVar 1))) (pInt 4)) (tIsN (pDr (pVar 4))))))) (sRetF pNon) sNext)
            (sRetF (pTup (aCons (pLf (pVar 2)) (aCons (pLf (p2 ixQ (pDr (pVar 1)) (pInt 1))) (aCons (pLf (pVar 3)) (aCons (pLf (pVar 4)) aNil)))))))
            { nx := fun _ _ => frD (rowO (a :: b :: c :: more)) = .non, rt := fun d M' => RES M' d (frD (rowO (a :: b :: c :: more))) } [some (.str s), some (.lst ((a :: b :: c :: more).map D.str)), some (moD (figO a 0 99)), some (moD (figO c 1 120)), none] (ro M) := fun m x hro hm hm0 he => by
        refine st_set _ (pv_and he) rfl ?_
        show sSeq _ _ _ [some (.str s), some (.lst ((a :: b :: c :: more).map D.str)), some (moD (figO a 0 99)), some (moD (figO c 1 120)), some (moD x)] (ro M)
        have N2 := tisN_eq (dv_eq (N := ro M) (δ := [some (.str s), some (.lst ((a :: b :: c :: more).map D.str)), some (moD (figO a 0 99)), some (moD (figO c 1 120)), some (moD x)]) (i := 2) (x := moD (figO a 0 99)) rfl drf_mo)
        have N3 := tisN_eq (dv_eq (N := ro M) (δ := [some (.str s), some (.lst ((a :: b :: c :: more).map D.str)), some (moD (figO a 0 99)), some (moD (figO c 1 120)), some (moD x)]) (i := 3) (x := moD (figO c 1 120)) rfl drf_mo)
        have N4 := tisN_eq (dv_eq (N := ro M) (δ := [some (.str s), some (.lst ((a :: b :: c :: more).map D.str)), some (moD (figO a 0 99)), some (moD (figO c 1 120)), some (moD x)]) (i := 4) (x := moD x) rfl drf_mo)
        have TT := or_eq N2 (or_eq N3 (tand_B (tc2_eq (op := eqT 8) (g := pInt 4) L int_eq eqIb) N4))
        rw [isN_moD, isN_moD, isN_moD] at TT
        cases ha : figO a 0 99 with
        | none =>
          rw [ha] at TT
          refine st_ifT (tv_and TT) ?_
          rw [hro, rowM_n3 (.inl ha)]
          exact ⟨trivial, RES_non.mpr rfl⟩
        | some i =>
          cases hc : figO c 1 120 with
          | none =>
            rw [ha, hc] at TT
            refine st_ifT (tv_and TT) ?_
            rw [hro, rowM_n3 (.inr (.inl hc))]
            exact ⟨trivial, RES_non.mpr rfl⟩
          | some l =>
            rw [ha, hc] at TT
            rcases hm with hm | ⟨hm, hx, h1⟩
            · have e : (Option.isNone (some i) || (Option.isNone (some l) || (decide (((a :: b :: c :: more).length : Int) = 4) && x.isNone))) = false := by
                cases x with
                | some v => simp
                | none =>
                  have := hm0 hm
                  simp [this]
              rw [e] at TT
              refine st_ifF (tv_and TT) ?_
              rw [hro, rowM_so hk ha hc hm]
              have V := tup4_eq (plf_eq (var_eq (N := ro M) (δ := [some (.str s), some (.lst ((a :: b :: c :: more).map D.str)), some (moD (some i)), some (moD (some l)), some (moD x)]) (i := 2) (x := .int i) rfl) trivial) (plf_eq (p2_eq d0 int_eq (ix1 (y := .str b))) trivial) (plf_eq (var_eq (i := 3) (x := .int l) rfl) trivial) (plf_eq (var_eq (i := 4) (x := moD x) rfl) lf_mo)
              unfold sRetF
              rw [V]
              refine ⟨trivial, ?_⟩
              have e3 : D.tup [.int i, .str b, .int l, moD x] = frD (some ⟨i, decide (b = ("live" : Str)), l, x⟩) := by
                show _ = D.tup [.int i, .str (kindS (decide (b = ("live" : Str)))), .int l, moD x]
                rw [kindS_of hk]
              show RES (ro M) (.tup [.int i, .str b, .int l, moD x]) _
              rw [e3]
              exact RES_fr.mpr rfl
            · have e : (Option.isNone (some i) || (Option.isNone (some l) || (decide (((a :: b :: c :: more).length : Int) = 4) && x.isNone))) = true := by
                simp [hx, h1]
              rw [e] at TT
              refine st_ifT (tv_and TT) ?_
              rw [hro, rowM_n3 (.inr (.inr hm))]
              exact ⟨trivial, RES_non.mpr rfl⟩
      rcases hmore with rfl | ⟨d, rfl⟩
      · exact go (some none) none rfl (.inl rfl) (fun _ => rfl) (pif_F (tc2_eq L int_eq eqIb) rfl)
      · have V := figE (lo := 0) (hi := 899) (p2_eq (op := ixQ) (z := .str d) (d0 (x0 := some (.str s)) (x2 := some (moD (figO a 0 99))) (x3 := some (moD (figO c 1 120))) (x4 := none)) (int_eq (i := 3)) (ix_lst rfl)) (hw d (by simp))
        refine go ((figO d 0 899).map some) (figO d 0 899) rfl ?_ (fun z => ?_) (pif_T (tc2_eq L int_eq eqIb) V)
        · cases figO d 0 899 with
          | none => exact .inr ⟨rfl, rfl, rfl⟩
          | some v => exact .inl rfl
        · cases h : figO d 0 899 with
          | none => rw [h] at z; cases z
          | some v => rw [h] at z; cases z
  · rw [decide_eq_false hl34] at T1
    refine st_ifT (tv_and (tor_T T1)) ?_
    have e : rowO ws = none := by
      match ws, hl34 with
      | [], _ => rfl
      | [_], _ => rfl
      | [_, _], _ => rfl
      | [_, _, _], h => exact absurd (.inl rfl) h
      | [_, _, _, _], h => exact absurd (.inr rfl) h
      | _ :: _ :: _ :: _ :: _ :: _, _ => rfl
    rw [e]
    exact ⟨trivial, RES_non.mpr rfl⟩
theorem bad_none : ∀ {os : List (Option Row)} {n : Nat}, (∀ o ∈ os, o ≠ none) → badAt n os = none
  | [], _, _ => rfl
  | none :: _, _, h => absurd rfl (h none (by simp))
  | some _ :: os, n, h => bad_none (os := os) fun o ho => h o (by simp [ho])
theorem bad_some : ∀ {os : List (Option Row)} {n i : Nat}, os[i]? = some none → (∀ j < i, os[j]? ≠ some none) → badAt n os = some (n + i)
  | [], _, _, h, _ => by simp at h
  | none :: _, n, 0, _, _ => rfl
  | none :: _, n, i + 1, _, h => absurd rfl (h 0 (by omega))
  | some _ :: os, n, 0, h, _ => by simp at h
  | some _ :: os, n, i + 1, h, k => by
    show badAt (n + 1) os = _
    rw [bad_some (os := os) (n := n + 1) (i := i) (by simpa using h) fun j hj => by have := k (j + 1) (by omega); simpa using this]
    congr 1; omega
def lns (t : Str) : List Str := if t = "" then [] else Txt.split t "\n"
theorem lines_lns {t : Str} : linesO t = (lns t).map fun l => rowO (Txt.split l " ") := by
  unfold linesO lns
  split <;> rfl
theorem lns_ok {t : Str} {n : Nat} (h : SOk t n) : (∀ l ∈ lns t, SOk l n) ∧ (lns t).length ≤ n + 1 := by
  unfold lns
  by_cases e : t = ""
  · rw [if_pos e]
    exact ⟨fun l hl => (by cases hl), Nat.zero_le _⟩
  · rw [if_neg e]
    exact ⟨sp_nl.sok h, by have := (sp_nl (s := t)).len; have := h.len; omega⟩
theorem iE_and {δ : DL.Loc} {N : Nm} {f : PF} {xs : List D} (h : f δ N = ⟨True, .lst xs⟩) : (iE f δ N).ok ∧ (iE f δ N).vals = enu 0 xs := by
  unfold iE; rw [h]; exact ⟨⟨trivial, trivial⟩, rfl⟩
theorem lnsE {t : Str} (h : SOk t 100000) {δ : DL.Loc} {N : Nm} {f : PF} (hf : f δ N = ⟨True, .str t⟩) : pIf (tc2 (neT 8) f (pStr "")) (p2 splitD f (pStr "\n")) (pLst aNil) δ N = ⟨True, .lst ((lns t).map D.str)⟩ := by
  have ne : neT 8 (.str t) (.str "") = ⟨True, !decide (t = "")⟩ := by
    rw [ne_b (x := .str t) (y := .str "") h.ok (by show PyData.strOk _ = true; decide +kernel), eqD_str]
  unfold lns
  by_cases e : t = ""
  · rw [decide_eq_true e] at ne
    rw [if_pos e]
    exact pif_F (tc2_eq hf str_eq ne) nil_eq
  · rw [decide_eq_false e] at ne
    rw [if_neg e]
    exact pif_T (tc2_eq hf str_eq ne) (p2_eq hf str_eq (spE h.len rfl))
theorem r_read {X : Str → Addr} (ds : List D) (M : Nm) (Q' : D → Nm → Prop) (E' : ED) (hl : ds.length = 1) (h : sp_read X ds M Q' E') : w_read X { nx := fun _ M' => Q' .non M', rt := Q', ex := E' } (startD n_read.length ds) M := by
  obtain ⟨t, rfl, ht, hq, he⟩ := h
  obtain ⟨l1, l2⟩ := lns_ok ht
  show w_read X { nx := fun _ M' => Q' .non M', rt := Q', ex := E' } [some (.str t), none, none, none, none] M
  unfold w_read
  refine st_setM (.lst []) (pv_and nil_eq) trivial fun a ha => ?_
  have ev := lnsE ht (N := updN M a ⟨true, .lst []⟩) (dv_eq (δ := [some (.str t), some (.ref a), none, none, none]) (i := 0) (x := .str t) rfl rfl)
  refine st_for (enu 0 ((lns t).map D.str)) (iE_and ev) ?_
  refine loopD_get (fun i δ N => ∃ x2 x3 x4, δ = [some (.str t), some (.ref a), x2, x3, x4] ∧ N a = some ⟨true, .lst (((linesO t).take i).map frD)⟩ ∧ (∀ j < i, (linesO t)[j]? ≠ some none) ∧ ∀ z c, M z = some c → N z = some c) ?_ ?_ ?_
  · exact ⟨_, _, _, rfl, updN_same, fun j hj => by omega, fun z c hz => by rw [updN_ne (fun y => by rw [y, ha] at hz; cases hz)]; exact hz⟩
  · rintro δ N ⟨x2, x3, x4, rfl, z1, z2, z3⟩
    rw [enu_length, List.length_map] at z1 z2
    have ll : (linesO t).length = (lns t).length := by rw [lines_lns, List.length_map]
    rw [← ll, List.take_length] at z1
    refine ⟨rfl, _, z1, hq (bad_none fun o ho => ?_) _ fun z c hz => ?_⟩
    · obtain ⟨j, hj⟩ := List.getElem?_of_mem ho
      intro e
      subst e
      exact z2 j (by have := (List.getElem?_eq_some_iff.mp hj).1; omega) hj
    · rw [show rA (lk [some (D.str t), some (.ref a), x2, x3, x4] 1) = a from rfl, remN_ne (fun y => by rw [y, ha] at hz; cases hz)]
      exact z3 z c hz
  · rintro i d0 δ N L hd0 hL ⟨x2, x3, x4, rfl, z1, z2, z3⟩
    rw [enu_get, List.getElem?_map] at hd0
    obtain ⟨d1, hd1, rfl⟩ := Option.map_eq_some_iff.mp hd0
    obtain ⟨l, hli, rfl⟩ := Option.map_eq_some_iff.mp hd1
    have hm : l ∈ lns t := List.mem_of_getElem? hli
    have hlo : (linesO t)[i]? = some (rowO (Txt.split l " ")) := by rw [lines_lns, List.getElem?_map, hli]; rfl
    have hok := l1 l hm
    refine ⟨⟨trivial, rfl, by show (2:Nat) < 5; decide, by show (3:Nat) < 5; decide, rfl⟩, ?_⟩
    show sSeq _ _ _ [some (.str t), some (.ref a), some (.int ((0 + i : Nat) : Int)), some (.str l), x4] N
    refine st_set _ (pv_and (rowE (p2_eq (dv_eq (i := 3) (x := .str l) rfl rfl) str_eq (spE hok.len rfl)) (by have := (sp_sp (s := l)).len; have := hok.len; omega) (sp_sp.sok hok))) rfl ?_
    show sSeq _ _ _ [some (.str t), some (.ref a), some (.int ((0 + i : Nat) : Int)), some (.str l), some (frD (rowO (Txt.split l " ")))] N
    cases hr : rowO (Txt.split l " ") with
    | none =>
      refine st_ifT (tv_and (tisN_eq (dv_eq (i := 4) (x := .non) rfl rfl))) ?_
      rw [hr] at hlo
      have hb := bad_some (n := 0) hlo z2
      refine ⟨rfl, trivial, ?_⟩
      exact he _ hb N z3
    | some r =>
      refine st_ifF (tv_and (tisN_eq (dv_eq (i := 4) (x := rowD r) rfl rfl))) ?_
      rw [hr] at hlo
      have hlt : ((linesO t).take i).length < 16000000 := by
        have : (linesO t).length = (lns t).length := by rw [lines_lns, List.length_map]
        rw [List.length_take]; omega
      refine st_app1 (a := a) (π := []) (rowD r) (pv_and (plf_eq (var_eq (i := 4) (x := rowD r) rfl) lf_row)) ⟨rfl, rfl, rfl⟩ z1 sub_nil (by rw [List.length_map]; exact hlt) ?_
      refine hL _ _ ⟨_, _, _, rfl, ?_, fun j hj => ?_, fun z c hz => ?_⟩
      · rw [updN_same, put_nil, List.take_succ, hlo]
        simp only [List.map_append]; rfl
      · rcases Nat.lt_succ_iff_lt_or_eq.mp hj with h | h
        · exact z2 j h
        · rw [h, hlo]; exact fun z => by cases z
      · rw [updN_ne (fun y => by rw [y, ha] at hz; cases hz)]; exact z3 z c hz
end K14
set_option maxHeartbeats 4000000
namespace K14
open PySem L2 DL TL
theorem cut_take {α : Type} {f : α → D} {a : List α} {j : Nat} : cutD (a.map f) none (some (j : Int)) = (a.take j).map f := by
  unfold cutD
  rw [HT.sIx_nat, HT.sIx_none, List.length_map, Nat.sub_zero, List.drop_zero, ← List.map_take]
  rcases Nat.le_total j a.length with h | h
  · rw [Nat.min_eq_left h]
  · rw [Nat.min_eq_right h, List.take_of_length_le (Nat.le_refl _), List.take_of_length_le h]
theorem Kept.tr {a : Addr} {N N1 N2 : Nm} (h : Kept a N N1) (k : Kept a N1 N2) : Kept a N N2 := fun z c hz hc => k z c hz (h z c hz hc)
theorem Kept.rfl_ {a : Addr} {N : Nm} : Kept a N N := fun _ _ _ h => h
theorem wt_eq {ps : List Str} : wt ps = (ps.map (·.length)).sum + ps.length := by
  induction ps with
  | nil => rfl
  | cons p ps ih => unfold wt at ih ⊢; simp only [List.map_cons, List.sum_cons, List.length_cons, ih]; omega
theorem join_ok {y : Str} {c n : Nat} (ey : tl y = [c]) (hc : c < 0x110000) {ps : List Str} (h : ∀ p ∈ ps, PyData.strOk p = true) (hw : wt ps ≤ n) : SOk (Txt.join y ps) n := by
  refine ⟨?_, ?_⟩
  · rw [strOk_tl]
    intro x hx
    rw [TX.tl_tjoin] at hx
    rcases TX.mem_joinL hx with z | ⟨p, hp, hc'⟩
    · rw [ey] at z; rw [List.mem_singleton.mp z]; exact hc
    · obtain ⟨q, hq, rfl⟩ := List.mem_map.mp hp
      exact strOk_tl.mp (h q hq) x hc'
  · have := TX.joinL_len (S := tl y) (ps := ps.map tl)
    rw [← TX.tl_tjoin, ← len_tl, List.map_map, List.length_map, ey] at this
    have e : ps.map (List.length ∘ tl) = ps.map (·.length) := List.map_congr_left fun x _ => (len_tl x).symm
    rw [e] at this
    rw [wt_eq] at hw
    simp at this
    omega
theorem joinE {y : Str} {c n : Nat} (ey : tl y = [c]) {ps : List Str} (hw : wt ps ≤ n) (hn : n ≤ 10000000) : joinD (.str y) (.lst (ps.map D.str)) = ⟨True, .str (Txt.join y ps)⟩ := by
  refine joinV ?_
  have : y.length = 1 := by rw [len_tl, ey]; rfl
  rw [wt_eq] at hw
  rw [this]
  show _ ≤ 16000000
  omega
theorem wt_take {ps : List Str} {n : Nat} : wt (ps.take n) ≤ wt ps := by
  have : wt (ps.take n ++ ps.drop n) = wt ps := by rw [List.take_append_drop]
  rw [wt_app] at this; omega
theorem wt_drop {ps : List Str} {n : Nat} : wt (ps.drop n) ≤ wt ps := by
  have : wt (ps.take n ++ ps.drop n) = wt ps := by rw [List.take_append_drop]
  rw [wt_app] at this; omega
theorem wt_one {p : Str} : wt [p] = p.length + 1 := by unfold wt; simp
theorem wn {δ : DL.Loc} {N : Nm} {a : Addr} {d : D} {f : PF} {many : Int} {Q : D → Nm → Prop} {E : ED} (h0 : lk δ 0 = some (.ref a)) (hf : f δ N = ⟨True, .int many⟩) (hN : N a = some ⟨true, d⟩) (hd : HSt d) (h1 : 0 < many) (h2 : many < 4294967296)
    (k : ∀ r d' N', 0 ≤ r → r < many → HSt d' → N' a = some ⟨true, d'⟩ → Kept a N N' → Q (.int r) N') : wCall 2 sp_law_next (wACons (wP (pVar 0)) (wACons (wP f) wANil)) δ N Q E := by
  have e0 : pVar 0 δ N = ⟨True, .ref a⟩ := var_eq h0
  refine ⟨by rw [e0]; trivial, by rw [hf]; trivial, rfl, ?_⟩
  rw [e0, hf]
  exact ⟨a, many, d, rfl, hN, hd, h1, h2, fun r d' r0 r1 hs => k r d' _ r0 r1 hs updN_same fun z c hz hc => by rw [updN_ne hz]; exact hc⟩
theorem st_nx {δ : DL.Loc} {N : Nm} {a : Addr} {d : D} {f : PF} {many : Int} {i : Nat} {w : WS} {K : EndD} (h0 : lk δ 0 = some (.ref a)) (hf : f δ N = ⟨True, .int many⟩) (hN : N a = some ⟨true, d⟩) (hd : HSt d) (h1 : 0 < many) (h2 : many < 4294967296)
    (k : ∀ r d' N', 0 ≤ r → r < many → HSt d' → N' a = some ⟨true, d'⟩ → Kept a N N' → w K (δ.set i (some (.int r))) N') : sSeq (sSet i (wCall 2 sp_law_next (wACons (wP (pVar 0)) (wACons (wP f) wANil)))) w K δ N := wn h0 hf hN hd h1 h2 k
abbrev signsS : Str := kS_law_spoilt_2
theorem signs_f : signsS.length = 92 - 92 + (tl signsS).length ∧ (tl signsS).length < 200 ∧ 13 ≤ (tl signsS).length ∧ ∀ c ∈ tl signsS, c < 0x110000 := by decide +kernel
theorem sok_sgn {c : Nat} (h : c < 0x110000) : SOk ⟨#[c]⟩ 1 := ⟨strOk_tl.mpr fun x hx => by
  have hx : x = c := by simpa [tl] using hx
  rw [hx]; exact h, Nat.le_refl _⟩
theorem sok_cut {s : Str} {n : Nat} {lo hi : Option Int} (h : SOk s n) : SOk (cutT s lo hi) n := by
  have e : tl (cutT s lo hi) = ((tl s).drop (HT.sIx s.length 0 lo)).take (HT.sIx s.length s.length hi - HT.sIx s.length 0 lo) := by unfold cutT tl; simp
  refine ⟨strOk_tl.mpr fun x hx => ?_, ?_⟩
  · rw [e] at hx
    exact strOk_tl.mp h.ok x (List.mem_of_mem_drop (List.mem_of_mem_take hx))
  · have := h.len
    rw [len_tl] at this
    rw [len_tl, e, List.length_take, List.length_drop]
    omega
theorem sok_cat {s t : Str} {n m : Nat} (h : SOk s n) (k : SOk t m) : SOk (s ++ t) (n + m) := ⟨strOk_tl.mpr fun x hx => by
  rw [tl_append] at hx
  rcases List.mem_append.mp hx with z | z
  · exact strOk_tl.mp h.ok x z
  · exact strOk_tl.mp k.ok x z, by
  have := h.len; have := k.len
  rw [len_tl] at *
  rw [tl_append, List.length_append]; omega⟩
theorem SOk.mono {s : Str} {n m : Nat} (h : SOk s n) (k : n ≤ m) : SOk s m := ⟨h.ok, Nat.le_trans h.len k⟩
section
variable {δ : DL.Loc} {N : Nm} {f g h k : PF}
theorem slS_eq {lo hi : SF} {s : Str} {i j : Option Int} (h1 : f δ N = ⟨True, .str s⟩) (hs : s.length ≤ 100000) (h2 : lo δ N = (True, i)) (h3 : hi δ N = (True, j)) : pSlS f lo hi δ N = ⟨True, .str (cutT s i j)⟩ := by
  unfold pSlS
  rw [h1, h2, h3]
  exact pv_mk ⟨trivial, trivial, trivial, trivial, by show _ ≤ 16000000; exact Nat.le_trans hs (by decide)⟩
theorem catS_eq {s t : Str} (h1 : f δ N = ⟨True, .str s⟩) (h2 : g δ N = ⟨True, .str t⟩) (hs : s.length ≤ 1000000) (ht : t.length ≤ 1000000) : p2 catS f g δ N = ⟨True, .str (s ++ t)⟩ := p2_eq h1 h2 (by
  unfold catS
  exact pv_mk (x := .str (s ++ t)) ⟨trivial, trivial, by show s.length + t.length ≤ 16000000; omega⟩)
theorem lst3_eq {a b c : D} (h1 : f δ N = ⟨True, a⟩) (h2 : g δ N = ⟨True, b⟩) (h3 : h δ N = ⟨True, c⟩) : pLst (aCons f (aCons g (aCons h aNil))) δ N = ⟨True, .lst [a, b, c]⟩ := by
  unfold pLst aCons aNil
  rw [h1, h2, h3]
  exact pv_mk ⟨⟨trivial, trivial, trivial, trivial⟩, Nat.le_of_ble_eq_true rfl⟩
theorem addI_eq {i j : Int} (h1 : f δ N = ⟨True, .int i⟩) (h2 : g δ N = ⟨True, .int j⟩) : p2 bAddI f g δ N = ⟨True, .int (i + j)⟩ := p2_eq h1 h2 (by unfold bAddI bI; exact pv_mk ⟨trivial, trivial, trivial⟩)
end
theorem ix_3 {xs : List D} {i : Int} (h0 : 0 ≤ i) (h1 : i < (xs.length : Int)) : ∃ d, d ∈ xs ∧ ixQ (.lst xs) (.int i) = ⟨True, d⟩ := by
  have h : i.toNat < xs.length := by omega
  refine ⟨xs[i.toNat], List.getElem_mem h, ix_lst ?_⟩
  rw [atI_nn h0, List.getElem?_eq_getElem h]
theorem pl_ix {xs : List D} {i : Nat} {d : D} (h : xs[i]? = some d) : ixQ (.lst xs) (.int i) = ⟨True, d⟩ := ix_lst (by rw [DL.atI_nat]; exact h)
end K14
set_option maxHeartbeats 4000000
namespace K14
open PySem L2 DL TL
theorem mem3 {α : Type} {a b c d : α} (h : d ∈ [a, b, c]) : d = a ∨ d = b ∨ d = c := by simpa using h
theorem tlst2 {δ : DL.Loc} {N : Nm} {f g : PF} {a b : D} (h1 : f δ N = ⟨True, a⟩) (h2 : g δ N = ⟨True, b⟩) : pLst (aCons f (aCons g aNil)) δ N = ⟨True, .lst [a, b]⟩ := by
  unfold pLst aCons aNil
  rw [h1, h2]
  exact pv_mk ⟨⟨trivial, trivial, trivial⟩, Nat.le_of_ble_eq_true rfl⟩
theorem ix_lists {A B C : List Str} {i : Int} (h0 : 0 ≤ i) (h1 : i < 3) : ∃ P : List Str, (P = A ∨ P = B ∨ P = C) ∧ ixQ (.lst [.lst (A.map D.str), .lst (B.map D.str), .lst (C.map D.str)]) (.int i) = ⟨True, .lst (P.map D.str)⟩ := by
  obtain ⟨d, hd, e⟩ := ix_3 (xs := [.lst (A.map D.str), .lst (B.map D.str), .lst (C.map D.str)]) h0 h1
  rcases mem3 hd with rfl | rfl | rfl
  · exact ⟨A, .inl rfl, e⟩
  · exact ⟨B, .inr (.inl rfl), e⟩
  · exact ⟨C, .inr (.inr rfl), e⟩
abbrev oddS : List Str := ["", "0", "00", "07", "1", "99", "100", "120", "121", "899", "900", "999", "-1", "clip", "live", "Clip", "1000"]
theorem odd_ok : ∀ w ∈ oddS, PyData.strOk w = true ∧ w.length ≤ 4 := by decide +kernel
theorem subE {δ : DL.Loc} {N : Nm} {f g : PF} {i j : Int} (h1 : f δ N = ⟨True, .int i⟩) (h2 : g δ N = ⟨True, .int j⟩) : p2 bSub f g δ N = ⟨True, .int (i - j)⟩ := p2_eq h1 h2 (by unfold bSub bI; exact pv_mk ⟨trivial, trivial, trivial⟩)
theorem cLt_eq {i j : Int} : cLt (.int i) (.int j) = ⟨True, decide (i < j)⟩ := by unfold cLt cI; exact tv_mk ⟨trivial, trivial⟩
theorem cGt_eq {i j : Int} : cGt (.int i) (.int j) = ⟨True, decide (j < i)⟩ := by unfold cGt cI; exact tv_mk ⟨trivial, trivial⟩
theorem cutTk {α : Type} {f : α → D} {a : List α} {j : Int} (h : 0 ≤ j) : cutD (a.map f) none (some j) = (a.take j.toNat).map f := by
  have := cut_take (f := f) (a := a) (j := j.toNat)
  rwa [Int.toNat_of_nonneg h] at this
theorem cutDr {α : Type} {f : α → D} {a : List α} {j : Int} (h : 0 ≤ j) : cutD (a.map f) (some j) none = (a.drop j.toNat).map f := by
  have := cut_drop (f := f) (a := a) (j := j.toNat)
  rwa [Int.toNat_of_nonneg h] at this
theorem wp_eq {δ : DL.Loc} {N : Nm} {f : PF} {x : D} {Q : D → Nm → Prop} {E : ED} (h : f δ N = ⟨True, x⟩) (k : Q x N) : wP f δ N Q E := by
  refine ⟨by rw [h]; trivial, ?_⟩
  rw [h]; exact k
theorem st_w {i : Nat} {w : WE} {u : WS} {K : EndD} {δ : DL.Loc} {N : Nm} (h : w δ N (fun d N1 => u K (δ.set i (some d)) N1) K.ex) : sSeq (sSet i w) u K δ N := h
theorem w2_p {δ : DL.Loc} {N : Nm} {f : PF} {x : D} {op : D → D → PV} {u : WE} {Q : D → Nm → Prop} {E : ED} (h : f δ N = ⟨True, x⟩) (k : u δ N (fun y N2 => (op x y).ok ∧ Q (op x y).val N2) E) : w2 op (wP f) u δ N Q E := wp_eq h k
theorem call2_w {δ : DL.Loc} {N : Nm} {f : PF} {x : D} {sp : SpD} {w : WE} {Q : D → Nm → Prop} {E : ED} (h : f δ N = ⟨True, x⟩) (k : w δ N (fun y N1 => [x, y].length = 2 ∧ sp [x, y] N1 Q E) E) : wCall 2 sp (wACons (wP f) (wACons w wANil)) δ N Q E := by
  refine ⟨by rw [h]; trivial, ?_⟩
  rw [h]; exact k
theorem r_law_spoilt (ds : List D) (M : Nm) (Q' : D → Nm → Prop) (E' : ED) (hlen : ds.length = 2) (h : sp_law_spoilt ds M Q' E') : w_law_spoilt { nx := fun _ M' => Q' .non M', rt := Q', ex := E' } (startD n_law_spoilt.length ds) M := by
  obtain ⟨h, d, t, rfl, hN, hd, ht, q⟩ := h
  have ht1 : SOk t 100000 := ht.mono (by decide)
  have ht2 := ht.len
  show w_law_spoilt _ [some (.ref h), some (.str t), none, none, none, none, none, none, none, none, none] M
  unfold w_law_spoilt
  refine st_nx rfl int_eq hN hd (by decide) (by decide) fun turn d1 N1 t0 t1 hd1 hN1 k1 => ?_
  dsimp only [List.set]
  refine st_nx rfl (addI_eq (p1_eq (dv_eq (i := 1) (x := .str t) rfl rfl) (lenS_eq ht1.len)) int_eq) hN1 hd1 (by omega) (by omega) fun at_ d2 N2 a0 a1 hd2 hN2 k2 => ?_
  dsimp only [List.set]
  refine st_set (.str signsS) ⟨trivial, rfl⟩ rfl ?_
  dsimp only [List.set]
  obtain ⟨sg1, sg2, sg3, sg4⟩ := signs_f
  have sgl : signsS.length = (tl signsS).length := len_tl _
  have eL : p1 lenD (pDr (pVar 4)) [some (.ref h), some (.str t), some (.int turn), some (.int at_), some (.str signsS), none, none, none, none, none, none] N2 = ⟨True, .int signsS.length⟩ := p1_eq (dv_eq (i := 4) (x := .str signsS) rfl rfl) (lenS_eq (by omega))
  refine st_w (w2_p (x := .str signsS) (var_eq rfl) (call2_w (x := .ref h) (var_eq rfl) (w2_p (tlst2 int_eq eL) ?_)))
  refine wn rfl int_eq hN2 hd2 (by decide) (by decide) fun r d3 N3 r0 r1 hd3 hN3 k3 => ?_
  obtain ⟨many, hm1, hm2, em⟩ : ∃ many : Int, 0 < many ∧ many ≤ (tl signsS).length ∧ ixQ (.lst [.int 13, .int signsS.length]) (.int r) = ⟨True, .int many⟩ := by
    rcases (by omega : r = 0 ∨ r = 1) with rfl | rfl
    · exact ⟨13, by decide, by omega, ix0⟩
    · exact ⟨signsS.length, by omega, by omega, ix1⟩
  rw [em]
  refine ⟨trivial, rfl, h, many, d3, rfl, hN3, hd3, hm1, by omega, fun c d4 c0 c1 hd4 => ?_⟩
  obtain ⟨N4, hN4⟩ : ∃ N4, N4 = updN N3 h ⟨true, d4⟩ := ⟨_, rfl⟩
  rw [← hN4]
  have k4 : Kept h M N4 := k1.tr (k2.tr (k3.tr (by rw [hN4]; exact fun z c hz hc => by rw [updN_ne hz]; exact hc)))
  have hh4 : N4 h = some ⟨true, d4⟩ := by rw [hN4]; exact updN_same
  obtain ⟨g, hg, hgl⟩ : ∃ g, (tl signsS)[c.toNat]? = some g ∧ g < 0x110000 := by
    have hl : c.toNat < (tl signsS).length := by omega
    exact ⟨(tl signsS)[c.toNat], List.getElem?_eq_getElem hl, sg4 _ (List.getElem_mem hl)⟩
  have es : ixS (.str signsS) (.int c) = ⟨True, .str ⟨#[g]⟩⟩ := by
    unfold ixS
    simp only [toS_str, toI_int]
    have e : atI signsS.cps.toList c = some g := by rw [atI_nn c0]; exact hg
    rw [e]
    exact pv_mk ⟨trivial, trivial, by show _ ≤ 16000000; omega, rfl⟩
  rw [es]
  refine ⟨trivial, ?_⟩
  show sSeq _ _ _ [some (.ref h), some (.str t), some (.int turn), some (.int at_), some (.str signsS), some (.str ⟨#[g]⟩), none, none, none, none, none] N4
  have hg1 := sok_sgn hgl
  have T1 : tc2 cLt (pDr (pVar 2)) (pInt 3) [some (.ref h), some (.str t), some (.int turn), some (.int at_), some (.str signsS), some (.str ⟨#[g]⟩), none, none, none, none, none] N4 = ⟨True, decide (turn < 3)⟩ := tc2_eq (dv_eq (i := 2) (x := .int turn) rfl rfl) int_eq cLt_eq
  by_cases c3 : turn < 3
  · rw [decide_eq_true c3] at T1
    refine st_ifT (tv_and T1) ?_
    have e1 := slS_eq (f := pDr (pVar 1)) (δ := [some (.ref h), some (.str t), some (.int turn), some (.int at_), some (.str signsS), some (.str ⟨#[g]⟩), none, none, none, none, none]) (N := N4) (lo := sfN) (i := none) (dv_eq (i := 1) (x := .str t) rfl rfl) ht1.len rfl (sfS_eq (dv_eq (i := 3) (x := .int at_) rfl rfl))
    obtain ⟨w, hw, e2⟩ : ∃ w : Str, SOk w 1 ∧ p2 ixQ (pLst (aCons (pDr (pVar 5)) (aCons (pStr "") (aCons (pDr (pVar 5)) aNil)))) (pDr (pVar 2)) [some (.ref h), some (.str t), some (.int turn), some (.int at_), some (.str signsS), some (.str ⟨#[g]⟩), none, none, none, none, none] N4 = ⟨True, .str w⟩ := by
      obtain ⟨x, hx, e⟩ := ix_3 (xs := [.str ⟨#[g]⟩, .str "", .str ⟨#[g]⟩]) t0 c3
      have e2 := p2_eq (lst3_eq (dv_eq (δ := [some (.ref h), some (.str t), some (.int turn), some (.int at_), some (.str signsS), some (.str ⟨#[g]⟩), none, none, none, none, none]) (N := N4) (i := 5) (x := .str ⟨#[g]⟩) rfl rfl) (str_eq (i := "")) (dv_eq (i := 5) (x := .str ⟨#[g]⟩) rfl rfl)) (dv_eq (i := 2) (x := .int turn) rfl rfl) e
      rcases mem3 hx with rfl | rfl | rfl
      · exact ⟨_, hg1, e2⟩
      · exact ⟨_, ⟨by decide +kernel, by decide⟩, e2⟩
      · exact ⟨_, hg1, e2⟩
    have e3 : ∃ b : Int, p1 intD (pc2 cGt (pDr (pVar 2)) (pInt 0)) [some (.ref h), some (.str t), some (.int turn), some (.int at_), some (.str signsS), some (.str ⟨#[g]⟩), none, none, none, none, none] N4 = ⟨True, .int b⟩ := ⟨_, p1_eq (pc2_eq (dv_eq (i := 2) (x := .int turn) rfl rfl) int_eq cGt_eq) rfl⟩
    obtain ⟨b, e3⟩ := e3
    have e4 := slS_eq (f := pDr (pVar 1)) (hi := sfN) (j := none) (dv_eq (i := 1) (x := .str t) rfl rfl) ht1.len (sfS_eq (addI_eq (dv_eq (i := 3) (x := .int at_) rfl rfl) e3)) rfl
    have s1 := sok_cut (lo := none) (hi := some at_) (show SOk t t.length from ⟨ht.ok, Nat.le_refl _⟩)
    have s4 := sok_cut (lo := some (at_ + b)) (hi := none) (show SOk t t.length from ⟨ht.ok, Nat.le_refl _⟩)
    have s12 := sok_cat s1 hw
    have s14 := sok_cat s12 s4
    have e5 := catS_eq (catS_eq e1 e2 (by have := s1.len; omega) (by have := hw.len; omega)) e4 (by have := s12.len; omega) (by have := s4.len; omega)
    refine wp_eq e5 ?_
    exact q _ d4 N4 (s14.mono (by omega)) hd4 hh4 k4
  · rw [decide_eq_false c3] at T1
    refine st_ifF (tv_and T1) ?_
    have F := sp_nl (s := t)
    obtain ⟨ls, hls⟩ : ∃ ls, ls = Txt.split t "\n" := ⟨_, rfl⟩
    have lok := F.sok (show SOk t t.length from ⟨ht.ok, Nat.le_refl _⟩)
    have lwt := F.wt
    have lne := F.ne
    have llen := F.len
    refine st_set (.lst (ls.map D.str)) (by rw [hls]; exact pv_and (p2_eq (dv_eq (i := 1) (x := .str t) rfl rfl) str_eq (spE ht1.len rfl))) rfl ?_
    rw [← hls] at lok lwt lne llen
    dsimp only [List.set]
    have lpos : 0 < ls.length := List.length_pos_iff.mpr lne
    have LL : ∀ {N x7 x8 x9 x10}, p1 lenD (pDr (pVar 6)) [some (.ref h), some (.str t), some (.int turn), some (.int at_), some (.str signsS), some (.str ⟨#[g]⟩), some (.lst (ls.map D.str)), x7, x8, x9, x10] N = ⟨True, .int ls.length⟩ := fun {N x7 x8 x9 x10} => by
      have := p1_eq (dv_eq (δ := [some (.ref h), some (.str t), some (.int turn), some (.int at_), some (.str signsS), some (.str ⟨#[g]⟩), some (.lst (ls.map D.str)), x7, x8, x9, x10]) (N := N) (i := 6) (x := .lst (ls.map D.str)) rfl rfl) len_eq
      rw [List.length_map] at this; exact this
    refine st_nx rfl LL hh4 hd4 (by omega) (by omega) fun k d5 N5 k0 k1' hd5 hN5 k5 => ?_
    dsimp only [List.set]
    have k5 := k4.tr k5
    have dl : ∀ {N x8 x9 x10}, pDr (pVar 6) [some (.ref h), some (.str t), some (.int turn), some (.int at_), some (.str signsS), some (.str ⟨#[g]⟩), some (.lst (ls.map D.str)), some (.int k), x8, x9, x10] N = ⟨True, .lst (ls.map D.str)⟩ := fun {N x8 x9 x10} => dv_eq (i := 6) (x := .lst (ls.map D.str)) rfl rfl
    have dk : ∀ {N x8 x9 x10}, pDr (pVar 7) [some (.ref h), some (.str t), some (.int turn), some (.int at_), some (.str signsS), some (.str ⟨#[g]⟩), some (.lst (ls.map D.str)), some (.int k), x8, x9, x10] N = ⟨True, .int k⟩ := fun {N x8 x9 x10} => dv_eq (i := 7) (x := .int k) rfl rfl
    have dt : ∀ {N x8 x9 x10}, pDr (pVar 2) [some (.ref h), some (.str t), some (.int turn), some (.int at_), some (.str signsS), some (.str ⟨#[g]⟩), some (.lst (ls.map D.str)), some (.int k), x8, x9, x10] N = ⟨True, .int turn⟩ := fun {N x8 x9 x10} => dv_eq (i := 2) (x := .int turn) rfl rfl
    -- cuts
    have a1 : ∀ {N x8 x9 x10}, pSl (pDr (pVar 6)) sfN (sfS (pDr (pVar 7))) [some (.ref h), some (.str t), some (.int turn), some (.int at_), some (.str signsS), some (.str ⟨#[g]⟩), some (.lst (ls.map D.str)), some (.int k), x8, x9, x10] N = ⟨True, .lst ((ls.take k.toNat).map D.str)⟩ := fun {N x8 x9 x10} => by
      rw [← cutTk k0]; exact sl_eq dl rfl (sfS_eq dk)
    have a2 : ∀ {N x8 x9 x10}, pSl (pDr (pVar 6)) (sfS (p2 bAddI (pDr (pVar 7)) (pInt 1))) sfN [some (.ref h), some (.str t), some (.int turn), some (.int at_), some (.str signsS), some (.str ⟨#[g]⟩), some (.lst (ls.map D.str)), some (.int k), x8, x9, x10] N = ⟨True, .lst ((ls.drop (k + 1).toNat).map D.str)⟩ := fun {N x8 x9 x10} => by
      rw [← cutDr (by omega)]; exact sl_eq dl (sfS_eq (addI_eq dk int_eq)) rfl
    have a3 : ∀ {N x8 x9 x10}, pSl (pDr (pVar 6)) sfN (sfS (p2 bAddI (pDr (pVar 7)) (pInt 1))) [some (.ref h), some (.str t), some (.int turn), some (.int at_), some (.str signsS), some (.str ⟨#[g]⟩), some (.lst (ls.map D.str)), some (.int k), x8, x9, x10] N = ⟨True, .lst ((ls.take (k + 1).toNat).map D.str)⟩ := fun {N x8 x9 x10} => by
      rw [← cutTk (by omega)]; exact sl_eq dl rfl (sfS_eq (addI_eq dk int_eq))
    have a4 : ∀ {N x8 x9 x10}, pSl (pDr (pVar 6)) (sfS (pDr (pVar 7))) sfN [some (.ref h), some (.str t), some (.int turn), some (.int at_), some (.str signsS), some (.str ⟨#[g]⟩), some (.lst (ls.map D.str)), some (.int k), x8, x9, x10] N = ⟨True, .lst ((ls.drop k.toNat).map D.str)⟩ := fun {N x8 x9 x10} => by
      rw [← cutDr k0]; exact sl_eq dl (sfS_eq dk) rfl
    have ct : ∀ {f g : PF} {δ : DL.Loc} {N : Nm} {A B : List Str}, f δ N = ⟨True, .lst (A.map D.str)⟩ → g δ N = ⟨True, .lst (B.map D.str)⟩ → A.length ≤ 1000000 → B.length ≤ 1000000 → p2 catL f g δ N = ⟨True, .lst ((A ++ B).map D.str)⟩ := fun h1 h2 l1 l2 => by
      have := cat_eq h1 h2 (by rw [List.length_map, List.length_map]; show _ ≤ 16000000; omega)
      rwa [← List.map_append] at this
    have tkl : ∀ n, (ls.take n).length ≤ 1000000 := fun n => by rw [List.length_take]; omega
    have dpl : ∀ n, (ls.drop n).length ≤ 1000000 := fun n => by rw [List.length_drop]; omega
    have T2 : tc2 cLt (pDr (pVar 2)) (pInt 6) [some (.ref h), some (.str t), some (.int turn), some (.int at_), some (.str signsS), some (.str ⟨#[g]⟩), some (.lst (ls.map D.str)), some (.int k), none, none, none] N5 = ⟨True, decide (turn < 6)⟩ := tc2_eq dt int_eq cLt_eq
    have okl : ∀ p ∈ ls, PyData.strOk p = true := fun p hp => (lok p hp).ok
    by_cases c6 : turn < 6
    · rw [decide_eq_true c6] at T2
      refine st_ifT (tv_and T2) ?_
      obtain ⟨P, hP, e⟩ := ix_lists (A := ls.take k.toNat ++ ls.drop (k + 1).toNat) (B := ls.take (k + 1).toNat ++ ls.drop k.toNat) (C := ls.drop k.toNat ++ ls.take k.toNat) (i := turn - 3) (by omega) (by omega)
      have hPf : (∀ p ∈ P, PyData.strOk p = true) ∧ wt P ≤ 2 * (t.length + 1) := by
        have w1 : ∀ n, wt (ls.take n) ≤ t.length + 1 := fun n => by have := wt_take (ps := ls) (n := n); omega
        have w2 : ∀ n, wt (ls.drop n) ≤ t.length + 1 := fun n => by have := wt_drop (ps := ls) (n := n); omega
        have m : ∀ n p, p ∈ ls.take n ∨ p ∈ ls.drop n → PyData.strOk p = true := fun n p hp => okl p (hp.elim List.mem_of_mem_take List.mem_of_mem_drop)
        rcases hP with rfl | rfl | rfl
        · refine ⟨fun p hp => ?_, by rw [wt_app]; have := w1 k.toNat; have := w2 (k + 1).toNat; omega⟩
          rcases List.mem_append.mp hp with z | z
          · exact m _ _ (.inl z)
          · exact m _ _ (.inr z)
        · refine ⟨fun p hp => ?_, by rw [wt_app]; have := w1 (k + 1).toNat; have := w2 k.toNat; omega⟩
          rcases List.mem_append.mp hp with z | z
          · exact m _ _ (.inl z)
          · exact m _ _ (.inr z)
        · refine ⟨fun p hp => ?_, by rw [wt_app]; have := w1 k.toNat; have := w2 k.toNat; omega⟩
          rcases List.mem_append.mp hp with z | z
          · exact m _ _ (.inr z)
          · exact m _ _ (.inl z)
      have e5 := p2_eq (str_eq (i := "\n")) (p2_eq (lst3_eq (ct a1 a2 (tkl _) (dpl _)) (ct a3 a4 (tkl _) (dpl _)) (ct a4 a1 (dpl _) (tkl _))) (subE (dt (N := N5) (x8 := none) (x9 := none) (x10 := none)) (int_eq (i := 3))) e) (joinE (c := 10) rfl hPf.2 (by omega))
      refine wp_eq e5 ?_
      exact q _ d5 N5 (join_ok (c := 10) rfl (by decide) hPf.1 (by have := hPf.2; omega)) hd5 hN5 k5
    · rw [decide_eq_false c6] at T2
      refine st_ifF (tv_and T2) ?_
      have hkl : k.toNat < ls.length := by omega
      obtain ⟨ln, hln⟩ : ∃ ln, ls[k.toNat]? = some ln := ⟨_, List.getElem?_eq_getElem hkl⟩
      have lnm : ln ∈ ls := List.mem_of_getElem? hln
      have lnok := lok ln lnm
      have lnw := wt_mem lnm
      have eln : p2 ixQ (pDr (pVar 6)) (pDr (pVar 7)) [some (.ref h), some (.str t), some (.int turn), some (.int at_), some (.str signsS), some (.str ⟨#[g]⟩), some (.lst (ls.map D.str)), some (.int k), none, none, none] N5 = ⟨True, .str ln⟩ := p2_eq dl dk (ix_lst (by rw [atI_nn k0, List.getElem?_map, hln]; rfl))
      have F2 := sp_sp (s := ln)
      obtain ⟨ws, hws⟩ : ∃ ws, ws = Txt.split ln " " := ⟨_, rfl⟩
      have wok := F2.sok lnok
      have wwt := F2.wt
      have wne := F2.ne
      have wlen := F2.len
      refine st_set (.lst (ws.map D.str)) (by rw [hws]; exact pv_and (p2_eq eln str_eq (spE (by have := lnok.len; omega) rfl))) rfl ?_
      rw [← hws] at wok wwt wne wlen
      dsimp only [List.set]
      have wpos : 0 < ws.length := List.length_pos_iff.mpr wne
      have WL : p1 lenD (pDr (pVar 8)) [some (.ref h), some (.str t), some (.int turn), some (.int at_), some (.str signsS), some (.str ⟨#[g]⟩), some (.lst (ls.map D.str)), some (.int k), some (.lst (ws.map D.str)), none, none] N5 = ⟨True, .int ws.length⟩ := by
        have := p1_eq (dv_eq (δ := [some (.ref h), some (.str t), some (.int turn), some (.int at_), some (.str signsS), some (.str ⟨#[g]⟩), some (.lst (ls.map D.str)), some (.int k), some (.lst (ws.map D.str)), none, none]) (N := N5) (i := 8) (x := .lst (ws.map D.str)) rfl rfl) len_eq
        rw [List.length_map] at this; exact this
      have lnl := lnok.len
      refine st_nx rfl WL hN5 hd5 (by omega) (by omega) fun j d6 N6 j0 j1 hd6 hN6 k6 => ?_
      dsimp only [List.set]
      have k6 := k5.tr k6
      refine st_setM (.lst ((oddS.take 16).map D.str)) ⟨⟨⟨trivial, trivial, trivial, trivial, trivial, trivial, trivial, trivial, trivial, trivial, trivial, trivial, trivial, trivial, trivial, trivial, trivial⟩, Nat.le_of_ble_eq_true rfl⟩, rfl⟩ trivial fun o ho => ?_
      have hoh : h ≠ o := fun z => by rw [← z, hN6] at ho; cases ho
      dsimp only [List.set]
      refine st_app (a := o) (π := []) (.str "1000") ⟨trivial, rfl⟩ ⟨rfl, rfl, rfl⟩ updN_same sub_nil (by decide) ?_
      rw [put_nil, updN_twice]
      obtain ⟨N7, hN7⟩ : ∃ N7, N7 = remN (updN N6 o ⟨true, .lst ((oddS.take 16).map D.str ++ [.str "1000"])⟩) o := ⟨_, rfl⟩
      refine ⟨o, .lst (oddS.map D.str), rfl, updN_same, ?_⟩
      have e7 : (.lst (oddS.map D.str) : D) = .lst ((oddS.take 16).map D.str ++ [.str "1000"]) := rfl
      rw [← hN7]
      have n7h : N7 h = some ⟨true, d6⟩ := by rw [hN7, remN_ne hoh, updN_ne hoh]; exact hN6
      have k7 : Kept h M N7 := fun z c hz hc => by
        have hc6 := k6 z c hz hc
        have hzo : z ≠ o := fun y => by rw [y, ho] at hc6; cases hc6
        rw [hN7, remN_ne hzo, updN_ne hzo]; exact hc6
      dsimp only [List.set]
      have dw : ∀ {N}, pDr (pVar 8) [some (.ref h), some (.str t), some (.int turn), some (.int at_), some (.str signsS), some (.str ⟨#[g]⟩), some (.lst (ls.map D.str)), some (.int k), some (.lst (ws.map D.str)), some (.int j), some (.lst (oddS.map D.str))] N = ⟨True, .lst (ws.map D.str)⟩ := fun {N} => dv_eq (i := 8) (x := .lst (ws.map D.str)) rfl rfl
      have dj : ∀ {N}, pDr (pVar 9) [some (.ref h), some (.str t), some (.int turn), some (.int at_), some (.str signsS), some (.str ⟨#[g]⟩), some (.lst (ls.map D.str)), some (.int k), some (.lst (ws.map D.str)), some (.int j), some (.lst (oddS.map D.str))] N = ⟨True, .int j⟩ := fun {N} => dv_eq (i := 9) (x := .int j) rfl rfl
      have vw : ∀ {N}, pVar 8 [some (.ref h), some (.str t), some (.int turn), some (.int at_), some (.str signsS), some (.str ⟨#[g]⟩), some (.lst (ls.map D.str)), some (.int k), some (.lst (ws.map D.str)), some (.int j), some (.lst (oddS.map D.str))] N = ⟨True, .lst (ws.map D.str)⟩ := fun {N} => var_eq rfl
      have b1 : ∀ {N}, pSl (pVar 8) sfN (sfS (pDr (pVar 9))) [some (.ref h), some (.str t), some (.int turn), some (.int at_), some (.str signsS), some (.str ⟨#[g]⟩), some (.lst (ls.map D.str)), some (.int k), some (.lst (ws.map D.str)), some (.int j), some (.lst (oddS.map D.str))] N = ⟨True, .lst ((ws.take j.toNat).map D.str)⟩ := fun {N} => by
        rw [← cutTk j0]; exact sl_eq vw rfl (sfS_eq dj)
      have b2 : ∀ {N}, pSl (pVar 8) (sfS (p2 bAddI (pDr (pVar 9)) (pInt 1))) sfN [some (.ref h), some (.str t), some (.int turn), some (.int at_), some (.str signsS), some (.str ⟨#[g]⟩), some (.lst (ls.map D.str)), some (.int k), some (.lst (ws.map D.str)), some (.int j), some (.lst (oddS.map D.str))] N = ⟨True, .lst ((ws.drop (j + 1).toNat).map D.str)⟩ := fun {N} => by
        rw [← cutDr (by omega)]; exact sl_eq vw (sfS_eq (addI_eq dj int_eq)) rfl
      obtain ⟨wj, hwj⟩ : ∃ wj, ws[j.toNat]? = some wj := ⟨_, List.getElem?_eq_getElem (by omega)⟩
      have wjm : wj ∈ ws := List.mem_of_getElem? hwj
      have wjok := wok wj wjm
      have wjw := wt_mem wjm
      have b3 : p2 repL (pLst (aCons (p2 ixQ (pDr (pVar 8)) (pDr (pVar 9))) aNil)) (pInt 2) [some (.ref h), some (.str t), some (.int turn), some (.int at_), some (.str signsS), some (.str ⟨#[g]⟩), some (.lst (ls.map D.str)), some (.int k), some (.lst (ws.map D.str)), some (.int j), some (.lst (oddS.map D.str))] N7 = ⟨True, .lst [.str wj, .str wj]⟩ := by
        refine p2_eq (lst1_eq (p2_eq dw dj (ix_lst (d := .str wj) (by rw [atI_nn j0, List.getElem?_map, hwj]; rfl)))) int_eq ?_
        unfold repL
        exact pv_mk ⟨trivial, trivial, ⟨trivial, trivial⟩, by show -(2 ^ 63 : Int) ≤ 2; decide, by show (2 : Int) < 2 ^ 63; decide, Nat.le_of_ble_eq_true rfl⟩
      have b10 : pVar 10 [some (.ref h), some (.str t), some (.int turn), some (.int at_), some (.str signsS), some (.str ⟨#[g]⟩), some (.lst (ls.map D.str)), some (.int k), some (.lst (ws.map D.str)), some (.int j), some (.lst (oddS.map D.str))] N7 = ⟨True, .lst (oddS.map D.str)⟩ := var_eq rfl
      refine ⟨by rw [b1]; trivial, ?_⟩
      rw [b1]
      refine ⟨by rw [nil_eq]; trivial, ?_⟩
      rw [nil_eq]
      refine ⟨by rw [b3]; trivial, ?_⟩
      rw [b3]
      refine ⟨by rw [b10]; trivial, ?_⟩
      rw [b10]
      refine wn rfl int_eq n7h hd6 (by decide) (by decide) fun r d8 N8 r0 r1 hd8 hN8 k8 => ?_
      have k8 := k7.tr k8
      have rl : r.toNat < oddS.length := by show _ < 17; omega
      obtain ⟨od, hod⟩ : ∃ od, oddS[r.toNat]? = some od := ⟨_, List.getElem?_eq_getElem rl⟩
      obtain ⟨od1, od2⟩ := odd_ok od (List.mem_of_getElem? hod)
      have e9 : ixQ (.lst (oddS.map D.str)) (.int r) = ⟨True, .str od⟩ := ix_lst (by rw [atI_nn r0, List.getElem?_map, hod]; rfl)
      obtain ⟨P, hP, e10⟩ := ix_lists (A := []) (B := [wj, wj]) (C := [od]) (i := turn - 6) (by omega) (by omega)
      have hPf : (∀ p ∈ P, PyData.strOk p = true) ∧ wt P ≤ 2 * (t.length + 1) + 5 := by
        rcases hP with rfl | rfl | rfl
        · exact ⟨fun p hp => (by cases hp), by show 0 ≤ _; omega⟩
        · refine ⟨fun p hp => ?_, ?_⟩
          · have : p = wj := by simpa using hp
            rw [this]; exact wjok.ok
          · rw [show [wj, wj] = [wj] ++ [wj] from rfl, wt_app, wt_one]; omega
        · refine ⟨fun p hp => ?_, by rw [wt_one]; omega⟩
          rw [List.mem_singleton.mp hp]; exact od1
      rw [e9]
      refine ⟨trivial, Nat.le_of_ble_eq_true rfl, Nat.le_of_ble_eq_true rfl, ?_⟩
      have b11 : p2 bSub (pDr (pVar 2)) (pInt 6) [some (.ref h), some (.str t), some (.int turn), some (.int at_), some (.str signsS), some (.str ⟨#[g]⟩), some (.lst (ls.map D.str)), some (.int k), some (.lst (ws.map D.str)), some (.int j), some (.lst (oddS.map D.str))] N8 = ⟨True, .int (turn - 6)⟩ := subE (dv_eq (i := 2) (x := .int turn) rfl rfl) int_eq
      refine ⟨by rw [b11]; trivial, ?_⟩
      rw [b11]
      have e10' : ixQ (.lst [.lst [], .lst [.str wj, .str wj], .lst [.str od]]) (.int (turn - 6)) = ⟨True, .lst (P.map D.str)⟩ := e10
      dsimp only
      rw [e10']
      refine ⟨trivial, ?_⟩
      dsimp only
      have Pl := wt_len (ps := P)
      have c1 : catL (.lst ((ws.take j.toNat).map D.str)) (.lst (P.map D.str)) = ⟨True, .lst ((ws.take j.toNat ++ P).map D.str)⟩ := by
        rw [catL_lst, ← List.map_append]
        exact pv_mk (by rw [List.length_map, List.length_map, List.length_take]; show _ ≤ 16000000; omega)
      rw [c1]
      refine ⟨trivial, ?_⟩
      dsimp only
      refine ⟨by rw [b2]; trivial, ?_⟩
      rw [b2]
      dsimp only
      have c2 : catL (.lst ((ws.take j.toNat ++ P).map D.str)) (.lst ((ws.drop (j + 1).toNat).map D.str)) = ⟨True, .lst ((ws.take j.toNat ++ P ++ ws.drop (j + 1).toNat).map D.str)⟩ := by
        rw [catL_lst, ← List.map_append]
        exact pv_mk (by rw [List.length_map, List.length_map, List.length_append, List.length_take, List.length_drop]; show _ ≤ 16000000; omega)
      rw [c2]
      refine ⟨trivial, ?_⟩
      obtain ⟨W, hW⟩ : ∃ W, W = ws.take j.toNat ++ P ++ ws.drop (j + 1).toNat := ⟨_, rfl⟩
      rw [← hW]
      have Wf : (∀ p ∈ W, PyData.strOk p = true) ∧ wt W ≤ 4 * t.length + 10 := by
        rw [hW]
        refine ⟨fun p hp => ?_, ?_⟩
        · rcases List.mem_append.mp hp with hp | hp
          · rcases List.mem_append.mp hp with hp | hp
            · exact (wok p (List.mem_of_mem_take hp)).ok
            · exact hPf.1 p hp
          · exact (wok p (List.mem_of_mem_drop hp)).ok
        · rw [wt_app, wt_app]
          have x1 : wt (ws.take j.toNat) + wt (ws.drop j.toNat) = wt ws := by rw [← wt_app, List.take_append_drop]
          have x2 : wt (ws.drop (j + 1).toNat) ≤ wt (ws.drop j.toNat) := by
            have : ws.drop (j + 1).toNat = (ws.drop j.toNat).drop 1 := by rw [List.drop_drop]; congr 1; omega
            rw [this]; exact wt_drop
          have := hPf.2
          omega
      show sRet _ _ [some (.ref h), some (.str t), some (.int turn), some (.int at_), some (.str signsS), some (.str ⟨#[g]⟩), some (.lst (ls.map D.str)), some (.int k), some (.lst (W.map D.str)), some (.int j), some (.lst (oddS.map D.str))] N8
      have jl := join_ok (y := " ") (c := 32) rfl (by decide) Wf.1 Wf.2
      have b5 := p2_eq (str_eq (i := " ")) (dv_eq (N := N8) (δ := [some (.ref h), some (.str t), some (.int turn), some (.int at_), some (.str signsS), some (.str ⟨#[g]⟩), some (.lst (ls.map D.str)), some (.int k), some (.lst (W.map D.str)), some (.int j), some (.lst (oddS.map D.str))]) (i := 8) (x := .lst (W.map D.str)) rfl rfl) (joinE (y := " ") (c := 32) rfl Wf.2 (by omega))
      have b6 := ct (ct (a1 (N := N8)) (lst1_eq b5) (tkl _) (B := [Txt.join " " W]) (by show 1 ≤ 1000000; decide)) a2 (by rw [List.length_append, List.length_take]; simp only [List.length_cons, List.length_nil]; omega) (dpl _)
      have Vf : (∀ p ∈ ls.take k.toNat ++ [Txt.join " " W] ++ ls.drop (k + 1).toNat, PyData.strOk p = true) ∧ wt (ls.take k.toNat ++ [Txt.join " " W] ++ ls.drop (k + 1).toNat) ≤ 5 * t.length + 20 := by
        refine ⟨fun p hp => ?_, ?_⟩
        · rcases List.mem_append.mp hp with hp | hp
          · rcases List.mem_append.mp hp with hp | hp
            · exact okl p (List.mem_of_mem_take hp)
            · rw [List.mem_singleton.mp hp]; exact jl.ok
          · exact okl p (List.mem_of_mem_drop hp)
        · rw [wt_app, wt_app, wt_one]
          have x1 : wt (ls.take k.toNat) + wt (ls.drop k.toNat) = wt ls := by rw [← wt_app, List.take_append_drop]
          have x2 : wt (ls.drop (k + 1).toNat) ≤ wt (ls.drop k.toNat) := by
            have : ls.drop (k + 1).toNat = (ls.drop k.toNat).drop 1 := by rw [List.drop_drop]; congr 1; omega
            rw [this]; exact wt_drop
          have := jl.len
          omega
      refine wp_eq (p2_eq (str_eq (i := "\n")) b6 (joinE (c := 10) rfl Vf.2 (by omega))) ?_
      exact q _ d8 N8 (join_ok (c := 10) rfl (by decide) Vf.1 Vf.2) hd8 hN8 k8
end K14
set_option maxHeartbeats 4000000
namespace K14
open PySem L2 DL TL
theorem okD_fr {o : Option Row} : okD 7 (frD o) := by
  cases o with
  | none => trivial
  | some r =>
    show ∀ d ∈ [D.int r.id, D.str (kindS r.live), D.int r.len, moD r.mo], okD 6 d
    intro d hd
    simp at hd
    rcases hd with rfl | rfl | rfl | rfl
    · trivial
    · show PyData.strOk _ = true; cases r.live <;> decide +kernel
    · trivial
    · cases r.mo <;> trivial
theorem okD_frs {os : List (Option Row)} : okD 8 (.lst (os.map frD)) := fun d hd => by
  obtain ⟨o, _, rfl⟩ := List.mem_map.mp hd
  exact okD_fr
theorem eq_frN {o : Option Row} : eqD (frD o) .non = o.isNone := by
  cases o with
  | none => exact eqD_non
  | some r => show eqD (.tup _) .non = false; simp [eqD, toPy, PyData.eqv]
theorem inL_fr {os : List (Option Row)} : inLT .non (.lst (os.map frD)) = ⟨True, os.any fun o => o.isNone⟩ := by
  have e : ∀ os : List (Option Row), inB .non (os.map frD) = os.any fun o => o.isNone := fun os => by
    induction os with
    | nil => rfl
    | cons o os ih =>
      unfold inB at ih ⊢
      rw [List.map_cons, List.any_cons, List.any_cons, ih, eq_frN]
  unfold inLT
  rw [toL_lst, e]
  exact tv_mk ⟨trivial, okD_frs, _, rfl⟩
theorem bad_idx : ∀ (os : List (Option Row)) (n : Nat), badAt n os = ((os.map frD).findIdx? fun z => eqD z .non).map (· + n)
  | [], n => rfl
  | none :: os, n => by
    rw [List.map_cons, List.findIdx?_cons, eq_frN]
    show some n = some (0 + n)
    rw [Nat.zero_add]
  | some r :: os, n => by
    rw [List.map_cons, List.findIdx?_cons, eq_frN]
    show badAt (n + 1) os = Option.map (· + n) (Option.map (· + 1) _)
    rw [bad_idx os (n + 1), Option.map_map]
    congr 1
    funext x
    show x + (n + 1) = x + 1 + n
    omega
theorem bad_ex {os : List (Option Row)} (h : none ∈ os) : ∃ n, badAt 0 os = some n := by
  rw [bad_idx]
  have : ((os.map frD).findIdx? fun z => eqD z .non).isSome = true := by
    rw [List.findIdx?_isSome]
    refine List.any_eq_true.mpr ⟨frD none, List.mem_map.mpr ⟨none, h, rfl⟩, ?_⟩
    exact eqD_non
  obtain ⟨n, hn⟩ := Option.isSome_iff_exists.mp this
  exact ⟨n, by rw [hn]; rfl⟩
theorem idx_fr {os : List (Option Row)} {n : Nat} (h : badAt 0 os = some n) : idxD (.lst (os.map frD)) .non = ⟨True, .int n⟩ := by
  rw [bad_idx] at h
  have e : ((os.map frD).findIdx? fun z => eqD z .non) = some n := by
    cases hf : (os.map frD).findIdx? fun z => eqD z .non with
    | none => rw [hf] at h; cases h
    | some m => rw [hf] at h; exact h
  unfold idxD
  rw [toL_lst, e]
  exact pv_mk ⟨okD_frs, trivial, trivial, rfl⟩
theorem ne_tag {i : Int} : neT 8 (.tup [.str (kN 2), .int i]) (.tup [.str "BadText", .int i]) = ⟨True, false⟩ := by
  have ok : okD 8 (.tup [.str "BadText", .int i]) := by
    intro d hd
    simp only [List.mem_cons, List.not_mem_nil, or_false] at hd
    rcases hd with rfl | rfl
    · show PyData.strOk _ = true; decide +kernel
    · trivial
  show neT 8 (.tup [.str "BadText", .int i]) (.tup [.str "BadText", .int i]) = _
  exact ne_self ok
theorem Pl_fr {o : Option Row} : Pl 5 (frD o) := by
  cases o with
  | none => trivial
  | some r =>
    refine ⟨Nat.le_of_ble_eq_true rfl, fun d hd => ?_⟩
    have hd : d ∈ [D.int r.id, D.str (kindS r.live), D.int r.len, moD r.mo] := hd
    simp at hd
    rcases hd with rfl | rfl | rfl | rfl
    · trivial
    · show PyData.strOk _ = true; cases r.live <;> decide +kernel
    · trivial
    · cases r.mo <;> trivial
theorem Pl_frs {os : List (Option Row)} (h : os.length ≤ 100000) : Pl 6 (.lst (os.map frD)) := ⟨by rw [List.length_map]; exact h, fun d hd => by
  obtain ⟨o, _, rfl⟩ := List.mem_map.mp hd
  exact Pl_fr⟩
def bnd : Nat → Nat
  | 0 => 216
  | n + 1 => 5 * bnd n + 20
abbrev someS : List Str := ["", "\n", "0 clip 1", "0 clip 1 ", " 0 clip 1", "0 clip 0", "0 clip 121", "100 live 1", "0 live 1 900", "0 live 1 899", "0 live 1 0", "0 clip", "0 clip 1 1 1", "0 clip 1\n", "0 clip 1\n0 clip 1", "0 1 clip"]
theorem some_ok : ∀ w ∈ someS, PyData.strOk w = true ∧ w.length ≤ 30000 := by decide +kernel
theorem lfs_strs {ws : List Str} : lfs (ws.map D.str) := lfs_iff.mpr fun d hd => by obtain ⟨w, _, rfl⟩ := List.mem_map.mp hd; trivial
theorem r_law {X : Str → Addr} {T : Addr} (p : Addr) (m : Int) (ns : List Int) (h0 : 0 ≤ m) (h1 : m < MX) (hTp : T ≠ p) : w_law X T { nx := fun _ _ => False, rt := fun d _ => d = .bl true } (none :: some (.ref p) :: List.replicate 7 none) (nmT p T lamq (.lst [.int m, .lst (ns.map .int), .int 0])) := by
  obtain ⟨N0, hN0⟩ : ∃ N0, N0 = nmT p T lamq (.lst [.int m, .lst (ns.map .int), .int 0]) := ⟨_, rfl⟩
  rw [← hN0]
  show w_law X T _ [none, some (.ref p), none, none, none, none, none, none, none] N0
  unfold w_law
  have n0p : N0 p = some ⟨true, .lst [.int m, .lst (ns.map .int), .int 0]⟩ := by rw [hN0]; unfold nmT nm1; rw [updN_ne (Ne.symm hTp), updN_same]
  have n0T : N0 T = some ⟨true, .tab lamq⟩ := by rw [hN0]; exact updN_same
  have n0h : HSt (.lst [.int m, .lst (ns.map .int), .int 0]) := ⟨m, ns, 0, rfl, h0, h1, by decide⟩
  refine st_setM (.lst ((someS.take 9).map D.str)) ⟨⟨⟨trivial, trivial, trivial, trivial, trivial, trivial, trivial, trivial, trivial, trivial⟩, Nat.le_of_ble_eq_true rfl⟩, rfl⟩ trivial fun o ho => ?_
  have hop : o ≠ p := fun z => by rw [z, n0p] at ho; cases ho
  have hoT : o ≠ T := fun z => by rw [z, n0T] at ho; cases ho
  obtain ⟨N1, hN1⟩ : ∃ N1, N1 = updN N0 o ⟨true, .lst ((someS.take 9).map D.str)⟩ := ⟨_, rfl⟩
  rw [← hN1]
  dsimp only [List.set, List.replicate]
  have e2 : p2 catLF (pDr (pVar 2)) (pLst (aCons (pStr "0 live 1 899") (aCons (pStr "0 live 1 0") (aCons (pStr "0 clip") (aCons (pStr "0 clip 1 1 1") (aCons (pStr "0 clip 1\n") (aCons (pStr "0 clip 1\n0 clip 1") aNil))))))) [none, some (.ref p), some (.ref o), none, none, none, none, none, none] N1 = ⟨True, .lst ((someS.take 15).map D.str)⟩ := by
    have v : pDr (pVar 2) [none, some (.ref p), some (.ref o), none, none, none, none, none, none] N1 = ⟨True, .lst ((someS.take 9).map D.str)⟩ := by
      rw [dr_eq (var_eq rfl), drf_ref (by rw [hN1]; exact updN_same)]
    refine p2_eq v (y := .lst (((someS.take 15).drop 9).map D.str)) ?_ ?_
    · unfold pLst aCons aNil
      exact pv_mk ⟨⟨trivial, trivial, trivial, trivial, trivial, trivial, trivial⟩, Nat.le_of_ble_eq_true rfl⟩
    · unfold catLF
      exact pv_mk (x := .lst ((someS.take 15).map D.str)) ⟨trivial, trivial, Nat.le_of_ble_eq_true rfl, lfs_strs, lfs_strs⟩
  refine st_setM (.lst ((someS.take 15).map D.str)) (pv_and e2) trivial fun o2 ho2 => ?_
  have h2p : o2 ≠ p := fun z => by rw [z, hN1, updN_ne (Ne.symm hop), n0p] at ho2; cases ho2
  have h2T : o2 ≠ T := fun z => by rw [z, hN1, updN_ne (Ne.symm hoT), n0T] at ho2; cases ho2
  dsimp only [List.set]
  refine st_app (a := o2) (π := []) (.str "0 1 clip") ⟨trivial, rfl⟩ ⟨rfl, rfl, rfl⟩ updN_same sub_nil (by decide) ?_
  rw [put_nil, updN_twice]
  obtain ⟨N3, hN3⟩ : ∃ N3, N3 = remN (updN N1 o2 ⟨true, .lst ((someS.take 15).map D.str ++ [.str "0 1 clip"])⟩) o2 := ⟨_, rfl⟩
  refine ⟨o2, .lst (someS.map D.str), rfl, updN_same, ?_⟩
  rw [← hN3]
  have n3p : N3 p = some ⟨true, .lst [.int m, .lst (ns.map .int), .int 0]⟩ := by rw [hN3, remN_ne (Ne.symm h2p), updN_ne (Ne.symm h2p), hN1, updN_ne (Ne.symm hop)]; exact n0p
  have n3T : N3 T = some ⟨true, .tab lamq⟩ := by rw [hN3, remN_ne (Ne.symm h2T), updN_ne (Ne.symm h2T), hN1, updN_ne (Ne.symm hoT)]; exact n0T
  dsimp only [List.set]
  clear hN3 hN1 e2 ho ho2
  refine st_for1 ((rng 0 5).map D.int) (by simp! only []; exact ⟨⟨by decide, by decide⟩, rfl⟩) ?_
  refine loopD_rng (fun k δ N => ∃ x3 x4 x5 x6 x7 x8 dd, δ = [none, some (.ref p), some (.lst (someS.map D.str)), x3, x4, x5, x6, x7, x8] ∧ N p = some ⟨true, dd⟩ ∧ HSt dd ∧ N T = some ⟨true, .tab lamq⟩) ⟨_, _, _, _, _, _, _, rfl, n3p, n0h, n3T⟩ ?_ ?_
  · rintro δ N ⟨x3, x4, x5, x6, x7, x8, dd, rfl, _⟩
    exact ⟨trivial, rfl⟩
  rintro k δ N L hk hL ⟨x3, x4, x5, x6, x7, x8, dd, rfl, hNp, hdd, hNT⟩
  refine ⟨by show (3:Nat) < 9; decide, ?_⟩
  refine ⟨rfl, trivial, trivial, trivial, rfl, p, dd, 0, 900, 12, rfl, hNp, hdd, by decide, by decide, by decide, by decide, by decide, fun d2 rs N4 hrs hlen hd2 hk4 hN4 => ⟨rfl, ⟨rs, rfl, hrs, by omega⟩, ?_⟩⟩
  have n4T : N4 T = some ⟨true, .tab lamq⟩ := hk4 T _ hTp hNT
  have ew : (ph_written [dR rs] N4).val = .str (textS rs) := by
    show D.str (textS (toRs (dR rs))) = _
    rw [toRs_dR]
  rw [ew]
  have hrf : ∀ r ∈ rs, TX.RF r := fun r hr => (hrs.rf1 hr).1
  have t0 : SOk (textS rs) (bnd 0) := ⟨TX.text_ok hrf, by have := TX.text_len hrf; show _ ≤ 216; omega⟩
  show sSeq _ _ _ [none, some (.ref p), some (.lst (someS.map D.str)), some (.int (0 + k)), some (.str (textS rs)), x5, x6, x7, x8] N4
  refine ⟨rfl, trivial, rfl, p, 4, d2, rfl, hN4, hd2, by decide, by decide, fun n d3 n0 n1 hd3 => ⟨trivial, by show -(2^62 : Int) ≤ n; omega, by show n < 2^62; omega, ?_⟩⟩
  refine loopD_rng (fun k' δ N => ∃ x5 t dd, δ = [none, some (.ref p), some (.lst (someS.map D.str)), some (.int (0 + k)), some (.str t), x5, x6, x7, x8] ∧ SOk t (bnd k') ∧ N p = some ⟨true, dd⟩ ∧ HSt dd ∧ N T = some ⟨true, .tab lamq⟩) ⟨_, _, _, rfl, t0, updN_same, hd3, by rw [updN_ne hTp]; exact n4T⟩ ?_ ?_
  rotate_left
  · rintro k' δ N L' hk' hL' ⟨x5, t, dd, rfl, ht, hNp, hdd, hNT⟩
    have hk3 : k' = 0 ∨ k' = 1 ∨ k' = 2 := by
      have : n.toNat ≤ 3 := by omega
      have : k' < n.toNat := hk'
      omega
    have hb : bnd k' ≤ 5520 := by rcases hk3 with rfl | rfl | rfl <;> decide
    refine ⟨by show (5:Nat) < 9; decide, ?_⟩
    refine ⟨rfl, rfl, rfl, p, dd, t, rfl, hNp, hdd, ht.mono (by omega), fun t' d' N' ht' hd' hNp' hk' => hL' _ _ ⟨_, t', d', rfl, ht'.mono (by have := ht.len; show _ ≤ 5 * bnd k' + 20; omega), hNp', hd', hk' T _ hTp hNT⟩⟩
  rintro δ N ⟨x5, t, dd, rfl, ht, hNp, hdd, hNT⟩
  have ht3 : SOk t 30000 := ht.mono (by
    have hn : n.toNat = 0 ∨ n.toNat = 1 ∨ n.toNat = 2 ∨ n.toNat = 3 := by omega
    show bnd n.toNat ≤ 30000
    rcases hn with h | h | h | h <;> rw [h] <;> decide)
  -- both texts
  refine ⟨rfl, rfl, rfl, trivial, rfl, p, 16, dd, rfl, hNp, hdd, by decide, by decide, fun r d4 r0 r1 hd4 => ?_⟩
  have rl : r.toNat < someS.length := by show _ < 16; omega
  obtain ⟨od, hod⟩ : ∃ od, someS[r.toNat]? = some od := ⟨_, List.getElem?_eq_getElem rl⟩
  obtain ⟨od1, od2⟩ := some_ok od (List.mem_of_getElem? hod)
  have e9 : ixQ (.lst (someS.map D.str)) (.int r) = ⟨True, .str od⟩ := ix_lst (by rw [atI_nn r0, List.getElem?_map, hod]; rfl)
  have e9' : ixQ (pVar 2 [none, some (.ref p), some (.lst (someS.map D.str)), some (.int (0 + k)), some (.str t), x5, x6, x7, x8] N).val (.int r) = ⟨True, .str od⟩ := e9
  dsimp only
  rw [e9']
  refine ⟨trivial, Nat.le_of_ble_eq_true rfl, trivial, ?_⟩
  show loopD _ _ _ [.str t, .str od] [none, some (.ref p), some (.lst (someS.map D.str)), some (.int (0 + k)), some (.str t), x5, x6, x7, x8] _
  refine loopD_ind (fun items δ N => ∃ x6 x7 x8 dd, δ = [none, some (.ref p), some (.lst (someS.map D.str)), some (.int (0 + k)), some (.str t), x5, x6, x7, x8] ∧ (∀ x ∈ items, ∃ s, x = .str s ∧ SOk s 30000) ∧ N p = some ⟨true, dd⟩ ∧ HSt dd ∧ N T = some ⟨true, .tab lamq⟩) ⟨_, _, _, d4, rfl, fun x hx => ?_, updN_same, hd4, by rw [updN_ne hTp]; exact hNT⟩ ?_ ?_
  · simp only [List.mem_cons, List.not_mem_nil, or_false] at hx
    rcases hx with rfl | rfl
    · exact ⟨t, rfl, ht3⟩
    · exact ⟨od, rfl, od1, od2⟩
  · rintro δ N ⟨x6, x7, x8, dd, rfl, _, h1, h2, h3⟩
    exact hL _ _ ⟨_, _, _, _, _, _, dd, rfl, h1, h2, h3⟩
  rintro x items δ N L' hL' ⟨x6, x7, x8, dd, rfl, hit, hNp, hdd, hNT⟩
  obtain ⟨s, rfl, hs⟩ := hit x (by simp)
  have hs1 := hs.mono (show 30000 ≤ 100000 by decide)
  refine ⟨by show (6:Nat) < 9; decide, ?_⟩
  show sSeq _ _ _ [none, some (.ref p), some (.lst (someS.map D.str)), some (.int (0 + k)), some (.str t), x5, some (.str s), x7, x8] N
  have nxt : ∀ x7 N', N' p = some ⟨true, dd⟩ → N' T = some ⟨true, .tab lamq⟩ → L' [none, some (.ref p), some (.lst (someS.map D.str)), some (.int (0 + k)), some (.str t), x5, some (.str s), x7, x8] N' := fun x7 N' z1 z2 => hL' _ _ ⟨_, _, _, dd, rfl, fun y hy => hit y (by simp [hy]), z1, hdd, z2⟩
  have d6 : ∀ {x7 x8 N}, pDr (pVar 6) [none, some (.ref p), some (.lst (someS.map D.str)), some (.int (0 + k)), some (.str t), x5, some (.str s), x7, x8] N = ⟨True, .str s⟩ := fun {x7 x8 N} => dv_eq (i := 6) (x := .str s) rfl rfl
  have ll : (linesO s).length ≤ 30001 := by rw [lines_lns, List.length_map]; exact (lns_ok hs).2
  have e7 : pIf (tc2 (neT 8) (pDr (pVar 6)) (pStr "")) (pLc (iL (p2 splitD (pDr (pVar 6)) (pStr "\n"))) (gN 8) tYesF (pCall 1 ph_law_row (aCons (pDr (pVar 8)) aNil)) [8]) (pLst aNil) [none, some (.ref p), some (.lst (someS.map D.str)), some (.int (0 + k)), some (.str t), x5, some (.str s), x7, x8] N = ⟨True, .lst ((linesO s).map frD)⟩ := by
    have ne : neT 8 (.str s) (.str "") = ⟨True, !decide (s = "")⟩ := by
      rw [ne_b (x := .str s) (y := .str "") hs.ok (by show PyData.strOk _ = true; decide +kernel), eqD_str]
    by_cases e : s = ""
    · rw [decide_eq_true e] at ne
      have : linesO s = [] := by unfold linesO; rw [if_pos e]
      rw [this]
      exact pif_F (tc2_eq d6 str_eq ne) nil_eq
    · rw [decide_eq_false e] at ne
      have el : linesO s = (Txt.split s "\n").map fun l => rowO (Txt.split l " ") := by unfold linesO; rw [if_neg e]
      have hok := (sp_nl (s := s)).sok hs1
      have h := lc_eq (δ := [none, some (.ref p), some (.lst (someS.map D.str)), some (.int (0 + k)), some (.str t), x5, some (.str s), x7, x8]) (N := N) (vs := [8]) (k := D.str) (p := fun _ => true) (g := fun l => frD (rowO (Txt.split l " "))) (xs := Txt.split s "\n") (G := gN 8) (ft := tYesF) (fe := pCall 1 ph_law_row (aCons (pDr (pVar 8)) aNil)) (p2_eq d6 str_eq (spE hs1.len rfl)) (by have := (sp_nl (s := s)).len; have := hs.len; show _ ≤ 16000000; omega) fun l hl => ⟨by show (8:Nat) < 9; decide, rfl, fun _ => lrowE (dv_eq (i := 8) (x := .str l) rfl rfl) (hok l hl)⟩
      rw [List.filter_eq_self.mpr fun _ _ => rfl] at h
      refine pif_T (tc2_eq d6 str_eq ne) (h.trans ?_)
      rw [el, List.map_map]; rfl
  refine st_set _ (pv_and e7) rfl ?_
  dsimp only [List.set]
  have d7 : ∀ {N}, pDr (pVar 7) [none, some (.ref p), some (.lst (someS.map D.str)), some (.int (0 + k)), some (.str t), x5, some (.str s), some (.lst ((linesO s).map frD)), x8] N = ⟨True, .lst ((linesO s).map frD)⟩ := fun {N} => dv_eq (i := 7) (x := .lst ((linesO s).map frD)) rfl rfl
  have T1 : tc2 inLT pNon (pDr (pVar 7)) [none, some (.ref p), some (.lst (someS.map D.str)), some (.int (0 + k)), some (.str t), x5, some (.str s), some (.lst ((linesO s).map frD)), x8] N = ⟨True, (linesO s).any fun o => o.isNone⟩ := tc2_eq (f := pNon) rfl d7 inL_fr
  by_cases hno : none ∈ linesO s
  · rw [show ((linesO s).any fun o => o.isNone) = true from List.any_eq_true.mpr ⟨none, hno, rfl⟩] at T1
    refine st_ifT1 (tv_and T1) ?_
    obtain ⟨i, hi⟩ := bad_ex hno
    refine ⟨hNT, rfl, rfl, s, rfl, hs1, fun z => (by rw [hi] at z; cases z), fun j hj N' ex => ?_⟩
    rw [hi] at hj
    cases hj
    refine ⟨_, .inr ⟨2, i, by decide, rfl, rfl, rfl⟩, ?_⟩
    have ez : pTup (aCons (pStr "BadText") (aCons (p2 idxD (pDr (pVar 7)) pNon) aNil)) [none, some (.ref p), some (.lst (someS.map D.str)), some (.int (0 + k)), some (.str t), x5, some (.str s), some (.lst ((linesO s).map frD)), x8] N' = ⟨True, .tup [.str "BadText", .int i]⟩ := tup2_eq str_eq (p2_eq d7 (g := pNon) rfl (idx_fr hi))
    refine ⟨by rw [ez]; trivial, ?_⟩
    rw [ez]
    dsimp only
    rw [ne_tag]
    exact ⟨trivial, (if_neg Bool.false_ne_true).mpr (nxt _ N' (ex _ _ hNp) (ex _ _ hNT))⟩
  · rw [show ((linesO s).any fun o => o.isNone) = false from List.any_eq_false.mpr fun o ho z => hno (by cases o with | none => exact ho | some r => cases z)] at T1
    refine st_ifE1 (tv_and T1) ?_
    have hb := bad_none (os := linesO s) (n := 0) fun o ho z => hno (z ▸ ho)
    refine ⟨rfl, rfl, s, rfl, hs1, fun _ N' ex => ?_, fun j hj => by rw [hb] at hj; cases hj⟩
    refine ⟨rfl, rfl, ⟨.lst ((linesO s).map frD), rfl, Pl_frs (by omega)⟩, trivial, ?_⟩
    exact (if_neg Bool.false_ne_true).mpr (nxt _ N' (ex _ _ hNp) (ex _ _ hNT))
end K14
set_option maxHeartbeats 0
namespace K14
open PySem L2 DL
section
variable {P : Program} {w : World} {K : PySem.W.Frag} {mg : Str → Option Value} {base : Heap}
variable {C_X : Str → Addr}
theorem has_BadText_init (B : Bi mg) (G : Fs K mg C_X) (O_X : Co_X K mg C_X) : ExV P w K mg base "BadText" (C_X "BadText") "line" := by
  obtain ⟨f, fd, F, M⟩ := G.f_BadText_init
  exact exv_of F M O_X.gl_BadText O_X.v_BadText sc_BadText_init rfl (F.binds fun _ _ _ _ _ _ us hl => match us, hl with | [_, _], _ => rfl) fun cdv A outer s H E => pss_cons (ps_expr (pe_ownveinit O_X.own (pe_glob (v := .ref (C_X "AirError")) (by rfl) O_X.g_AirError rfl) (pa_cons (pv 0) (pa_cons (pv 1) pa_nil)))) (pss_one (ps_ost (pv 0) (pv 1)))
theorem has_is_number (B : Bi mg) (G : Fs K mg C_X) (O_X : Co_X K mg C_X) : Has P w K mg base "is_number" 1 ["part", "low", "high"] (spP 3 ph_is_number) := by
  obtain ⟨f, fd, F, m⟩ := G.f_is_number
  exact ⟨f, fd, fn_pure F sc_is_number rfl (by decide) fun cdv A outer s H E hr => ⟨w_is_number, d_is_number B hr O_X, r_is_number⟩, m, F.kp, F.binds fun _ _ _ _ _ _ us hl => match us, hl with | [_, _, _], _ => rfl⟩
theorem has_is_row (B : Bi mg) (G : Fs K mg C_X) (O_X : Co_X K mg C_X) : Has P w K mg base "is_row" 2 ["row"] (spP 1 ph_is_row) := by
  obtain ⟨f, fd, F, m⟩ := G.f_is_row
  exact ⟨f, fd, fn_pure F sc_is_row rfl (by decide) fun cdv A outer s H E hr => ⟨w_is_row, d_is_row B hr O_X (has_is_number B G O_X), r_is_row⟩, m, F.kp, F.binds fun _ _ _ _ _ _ us hl => match us, hl with | [_], _ => rfl⟩
theorem has_need_rows (B : Bi mg) (G : Fs K mg C_X) (O_X : Co_X K mg C_X) : Has P w K mg base "need_rows" 3 ["rows", "begin", "end"] (spP 3 ph_need_rows) := by
  obtain ⟨f, fd, F, m⟩ := G.f_need_rows
  exact ⟨f, fd, fn_pure F sc_need_rows rfl (by decide) fun cdv A outer s H E hr => ⟨w_need_rows, d_need_rows B hr O_X (has_is_row B G O_X), r_need_rows⟩, m, F.kp, F.binds fun _ _ _ _ _ _ us hl => match us, hl with | [_, _, _], _ => rfl⟩
theorem has_written (B : Bi mg) (G : Fs K mg C_X) (O_X : Co_X K mg C_X) : Has P w K mg base "written" 4 ["rows"] (spP 1 ph_written) := by
  obtain ⟨f, fd, F, m⟩ := G.f_written
  exact ⟨f, fd, fn_pure F sc_written rfl (by decide) fun cdv A outer s H E hr => ⟨w_written, d_written B hr O_X (has_need_rows B G O_X), r_written⟩, m, F.kp, F.binds fun _ _ _ _ _ _ us hl => match us, hl with | [_], _ => rfl⟩
theorem has_number_of (B : Bi mg) (G : Fs K mg C_X) (O_X : Co_X K mg C_X) : Has P w K mg base "number_of" 1 ["word"] (spP 1 ph_number_of) := by
  obtain ⟨f, fd, F, m⟩ := G.f_number_of
  exact ⟨f, fd, fn_pure F sc_number_of rfl (by decide) fun cdv A outer s H E hr => ⟨w_number_of, d_number_of B hr O_X, r_number_of⟩, m, F.kp, F.binds fun _ _ _ _ _ _ us hl => match us, hl with | [_], _ => rfl⟩
theorem has_row_of (B : Bi mg) (G : Fs K mg C_X) (O_X : Co_X K mg C_X) : Has P w K mg base "row_of" 3 ["words"] (spP 1 ph_row_of) := by
  obtain ⟨f, fd, F, m⟩ := G.f_row_of
  exact ⟨f, fd, fn_pure F sc_row_of rfl (by decide) fun cdv A outer s H E hr => ⟨w_row_of, d_row_of B hr O_X (has_number_of B G O_X) (has_is_row B G O_X), r_row_of⟩, m, F.kp, F.binds fun _ _ _ _ _ _ us hl => match us, hl with | [_], _ => rfl⟩
theorem has_read (B : Bi mg) (G : Fs K mg C_X) (O_X : Co_X K mg C_X) : Has P w K mg base "read" 4 ["text"] (spM 1 (sp_read C_X)) := by
  obtain ⟨f, fd, F, m⟩ := G.f_read
  exact ⟨f, fd, fn_mut F sc_read rfl (by decide) fun cdv A outer s H E hr => ⟨w_read C_X, d_read B hr O_X (has_row_of B G O_X) (has_BadText_init B G O_X), r_read⟩, m, F.kp, F.binds fun _ _ _ _ _ _ us hl => match us, hl with | [_], _ => rfl⟩
theorem has_law_next (B : Bi mg) (G : Fs K mg C_X) (O_X : Co_X K mg C_X) : Has P w K mg base "_law_next" 1 ["_law_h", "_law_many"] (spM 2 sp_law_next) := by
  obtain ⟨f, fd, F, m⟩ := G.f_law_next
  exact ⟨f, fd, fn_mut F sc_law_next rfl (by decide) fun cdv A outer s H E hr => ⟨w_law_next, d_law_next B hr O_X, r_law_next⟩, m, F.kp, F.binds fun _ _ _ _ _ _ us hl => match us, hl with | [_, _], _ => rfl⟩
theorem hasr_law_alike (B : Bi mg) (G : Fs K mg C_X) (O_X : Co_X K mg C_X) : ∀ n, Has P w K mg base "_law_alike" n ["_law_found", "_law_due"] (spP 2 (phr_law_alike n))
  | 0 => by
    obtain ⟨f, fd, F, m⟩ := G.f_law_alike
    exact ⟨f, fd, ⟨fun vs H Q E h => (by obtain ⟨ds, M, fps, rl, _, hl, ok, _⟩ := h; exact ok.elim), fun A outer s H args us vs Q E _ _ _ _ h => (by obtain ⟨ds, M, fps, rl, _, hl, ok, _⟩ := h; exact ok.elim)⟩, m, F.kp, F.binds fun _ _ _ _ _ _ us hl => match us, hl with | [_, _], _ => rfl⟩
  | n + 1 => by
    obtain ⟨f, fd, F, m⟩ := G.f_law_alike
    have ih : Has P w K mg base "_law_alike" n ["_law_found", "_law_due"] (spP 2 (phr_law_alike n)) := hasr_law_alike B G O_X n
    exact ⟨f, fd, fn_pure F sc_law_alike rfl (by decide) fun cdv A outer s H E hr => ⟨w_law_alike n, d_law_alike B hr O_X ih, r_law_alike n⟩, m, F.kp, F.binds fun _ _ _ _ _ _ us hl => match us, hl with | [_, _], _ => rfl⟩
theorem has_law_alike (B : Bi mg) (G : Fs K mg C_X) (O_X : Co_X K mg C_X) : Has P w K mg base "_law_alike" 6 ["_law_found", "_law_due"] (spP 2 ph_law_alike) := hasr_law_alike B G O_X 6
theorem has_law_rows (B : Bi mg) (G : Fs K mg C_X) (O_X : Co_X K mg C_X) : Has P w K mg base "_law_rows" 2 ["_law_h", "_law_begin", "_law_end", "_law_most"] (spM 4 sp_law_rows) := by
  obtain ⟨f, fd, F, m⟩ := G.f_law_rows
  exact ⟨f, fd, fn_mut F sc_law_rows rfl (by decide) fun cdv A outer s H E hr => ⟨w_law_rows, d_law_rows B hr O_X (has_law_next B G O_X), r_law_rows⟩, m, F.kp, F.binds fun _ _ _ _ _ _ us hl => match us, hl with | [_, _, _, _], _ => rfl⟩
theorem has_law_kind (B : Bi mg) (G : Fs K mg C_X) (KV : KFacts1 K mg C_X) : HasK K mg "_law_kind" "_law_work" (KD1 C_X) := by
  have KF := KV.kf
  obtain ⟨f, fd, F, m⟩ := G.f_law_kind
  refine ⟨s_law_kind, n_law_kind, f, fd, F, m, F.binds fun _ _ _ _ _ _ us hl => match us, hl with | [_], _ => rfl, sc_law_kind, rfl, .inl rfl, fun X n cdv q eK em hr => ?_⟩
  subst eK em
  exact kind_gives1 (CX := C_X) sc_law_kind.nd rfl rfl rfl rfl (by decide) KF.air (fun z dk h => kd1_ok KF h) (fun z dk h s H H1 a oe pn d hz hf her => by
    rcases h with ⟨h1, j, h2, h3, h4, rfl⟩ | ⟨j, i, h2, h4, h1, rfl⟩
    · rw [h4] at hz
      obtain rfl : d = none := by have z := her.2; rw [h1] at z; exact z
      rw [h1]
      exact ⟨_, d_law_kind h3 B KF hz hf (by have := hr.un; show X.A.units + 3 + 65 < cLine; omega), r_kind h2 h3⟩
    · rw [h4] at hz
      obtain ⟨dd, rfl, _⟩ : ∃ dd, d = some dd ∧ H1 dd = some (.xd [(kF j, .int i)]) := by have z := her.2; rw [h1] at z; exact z
      rw [h1]
      exact ⟨_, d_law_kindV h2 (by omega) B KV KF hz hf (by have := hr.un; show X.A.units + 3 + 65 < cLine; omega), r_kindV h2⟩) (fun env => by rfl)
theorem has_law_figures (B : Bi mg) (G : Fs K mg C_X) (O_X : Co_X K mg C_X) : Has P w K mg base "_law_figures" 1 ["_law_word", "_law_low", "_law_high"] (spP 3 ph_law_figures) := by
  obtain ⟨f, fd, F, m⟩ := G.f_law_figures
  exact ⟨f, fd, fn_pure F sc_law_figures rfl (by decide) fun cdv A outer s H E hr => ⟨w_law_figures, d_law_figures B hr O_X, r_law_figures⟩, m, F.kp, F.binds fun _ _ _ _ _ _ us hl => match us, hl with | [_, _, _], _ => rfl⟩
theorem has_law_row (B : Bi mg) (G : Fs K mg C_X) (O_X : Co_X K mg C_X) : Has P w K mg base "_law_row" 2 ["_law_line"] (spP 1 ph_law_row) := by
  obtain ⟨f, fd, F, m⟩ := G.f_law_row
  exact ⟨f, fd, fn_pure F sc_law_row rfl (by decide) fun cdv A outer s H E hr => ⟨w_law_row, d_law_row B hr O_X (has_law_figures B G O_X), r_law_row⟩, m, F.kp, F.binds fun _ _ _ _ _ _ us hl => match us, hl with | [_], _ => rfl⟩
theorem has_law_spoilt (B : Bi mg) (G : Fs K mg C_X) (O_X : Co_X K mg C_X) : Has P w K mg base "_law_spoilt" 2 ["_law_h", "_law_text"] (spM 2 sp_law_spoilt) := by
  obtain ⟨f, fd, F, m⟩ := G.f_law_spoilt
  exact ⟨f, fd, fn_mut F sc_law_spoilt rfl (by decide) fun cdv A outer s H E hr => ⟨w_law_spoilt, d_law_spoilt B hr O_X (has_law_next B G O_X), r_law_spoilt⟩, m, F.kp, F.binds fun _ _ _ _ _ _ us hl => match us, hl with | [_, _], _ => rfl⟩
theorem has_law_mix (B : Bi mg) (G : Fs K mg C_X) : Has P w K mg base "_law_mix" 1 ["_law_script", "_law_seed"] (spMix K) := by
  obtain ⟨f, fd, F, m⟩ := G.f_law_mix
  exact has_law_mix0 B F m
theorem fn_law (B : Bi mg) (G : Fs K mg C_X) (O_X : Co_X K mg C_X) (KV : KFacts1 K mg C_X) {f c0 T0 : Addr} {fd : FuncData} (TB : LamX.TabB base mg c0 T0) (F : L2.Fun K "law" "law" s_law f fd) (hcode : fd.code = .ref c0) : FnOk P w K mg base (L2.CX P w) 7 f fd ["_law_script"] (spLawT K T0) :=
  okXC F sc_law (fun vs H Q E h => (by obtain ⟨a, ns, rfl, _⟩ := h; rfl)) (fun cdv ecd A outer s H vs Q E hr h => ⟨_, d_law B hr O_X (has_law_mix B G) (has_written B G O_X) (has_law_rows B G O_X) (has_law_next B G O_X) (has_law_spoilt B G O_X) (has_law_row B G O_X) (has_law_kind B G KV) (has_law_alike B G O_X) (has_read B G O_X) TB (ecd.symm.trans hcode), (by
    obtain ⟨a, ns, rfl, hs, hT, q⟩ := h
    exact ⟨_, rfl, a, ns, 47, rfl, by decide, by decide, hs, fun m' p qq g0 g1 hne hq hp => mix_toT (n := 7) hq hp hne hT (fun hTp => r_law p m' ns g0 g1 hTp) (fun H' => q H')⟩)⟩)
end
section
variable {K : PySem.W.Frag} {h : Heap} {mg : Str → Option Value}
theorem bi_ok (X : K.In h) (G : h.Ns mainGlobals mg) (c : He.SaysE fas fns K) : Bi mg := ⟨He.free_ok X G (c.fact 34 (f := .free "ValueError") rfl), He.free_ok X G (c.fact 35 (f := .free "bool") rfl), He.free_ok X G (c.fact 36 (f := .free "enumerate") rfl), He.free_ok X G (c.fact 37 (f := .free "int") rfl), He.free_ok X G (c.fact 38 (f := .free "isinstance") rfl), He.free_ok X G (c.fact 39 (f := .free "len") rfl), He.free_ok X G (c.fact 40 (f := .free "list") rfl), He.free_ok X G (c.fact 41 (f := .free "max") rfl), He.free_ok X G (c.fact 42 (f := .free "range") rfl), He.free_ok X G (c.fact 43 (f := .free "set") rfl), He.free_ok X G (c.fact 44 (f := .free "sorted") rfl), He.free_ok X G (c.fact 45 (f := .free "str") rfl), He.free_ok X G (c.fact 46 (f := .free "tuple") rfl), He.str_ok X G (c.fact 47 (f := .str "CLIP" "clip") rfl), He.str_ok X G (c.fact 48 (f := .str "FIGURES" "0123456789") rfl), He.int_ok X G (c.fact 49 (f := .int "LAST_MOMENT" (899)) rfl), He.str_ok X G (c.fact 50 (f := .str "LIVE" "live") rfl), He.int_ok X G (c.fact 51 (f := .int "MOST_END" (900)) rfl), He.int_ok X G (c.fact 52 (f := .int "MOST_FIGURES" (3)) rfl), He.int_ok X G (c.fact 53 (f := .int "MOST_ID" (99)) rfl), He.int_ok X G (c.fact 54 (f := .int "MOST_LENGTH" (120)) rfl), He.int_ok X G (c.fact 55 (f := .int "MOST_ROWS" (30)) rfl)⟩
theorem fun_ok {x : Str} {st : Stmt} (c : He.SaysE fas fns K) (X : K.In h) (G : h.Ns mainGlobals mg) {i j k : Nat} (hd : fns[i]? = some ⟨(x, none), x, x, defArgs st, defBody st, defScope st⟩) (hg : fas[j]? = some (.glo x)) (hk : fas[k]? = some (.keep x)) :
    ∃ f fd, L2.Fun K x x st f fd ∧ mg x = some (.ref f) := by
  obtain ⟨oc, od, osl, kV, doc, pm, an, cdv, ct, lk, cd⟩ := c.def_ i hd
  exact ⟨_, _, L2.fun_mk lk cd (He.keep_ok (c.fact k hk)), He.glo_ok X G (c.fact j hg)⟩
theorem meth_ok_ {C m q : Str} {st : Stmt} (c : He.SaysE fas fns K) {i k : Nat} (hd : fns[i]? = some ⟨(C, some m), m, q, defArgs st, defBody st, defScope st⟩) (hk : fas[k]? = some (.meth C m)) :
    ∃ f fd, L2.Fun K m q st f fd ∧ L2.Meth K (He.ga K C) m f := by
  obtain ⟨oc, od, osl, kV, doc, pm, an, cdv, ct, lk, cd⟩ := c.def_ i hd
  have M := He.meth_ok (c.fact k hk)
  exact ⟨_, _, L2.fun_mk lk cd M.kp, M⟩
theorem xm_AirError (c : He.SaysE fas fns K) : ∀ s ∈ xNames, PySem.W.exmOne K (.ref (He.ga K s)) (.ref (He.ga K "AirError")) = some true := by
  intro s hs
  cases hs
theorem co_ok_X (X : K.In h) (G : h.Ns mainGlobals mg) (c : He.SaysE fas fns K) (KV : KFacts1 K mg (He.ga K)) : Co_X K mg (He.ga K) := ⟨He.glo_ok X G (c.fact 32 (f := .glo "AirError") rfl), fun s hs => xm_AirError c s hs, KV.own, KV.kf.glo 2 (by decide), KV.vx 2 (by decide)⟩
theorem fs_ok (X : K.In h) (G : h.Ns mainGlobals mg) (c : He.SaysE fas fns K) : Fs K mg (He.ga K) := ⟨meth_ok_ c (i := 16) (k := 33) rfl rfl, fun_ok c X G (i := 0) (j := 0) (k := 16) rfl rfl rfl, fun_ok c X G (i := 1) (j := 1) (k := 17) rfl rfl rfl, fun_ok c X G (i := 2) (j := 2) (k := 18) rfl rfl rfl, fun_ok c X G (i := 3) (j := 3) (k := 19) rfl rfl rfl, fun_ok c X G (i := 4) (j := 4) (k := 20) rfl rfl rfl, fun_ok c X G (i := 5) (j := 5) (k := 21) rfl rfl rfl, fun_ok c X G (i := 6) (j := 6) (k := 22) rfl rfl rfl, fun_ok c X G (i := 7) (j := 7) (k := 23) rfl rfl rfl, fun_ok c X G (i := 8) (j := 8) (k := 24) rfl rfl rfl, fun_ok c X G (i := 9) (j := 9) (k := 25) rfl rfl rfl, fun_ok c X G (i := 10) (j := 10) (k := 26) rfl rfl rfl, fun_ok c X G (i := 11) (j := 11) (k := 27) rfl rfl rfl, fun_ok c X G (i := 12) (j := 12) (k := 28) rfl rfl rfl, fun_ok c X G (i := 13) (j := 13) (k := 29) rfl rfl rfl, fun_ok c X G (i := 14) (j := 14) (k := 30) rfl rfl rfl, fun_ok c X G (i := 15) (j := 15) (k := 31) rfl rfl rfl⟩
end
end K14
open PySem PySem.W PySem.Calls PyProof.Rows
theorem PySem.Challenge.cw_airtime_k14_texts_refused_holds : PySem.Challenge.rw_airtime_k14_texts_refused.Holds := by
  w_on; o_law
  refine HandSHeadRun.head_any (r := OpenLaw.row PySem.Challenge.rw_airtime_k14_texts_refused) (q := view (OpenLaw.row PySem.Challenge.rw_airtime_k14_texts_refused).prog [42]) (H := K14.hk) (ob := K14.ob) (M := 20000) (loose := K14.loose) (d := HandSHeadRun.topDef (OpenLaw.row PySem.Challenge.rw_airtime_k14_texts_refused).prog 42) (kwd := []) K14.ob_eq
    (by kernel_rfl) (fun s => by kernel_rfl) K14.run (by kernel_rfl) (by kernel_rfl) (by kernel_rfl) (by rfl) (by first | assumption | decide +kernel) (by decide +kernel) ⟨rfl, rfl, rfl, rfl, rfl, by decide +kernel⟩ ?hw ?hc
  case hw => w_witness2
  case hc =>
    refine DL.walk_tb (l := PySem.Challenge.rw_airtime_k14_texts_refused) (n := 63) (k := 7) (x := "_law_script") (CX := L2.CX0) rfl (by decide) (by kernel_rfl) ⟨rfl, by decide, by decide⟩ ?F (fun _ _ _ _ z => z)
    intro w mg fa h Y G hmg0
    obtain ⟨K, Z⟩ := Y
    have KX := Z.kin
    have c := Z.says
    have KV := DL.kfacts1_ok KX G Z.ext
    obtain ⟨c0, T0, t1, t2, t3, t4⟩ := Z.tb
    have hmg : mg ("law" : PySem.Str) = some (.ref fa) := by
      have e : (HandSHeadRun.topDef (OpenLaw.row PySem.Challenge.rw_airtime_k14_texts_refused).prog 42).name = ("law" : PySem.Str) := by kernel_rfl
      rw [← e]; exact hmg0
    have FS := K14.fs_ok KX G c
    obtain ⟨f, fd, F, m⟩ := FS.f_law
    have e : f = fa := by rw [hmg] at m; cases m; rfl
    subst e
    have hcode : fd.code = .ref c0 := by
      obtain ⟨oc, od, kV, doc, pm, an, cdv, ct, osl, rfl, lk, hcd⟩ := F.ex
      exact DL.code_of (st := K14.s_law) (g := 0) (cdv := cdv) KX G t1 hmg lk
    exact ⟨K, fd, c0, T0, DL.spLawT K T0, KX, t3, t4, codeHd_of_K KX t2, DL.law_binds F fun _ _ _ _ _ _ u => rfl, fun H a ns hT hS => ⟨a, ns, rfl, hS, hT, fun _ => rfl⟩, fun base _ _ TB => DL.law_cx0T (K14.fn_law (K14.bi_ok KX G c) FS (K14.co_ok_X KX G c KV) KV TB F hcode)⟩
