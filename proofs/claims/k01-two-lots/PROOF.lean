import PyProof.Rows.All
import Wide.All
import OpenK.AllK
import Wide.FinOn
import KE.KStateDown
import Lean
import HandS.Base
import HandS.Call
import HandS.List
import HandS.Comp
import HandS.Ends
import HandS.Words
import HandS.Wide
import HandS.IsInst
import HandS.Strs
import HandS.Flow
import HandS.Defaults
import HandS.Exc
import HandS.Deep
import HandS.TupAny
import HandS.Style
import HandS.SortInts
import HandS.RaiseMore
import HandS.Codes
import HandS.SetFor
import HandS.Conv
import PyProof.ReprReads
import HandS.Iter
import HandS.Zip
import HandS.Dict
import HandS.TupSets
import HandS.More
import HandS.WordsExc
import HandS.Head0
import HandS.Head1
import HandS.Head2
import HandS.HeadEnd
import HandS.HeadHook1
import HandS.HeadHook2
import HandS.WideBits
import KE.BitLaws
import PySem.Challenge.RW_oneaxis_k01_whole_two_lots
set_option Elab.async false
set_option linter.all false
set_option maxRecDepth 100000
set_option maxHeartbeats 0
set_option exponentiation.threshold 5000
namespace Dv
open PySem PySem.Spec PyProof.Rows L2
abbrev St := L2.St
inductive D where
  | non
  | bl (b : Bool)
  | int (i : Int)
  | str (x : Str)
  | tup (xs : List D)
  | lst (xs : List D)
  | dct (ks vs : List D)
  | set (xs : List D)
  | obj (c : Str) (ns : List Str) (xs : List D)
  | ref (a : Addr)
structure Gp where
  K : PySem.W.Frag
  mg : Str → Option Value
  P : Program
  w : World
abbrev Gx (X : Cx) : Gp := ⟨X.K, X.mg, X.prog, X.w⟩
def keyD : Key → D
  | .inl i => .int i
  | .inr x => .str x
def TupV (K : PySem.W.Frag) (H : Hp) (a : Addr) (vs : List V) : Prop :=
  (∃ o, H a = some (.frz o (.tup vs)) ∧ o.dict = none) ∨
    ∃ (o : Obj) (its : Array Value) (n : Nat), K.lookup a = some o ∧ o.cls = .type "tuple" ∧ o.dict = none ∧ o.data = .seq its n ∧ its.size ≤ sizeLine ∧ Vals vs its.toList
theorem TupV.sq {K : PySem.W.Frag} {H : Hp} {a : Addr} {vs : List V} (h : TupV K H a vs) : SqT K H a vs := by
  rcases h with ⟨o, h, _⟩ | ⟨o, its, n, h1, h2, _, h3, h4, h5⟩
  · exact .inl (.inr ⟨o, h⟩)
  · exact .inr ⟨o, its, n, h1, h2, h3, h4, h5⟩
theorem TupV.mono {K : PySem.W.Frag} {H H' : Hp} {a : Addr} {vs : List V} (e : Same H H') (h : TupV K H a vs) : TupV K H' a vs := by
  rcases h with ⟨o, h, d⟩ | h
  · exact .inl ⟨o, e _ _ h, d⟩
  · exact .inr h
mutual
inductive RD (G : Gp) (H : Hp) : V → D → Prop
  | non : RD G H .non .non
  | bl (b : Bool) : RD G H (.bl b) (.bl b)
  | int (i : Int) : RD G H (.int i) (.int i)
  | str (x : Str) : RD G H (.str x) (.str x)
  | ref (a : Addr) : RD G H (.ref a) (.ref a)
  | lst {a : Addr} {vs : List V} {ds : List D} : SqL G.K H a vs → RDs G H vs ds → RD G H (.ref a) (.lst ds)
  | tup {a : Addr} {vs : List V} {ds : List D} : TupV G.K H a vs → RDs G H vs ds → RD G H (.ref a) (.tup ds)
  | dct {a : Addr} {kvs : List (Key × V)} {ds : List D} : H a = some (.dK kvs) → RDs G H (kvs.map (·.2)) ds → RD G H (.ref a) (.dct (kvs.map fun p => keyD p.1) ds)
  | dctT {a : Addr} {kvs : List (List Key × V)} {ds : List D} : H a = some (.dT kvs) → RDs G H (kvs.map (·.2)) ds → RD G H (.ref a) (.dct (kvs.map fun p => .tup (p.1.map keyD)) ds)
  | set {a : Addr} {S : Int → Bool} {n : Nat} {ns : List Int} : H a = some (SetO G.w a S n) → ns.Pairwise (· < ·) → (∀ k, S k = true ↔ k ∈ ns) → ns.length = n → RD G H (.ref a) (.set (ns.map .int))
  | obj {a C dx : Addr} {fs : List (Str × V)} {c : Str} {ds : List D} : H a = some (.ins C dx fs) → G.mg c = some (.ref C) → RDs G H (fs.map (·.2)) ds → RD G H (.ref a) (.obj c (fs.map (·.1)) ds)
inductive RDs (G : Gp) (H : Hp) : List V → List D → Prop
  | nil : RDs G H [] []
  | cons {v : V} {vs : List V} {d : D} {ds : List D} : RD G H v d → RDs G H vs ds → RDs G H (v :: vs) (d :: ds)
end
theorem Same.rd {H H' : Hp} {a : Addr} {u : HO} (e : Same H H') (h : Rd H a u) : Rd H' a u := by
  rcases h with h | ⟨o, h⟩
  · exact .inl (e a _ h)
  · exact .inr ⟨o, e a _ h⟩
theorem Same.tupq {K : PySem.W.Frag} {H H' : Hp} {a : Addr} {xs : List V} (e : Same H H') (h : SqT K H a xs) : SqT K H' a xs := by
  rcases h with h | h
  · exact .inl (Same.rd e h)
  · exact .inr h
mutual
theorem RD.mono {G : Gp} {H H' : Hp} (e : Same H H') : ∀ {v : V} {d : D}, RD G H v d → RD G H' v d
  | _, _, .non => .non
  | _, _, .bl b => .bl b
  | _, _, .int i => .int i
  | _, _, .str x => .str x
  | _, _, .ref a => .ref a
  | _, _, .lst h r => .lst (e.seq h) (RDs.mono e r)
  | _, _, .tup h r => .tup (h.mono e) (RDs.mono e r)
  | _, _, .dct h r => .dct (e _ _ h) (RDs.mono e r)
  | _, _, .dctT h r => .dctT (e _ _ h) (RDs.mono e r)
  | _, _, .set h a b c => .set (e _ _ h) a b c
  | _, _, .obj h m r => .obj (e _ _ h) m (RDs.mono e r)
theorem RDs.mono {G : Gp} {H H' : Hp} (e : Same H H') : ∀ {vs : List V} {ds : List D}, RDs G H vs ds → RDs G H' vs ds
  | _, _, .nil => .nil
  | _, _, .cons a b => .cons (RD.mono e a) (RDs.mono e b)
end
theorem RDs.len {G : Gp} {H : Hp} : ∀ {vs : List V} {ds : List D}, RDs G H vs ds → vs.length = ds.length
  | _, _, .nil => rfl
  | _, _, .cons _ b => by rw [List.length_cons, List.length_cons, RDs.len b]
theorem RDs.get {G : Gp} {H : Hp} : ∀ {vs : List V} {ds : List D} {i : Nat} {d : D}, RDs G H vs ds → ds[i]? = some d → ∃ v, vs[i]? = some v ∧ RD G H v d
  | _, _, _, _, .nil, e => by simp at e
  | _, _, 0, _, .cons a _, e => by simp at e; subst e; exact ⟨_, rfl, a⟩
  | _, _, i + 1, d, .cons _ b, e => by
    obtain ⟨v, h1, h2⟩ := RDs.get (i := i) (d := d) b (by simpa using e)
    exact ⟨v, by simpa using h1, h2⟩
theorem RDs.getV {G : Gp} {H : Hp} : ∀ {vs : List V} {ds : List D} {i : Nat} {v : V}, RDs G H vs ds → vs[i]? = some v → ∃ d, ds[i]? = some d ∧ RD G H v d
  | _, _, _, _, .nil, e => by simp at e
  | _, _, 0, _, .cons a _, e => by simp at e; subst e; exact ⟨_, rfl, a⟩
  | _, _, i + 1, d, .cons _ b, e => by
    obtain ⟨v, h1, h2⟩ := RDs.getV (i := i) (v := d) b (by simpa using e)
    exact ⟨v, by simpa using h1, h2⟩
theorem RDs.app {G : Gp} {H : Hp} : ∀ {vs ws : List V} {ds es : List D}, RDs G H vs ds → RDs G H ws es → RDs G H (vs ++ ws) (ds ++ es)
  | _, _, _, _, .nil, b => b
  | _, _, _, _, .cons a r, b => .cons a (RDs.app r b)
theorem RDs.take {G : Gp} {H : Hp} : ∀ {vs : List V} {ds : List D} (n : Nat), RDs G H vs ds → RDs G H (vs.take n) (ds.take n)
  | _, _, 0, _ => .nil
  | _, _, _ + 1, .nil => .nil
  | _, _, n + 1, .cons a r => .cons a (RDs.take n r)
theorem RDs.drop {G : Gp} {H : Hp} : ∀ {vs : List V} {ds : List D} (n : Nat), RDs G H vs ds → RDs G H (vs.drop n) (ds.drop n)
  | _, _, 0, r => r
  | _, _, _ + 1, .nil => .nil
  | _, _, n + 1, .cons _ r => RDs.drop n r
theorem RDs.upd {G : Gp} {H : Hp} {v : V} {d : D} (q : RD G H v d) : ∀ {vs : List V} {ds : List D} (n : Nat), RDs G H vs ds → RDs G H (vs.set n v) (ds.set n d)
  | _, _, _, .nil => .nil
  | _, _, 0, .cons _ r => .cons q r
  | _, _, n + 1, .cons a r => .cons a (RDs.upd q n r)
theorem RDs.rev {G : Gp} {H : Hp} : ∀ {vs : List V} {ds : List D}, RDs G H vs ds → RDs G H vs.reverse ds.reverse
  | _, _, .nil => .nil
  | _, _, .cons a r => by rw [List.reverse_cons, List.reverse_cons]; exact (RDs.rev r).app (.cons a .nil)
theorem RDs.map_int {G : Gp} {H : Hp} : ∀ ns : List Int, RDs G H (ns.map V.int) (ns.map D.int)
  | [] => .nil
  | n :: r => .cons (.int n) (RDs.map_int r)
theorem RDs.ints {G : Gp} {H : Hp} : ∀ {ns : List Int} {vs : List V}, RDs G H vs (ns.map D.int) → vs = ns.map V.int
  | [], _, h => by cases h; rfl
  | n :: r, _, h => by
    cases h with
    | cons a b => cases a; rw [RDs.ints b]; rfl
theorem RDs.bls {G : Gp} {H : Hp} : ∀ {ns : List Bool} {vs : List V}, RDs G H vs (ns.map D.bl) → vs = ns.map V.bl
  | [], _, h => by cases h; rfl
  | n :: r, _, h => by
    cases h with
    | cons a b => cases a; rw [RDs.bls b]; rfl
theorem RDs.map_bl {G : Gp} {H : Hp} : ∀ ns : List Bool, RDs G H (ns.map V.bl) (ns.map D.bl)
  | [] => .nil
  | n :: r => .cons (.bl n) (RDs.map_bl r)
def hid (Z : List Addr) (H : Hp) : Hp := fun a => if a ∈ Z then none else H a
theorem hid_some {Z : List Addr} {H : Hp} {a : Addr} {o : HO} (h : hid Z H a = some o) : a ∉ Z ∧ H a = some o := by
  unfold hid at h
  by_cases z : a ∈ Z
  · rw [if_pos z] at h; cases h
  · rw [if_neg z] at h; exact ⟨z, h⟩
theorem hid_of {Z : List Addr} {H : Hp} {a : Addr} {o : HO} (z : a ∉ Z) (h : H a = some o) : hid Z H a = some o := by
  unfold hid; rw [if_neg z]; exact h
theorem hid_none {Z : List Addr} {H : Hp} {a : Addr} (z : a ∈ Z) : hid Z H a = none := by
  unfold hid; rw [if_pos z]
theorem hid_full {Z : List Addr} {H : Hp} : Same (hid Z H) H := fun _ _ h => (hid_some h).2
theorem hid_less {Z Z' : List Addr} {H : Hp} (h : ∀ a ∈ Z', a ∈ Z) : Same (hid Z H) (hid Z' H) := fun a o e =>
  hid_of (fun q => (hid_some e).1 (h a q)) (hid_some e).2
theorem Same.hid {Z : List Addr} {H H' : Hp} (e : Same H H') : Same (hid Z H) (hid Z H') := fun a o h => hid_of (hid_some h).1 (e a o (hid_some h).2)
theorem Same.of_new {H : Hp} {p : Addr} {o : HO} (h : H p = none) : Same H (upd H p o) := fun b x e => by rw [upd_ne (ne_of_none e h)]; exact e
def ZOk (Z : List Addr) (H : Hp) : Prop := ∀ a ∈ Z, H a ≠ none
theorem ZOk.out {Z : List Addr} {H : Hp} {p : Addr} (z : ZOk Z H) (h : H p = none) : p ∉ Z := fun q => z p q h
theorem ZOk.same {Z : List Addr} {H H' : Hp} (z : ZOk Z H) (e : Same H H') : ZOk Z H' := fun a ha h => by
  cases q : H a with
  | none => exact z a ha q
  | some o => rw [e a o q] at h; cases h
theorem hid_new {Z : List Addr} {H : Hp} {p : Addr} {o : HO} (z : ZOk Z H) (h : H p = none) : hid Z (upd H p o) p = some o := hid_of (z.out h) upd_same
def RT (G : Gp) (Z : List Addr) (H : Hp) (v : V) (d : D) : Prop :=
  RD G (hid Z H) v d ∨ ∃ a vs ds, v = .ref a ∧ d = .lst ds ∧ H a = some (.lst vs) ∧ RDs G (hid Z H) vs ds
theorem RT.of {G : Gp} {Z : List Addr} {H : Hp} {v : V} {d : D} (h : RD G (hid Z H) v d) : RT G Z H v d := .inl h
theorem RT.full {G : Gp} {Z : List Addr} {H : Hp} {v : V} {d : D} (h : RT G Z H v d) : RD G H v d := by
  rcases h with h | ⟨a, vs, ds, rfl, rfl, h, r⟩
  · exact h.mono hid_full
  · exact .lst (SqL.of h) (r.mono hid_full)
theorem RT.lst {G : Gp} {Z : List Addr} {H : Hp} {v : V} {ds : List D} (h : RT G Z H v (.lst ds)) : ∃ a vs, v = .ref a ∧ SqL G.K H a vs ∧ RDs G (hid Z H) vs ds := by
  rcases h with h | ⟨a, vs, es, rfl, e, h, r⟩
  · cases h with
    | lst q r => exact ⟨_, _, rfl, hid_full.seq q, r⟩
  · cases e
    exact ⟨a, vs, rfl, SqL.of h, r⟩
theorem RT.tup {G : Gp} {Z : List Addr} {H : Hp} {v : V} {ds : List D} (h : RT G Z H v (.tup ds)) : ∃ a vs, v = .ref a ∧ TupV G.K H a vs ∧ RDs G (hid Z H) vs ds := by
  rcases h with h | ⟨a, vs, es, rfl, e, h, r⟩
  · cases h with
    | tup q r => exact ⟨_, _, rfl, q.mono hid_full, r⟩
  · cases e
theorem RT.int {G : Gp} {Z : List Addr} {H : Hp} {v : V} {i : Int} (h : RT G Z H v (.int i)) : v = .int i := by
  rcases h with h | ⟨a, vs, es, rfl, e, h, r⟩
  · cases h; rfl
  · cases e
theorem RT.bl {G : Gp} {Z : List Addr} {H : Hp} {v : V} {i : Bool} (h : RT G Z H v (.bl i)) : v = .bl i := by
  rcases h with h | ⟨a, vs, es, rfl, e, h, r⟩
  · cases h; rfl
  · cases e
theorem RT.str {G : Gp} {Z : List Addr} {H : Hp} {v : V} {i : Str} (h : RT G Z H v (.str i)) : v = .str i := by
  rcases h with h | ⟨a, vs, es, rfl, e, h, r⟩
  · cases h; rfl
  · cases e
theorem RT.non {G : Gp} {Z : List Addr} {H : Hp} {v : V} (h : RT G Z H v .non) : v = .non := by
  rcases h with h | ⟨a, vs, es, rfl, e, h, r⟩
  · cases h; rfl
  · cases e
inductive RTs (G : Gp) (Z : List Addr) (H : Hp) : List V → List D → Prop
  | nil : RTs G Z H [] []
  | cons {v : V} {vs : List V} {d : D} {ds : List D} : RT G Z H v d → RTs G Z H vs ds → RTs G Z H (v :: vs) (d :: ds)
theorem RTs.one {G : Gp} {Z : List Addr} {H : Hp} {vs : List V} {d : D} (h : RTs G Z H vs [d]) : ∃ v, vs = [v] ∧ RT G Z H v d := by
  cases h with
  | cons a b => cases b; exact ⟨_, rfl, a⟩
theorem RTs.two {G : Gp} {Z : List Addr} {H : Hp} {vs : List V} {d e : D} (h : RTs G Z H vs [d, e]) : ∃ v u, vs = [v, u] ∧ RT G Z H v d ∧ RT G Z H u e := by
  cases h with
  | cons a b =>
    cases b with
    | cons b c => cases c; exact ⟨_, _, rfl, a, b⟩
inductive SV where
  | im (d : D)
  | ow (xs : List D)
  | bo (xs : List D)
abbrev Rho := List (Option SV)
abbrev Own := List (Nat × Addr)
structure Fm where
  H0 : Hp
  Z : List Addr
  B : Own
def Fm.hide (F : Fm) (p : Addr) : Fm := ⟨F.H0, p :: F.Z, F.B⟩
def zs (F : Fm) (A : Own) : List Addr := F.Z ++ A.map (·.2)
theorem mem_zs {F : Fm} {A : Own} {a : Addr} : a ∈ zs F A ↔ a ∈ F.Z ∨ ∃ i, (i, a) ∈ A := by
  unfold zs
  rw [List.mem_append, List.mem_map]
  constructor
  · rintro (h | ⟨⟨i, b⟩, h, rfl⟩)
    · exact .inl h
    · exact .inr ⟨i, h⟩
  · rintro (h | ⟨i, h⟩)
    · exact .inl h
    · exact .inr ⟨(i, a), h, rfl⟩
def OwAt (G : Gp) (F : Fm) (A : Own) (σ : St) (H : Hp) (i : Nat) (a : Addr) (xs : List D) : Prop :=
  σ[i]? = some (some (.ref a)) ∧ ∃ vs, H a = some (.lst vs) ∧ RDs G (hid (zs F A) H) vs xs
structure Sts (G : Gp) (F : Fm) (A : Own) (σ : St) (ρ : Rho) (H : Hp) : Prop where
  len : σ.length = ρ.length
  im : ∀ (i : Nat) d, ρ[i]? = some (some (.im d)) → ∃ v, σ[i]? = some (some v) ∧ RD G (hid (zs F A) H) v d
  ow : ∀ (i : Nat) xs, ρ[i]? = some (some (.ow xs)) → ∃ a, (i, a) ∈ A ∧ a ∉ F.Z ∧ F.H0 a = none ∧ OwAt G F A σ H i a xs
  bo : ∀ (i : Nat) xs, ρ[i]? = some (some (.bo xs)) → ∃ a, (i, a) ∈ A ∧ (i, a) ∈ F.B ∧ OwAt G F A σ H i a xs
  own : ∀ (i : Nat) a, (i, a) ∈ A → ∃ xs, ρ[i]? = some (some (.ow xs)) ∨ ρ[i]? = some (some (.bo xs))
  uni : ∀ (i j : Nat) a b, (i, a) ∈ A → (j, b) ∈ A → (i = j ↔ a = b)
  bor : ∀ (i : Nat) a, (i, a) ∈ F.B → (i, a) ∈ A ∧ ∃ xs, ρ[i]? = some (some (.bo xs))
  keep : ∀ a o, F.H0 a = some o → (∀ i, (i, a) ∉ F.B) → H a = some o
  zok : ZOk F.Z H
section
variable {G : Gp} {F : Fm} {A : Own} {σ : St} {ρ ρ' : Rho} {H H' : Hp}
theorem Sts.zall (S : Sts G F A σ ρ H) : ZOk (zs F A) H := fun a h => by
  rcases mem_zs.mp h with h | ⟨i, h⟩
  · exact S.zok a h
  · obtain ⟨xs, h1 | h1⟩ := S.own i a h
    · obtain ⟨b, hb, _, _, _, vs, e, _⟩ := S.ow i xs h1
      rw [(S.uni i i a b h hb).mp rfl, e]; exact fun z => nomatch z
    · obtain ⟨b, hb, _, _, vs, e, _⟩ := S.bo i xs h1
      rw [(S.uni i i a b h hb).mp rfl, e]; exact fun z => nomatch z
theorem OwAt.same {i : Nat} {a : Addr} {xs : List D} (h : OwAt G F A σ H i a xs) (e : Same H H') : OwAt G F A σ H' i a xs := by
  obtain ⟨h1, vs, h2, h3⟩ := h
  exact ⟨h1, vs, e _ _ h2, h3.mono (Same.hid e)⟩
theorem Sts.same (S : Sts G F A σ ρ H) (e : Same H H') : Sts G F A σ ρ H' where
  len := S.len
  im := fun i d h => let ⟨v, h1, h2⟩ := S.im i d h; ⟨v, h1, h2.mono (Same.hid e)⟩
  ow := fun i xs h => let ⟨a, h1, h2, h3, h4⟩ := S.ow i xs h; ⟨a, h1, h2, h3, h4.same e⟩
  bo := fun i xs h => let ⟨a, h1, h2, h3⟩ := S.bo i xs h; ⟨a, h1, h2, h3.same e⟩
  own := S.own
  uni := S.uni
  bor := S.bor
  keep := fun a o h1 h2 => e _ _ (S.keep a o h1 h2)
  zok := S.zok.same e
end
def Stp (A : Own) (H H' : Hp) : Prop := ∀ a o, H a = some o → (∀ i, (i, a) ∉ A) → H' a = some o
theorem Stp.refl (A : Own) (H : Hp) : Stp A H H := fun _ _ h _ => h
theorem Stp.trans {A : Own} {H H1 H2 : Hp} (a : Stp A H H1) (b : Stp A H1 H2) : Stp A H H2 := fun x o h n => b x o (a x o h n) n
theorem Stp.of {A : Own} {H H' : Hp} (e : Same H H') : Stp A H H' := fun x o h _ => e x o h
theorem Stp.hid {A : Own} {H H' : Hp} {F : Fm} (e : Stp A H H') : Same (Dv.hid (zs F A) H) (Dv.hid (zs F A) H') := fun a o h => by
  obtain ⟨h1, h2⟩ := hid_some h
  exact hid_of h1 (e a o h2 fun i z => h1 (mem_zs.mpr (.inr ⟨i, z⟩)))
inductive RV where
  | im (d : D)
  | al (i : Nat)
def RR (G : Gp) (F : Fm) (A : Own) (H : Hp) (v : V) : RV → Prop
  | .im d => RD G (hid (zs F A) H) v d
  | .al i => ∃ a, (i, a) ∈ A ∧ v = .ref a
theorem RR.same {G : Gp} {F : Fm} {A : Own} {H H' : Hp} {v : V} {r : RV} (h : RR G F A H v r) (e : Same (hid (zs F A) H) (hid (zs F A) H')) : RR G F A H' v r := by
  cases r with
  | im d => exact RD.mono e h
  | al i => exact h
inductive RRs (G : Gp) (F : Fm) (A : Own) (H : Hp) : List V → List RV → Prop
  | nil : RRs G F A H [] []
  | cons {v : V} {vs : List V} {r : RV} {rs : List RV} : RR G F A H v r → RRs G F A H vs rs → RRs G F A H (v :: vs) (r :: rs)
theorem RRs.same {G : Gp} {F : Fm} {A : Own} {H H' : Hp} (e : Same (hid (zs F A) H) (hid (zs F A) H')) : ∀ {vs : List V} {rs : List RV}, RRs G F A H vs rs → RRs G F A H' vs rs
  | _, _, .nil => .nil
  | _, _, .cons a b => .cons (a.same e) (RRs.same e b)
structure Exn where
  cls : Str
  arg : Option D
inductive Res (α : Type) where
  | no
  | ex (e : Exn) (ρ : Rho)
  | ok (a : α) (ρ : Rho)
abbrev M (α : Type) := Rho → Res α
def M.bind {α β : Type} (m : M α) (k : α → M β) : M β := fun ρ => match m ρ with
  | .no => .no
  | .ex e ρ' => .ex e ρ'
  | .ok a ρ' => k a ρ'
def M.ret {α : Type} (a : α) : M α := fun ρ => .ok a ρ
def M.opt {α : Type} (o : Option α) : M α := fun ρ => match o with
  | some a => .ok a ρ
  | none => .no
theorem bind_ok {α β : Type} {m : M α} {k : α → M β} {ρ ρ' : Rho} {b : β} (h : M.bind m k ρ = .ok b ρ') : ∃ a ρ1, m ρ = .ok a ρ1 ∧ k a ρ1 = .ok b ρ' := by
  unfold M.bind at h
  cases e : m ρ with
  | no => rw [e] at h; cases h
  | ex x r => rw [e] at h; cases h
  | ok a r => rw [e] at h; exact ⟨a, r, rfl, h⟩
theorem ret_ok {α : Type} {a b : α} {ρ ρ' : Rho} (h : M.ret a ρ = .ok b ρ') : a = b ∧ ρ = ρ' := by
  unfold M.ret at h; cases h; exact ⟨rfl, rfl⟩
theorem opt_ok {α : Type} {o : Option α} {b : α} {ρ ρ' : Rho} (h : M.opt o ρ = .ok b ρ') : o = some b ∧ ρ = ρ' := by
  unfold M.opt at h
  cases o with
  | none => cases h
  | some a => cases h; exact ⟨rfl, rfl⟩
def look (ρ : Rho) : RV → Option D
  | .im d => some d
  | .al i => match ρ[i]? with
    | some (some (.ow xs)) => some (.lst xs)
    | some (some (.bo xs)) => some (.lst xs)
    | _ => none
def val (r : RV) : M D := fun ρ => match look ρ r with
  | some d => .ok d ρ
  | none => .no
theorem val_ok {r : RV} {ρ ρ' : Rho} {d : D} (h : val r ρ = .ok d ρ') : look ρ r = some d ∧ ρ = ρ' := by
  unfold val at h
  cases e : look ρ r with
  | none => rw [e] at h; cases h
  | some x => rw [e] at h; cases h; exact ⟨rfl, rfl⟩
def imm (r : RV) : M D := fun ρ => match r with
  | .im d => .ok d ρ
  | .al _ => .no
theorem imm_ok {r : RV} {ρ ρ' : Rho} {d : D} (h : imm r ρ = .ok d ρ') : r = .im d ∧ ρ = ρ' := by
  cases r with
  | im x => cases h; exact ⟨rfl, rfl⟩
  | al i => cases h
theorem look_rt {G : Gp} {F : Fm} {A : Own} {σ : St} {ρ : Rho} {H : Hp} {v : V} {r : RV} {d : D} (S : Sts G F A σ ρ H) (h : RR G F A H v r) (e : look ρ r = some d) : RT G (zs F A) H v d := by
  cases r with
  | im x => cases e; exact .inl h
  | al i =>
    obtain ⟨a, ha, rfl⟩ := h
    simp only [look] at e
    split at e
    · rename_i q
      cases e
      obtain ⟨b, hb, _, _, _, vs, h2, h3⟩ := S.ow i _ q
      rw [(S.uni i i a b ha hb).mp rfl]
      exact .inr ⟨b, vs, _, rfl, rfl, h2, h3⟩
    · rename_i q
      cases e
      obtain ⟨b, hb, _, _, vs, h2, h3⟩ := S.bo i _ q
      rw [(S.uni i i a b ha hb).mp rfl]
      exact .inr ⟨b, vs, _, rfl, rfl, h2, h3⟩
    · cases e
abbrev ES := M RV
def tD (G : Gp) (F : Fm) (f : ES) : TE := fun σ H Q => ∃ A ρ r ρ', Sts G F A σ ρ H ∧ f ρ = .ok r ρ' ∧
  ∀ v H', Sts G F A σ ρ' H' → Stp A H H' → RR G F A H' v r → Q v H'
def tT (G : Gp) (F : Fm) (f : M Bool) : TT := fun σ H Q => ∃ A ρ b ρ', Sts G F A σ ρ H ∧ f ρ = .ok b ρ' ∧
  ∀ H', Sts G F A σ ρ' H' → Stp A H H' → Q b H'
def tDs (G : Gp) (F : Fm) (f : M (List RV)) : TA := fun σ H Q => ∃ A ρ rs ρ', Sts G F A σ ρ H ∧ f ρ = .ok rs ρ' ∧
  ∀ vs H', Sts G F A σ ρ' H' → Stp A H H' → RRs G F A H' vs rs → Q vs H'
def tN (G : Gp) (F : Fm) (f : M (List D)) : TE := fun σ H Q => ∃ A ρ xs ρ', Sts G F A σ ρ H ∧ f ρ = .ok xs ρ' ∧
  ∀ p vs H', Sts G (F.hide p) A σ ρ' H' → F.H0 p = none → p ∉ zs F A → Stp A H H' → H p = none → H' p = some (.lst vs) → RDs G (hid (zs (F.hide p) A) H') vs xs → Q (.ref p) H'
structure DE (X : Cx) (e : Expr) (f : ES) : Prop where
  run : ∀ F, PE X e (tD (Gx X) F f)
structure DT (X : Cx) (e : Expr) (f : M Bool) : Prop where
  run : ∀ F, PT X e (tT (Gx X) F f)
structure DW (X : Cx) (e : Expr) (f : M Bool) : Prop where
  run : ∀ F, PW X e (tT (Gx X) F f)
structure DA (X : Cx) (es : List Expr) (f : M (List RV)) : Prop where
  run : ∀ F, PA X es (tDs (Gx X) F f)
structure DN (X : Cx) (e : Expr) (f : M (List D)) : Prop where
  run : ∀ F, PE X e (tN (Gx X) F f)
theorem pe_imp {X : Cx} {e : Expr} {t t' : TE} (h : PE X e t) (i : ∀ σ H Q, t' σ H Q → t σ H Q) : PE X e t' := ⟨fun pins s σ H Q I q => h.run pins s σ H Q I (i σ H Q q)⟩
theorem pt_imp {X : Cx} {e : Expr} {t t' : TT} (h : PT X e t) (i : ∀ σ H Q, t' σ H Q → t σ H Q) : PT X e t' := ⟨fun pins s σ H Q I q => h.run pins s σ H Q I (i σ H Q q)⟩
theorem pw_imp {X : Cx} {e : Expr} {t t' : TT} (h : PW X e t) (i : ∀ σ H Q, t' σ H Q → t σ H Q) : PW X e t' := ⟨fun wh pins s σ H Q I q => h.run wh pins s σ H Q I (i σ H Q q)⟩
theorem pa_imp {X : Cx} {e : List Expr} {t t' : TA} (h : PA X e t) (i : ∀ σ H Q, t' σ H Q → t σ H Q) : PA X e t' := ⟨fun pos pins s σ H Q I q => h.run pos pins s σ H Q I (i σ H Q q)⟩
theorem ps_imp {X : Cx} {e : Stmt} {t t' : TS} (h : PS X e t) (i : ∀ D σ H, t' D σ H → t D σ H) : PS X e t' := ⟨fun pins s σ H D I q => h.run pins s σ H D I (i D σ H q)⟩
theorem pss_imp {X : Cx} {e : List Stmt} {t t' : TS} (h : PSs X e t) (i : ∀ D σ H, t' D σ H → t D σ H) : PSs X e t' := ⟨fun pins s σ H D I q => h.run pins s σ H D I (i D σ H q)⟩
abbrev tObj (its : List Value) : Obj := { cls := .type "tuple", data := .seq its.toArray }
abbrev tHO (its : List Value) (xs : List V) : HO := .frz (tObj its) (.tup xs)
theorem lay_tup {X : Cx} {pins : List (Addr × Obj)} {σ : St} {H : Hp} {s : Shared} {xs : List V} {its : List Value} (I : Inv X pins σ H s) (r : Vals xs its) (z : xs.length ≤ sizeLine) (t : Nat) :
    Inv X pins σ (upd H s.heap.objs.size (tHO its xs)) { s with heap := s.heap.push (tObj its), toks := t } := by
  have g : (s.heap.push (tObj its)).get? s.heap.objs.size = some (tObj its) := Heap.get?_push_size _ rfl
  have ok : ObjOk X.prog X.w (upd H s.heap.objs.size (tHO its xs)) (s.heap.push (tObj its)) s.heap.objs.size (tHO its xs) := ⟨g, z, its, r, _, g, rfl, _, rfl⟩
  exact I.laid (t' := t) (fun _ _ q => Heap.get?_push_of_some _ q) (Nat.le_refl _) ok
def tTupF (t : TA) : TE := fun σ H Q => t σ H fun xs H1 => xs.length ≤ sizeLine ∧ ∀ p its, H1 p = none → Q (.ref p) (upd H1 p (tHO its xs))
theorem pe_tupF {X : Cx} {es : List Expr} {t : TA} {k : Nat} {pos : Pos} (h : PA X es t) : PE X (.Tuple es k pos) (tTupF t) := by
  constructor
  intro pins s σ H Q I hq
  refine wpAny_Tuple_spliced (thn (h.run pos pins s σ H _ I hq) ?_)
  rintro us s1 ⟨xs, H1, I1, r, z, q⟩
  have hn : H1 s1.heap.objs.size = none := I1.hok.fresh (Nat.le_refl _)
  exact ⟨r.length ▸ z, V.ref s1.heap.objs.size, _, lay_tup I1 r z s1.toks, rfl, q _ us hn⟩
section
variable {X : Cx} {a b : Expr} {fa fb : ES} {pos : Pos}
def eVar (i : Nat) : ES := fun ρ => match ρ[i]? with
  | some (some (.im d)) => .ok (.im d) ρ
  | some (some (.ow _)) => .ok (.al i) ρ
  | some (some (.bo _)) => .ok (.al i) ρ
  | _ => .no
def eC (d : D) : ES := M.ret (.im d)
theorem de_var {i : Nat} {e : Expr} (h : PE X e (tVar i)) : DE X e (eVar i) := ⟨fun F => pe_imp h fun σ H Q ⟨A, ρ, r, ρ', S, e, q⟩ => by
  unfold eVar at e
  split at e
  · rename_i d h1
    cases e
    obtain ⟨v, h2, h3⟩ := S.im i d h1
    exact ⟨v, h2, q v H S (Stp.refl _ _) h3⟩
  · rename_i xs h1
    cases e
    obtain ⟨a, h2, _, _, h3, _⟩ := S.ow i xs h1
    exact ⟨_, h3, q _ H S (Stp.refl _ _) ⟨a, h2, rfl⟩⟩
  · rename_i xs h1
    cases e
    obtain ⟨a, h2, _, h3, _⟩ := S.bo i xs h1
    exact ⟨_, h3, q _ H S (Stp.refl _ _) ⟨a, h2, rfl⟩⟩
  · cases e⟩
theorem de_c {v : V} {d : D} {e : Expr} (h : PE X e (tC v)) (r : ∀ H, RD (Gx X) H v d) : DE X e (eC d) := ⟨fun F => pe_imp h fun σ H Q ⟨A, ρ, rr, ρ', S, e, q⟩ => by
  obtain ⟨rfl, rfl⟩ := ret_ok e
  exact q v H S (Stp.refl _ _) (r _)⟩
theorem de_int {i : Int} {j} : DE X (.Constant (.int i) j pos) (eC (.int i)) := de_c pe_int fun _ => .int i
theorem de_bl {i : Bool} {j} : DE X (.Constant (.bool i) j pos) (eC (.bl i)) := de_c pe_bl fun _ => .bl i
theorem de_str {i : Str} {j} : DE X (.Constant (.str i) j pos) (eC (.str i)) := de_c pe_str fun _ => .str i
theorem de_non {j} : DE X (.Constant .none j pos) (eC .non) := de_c pe_non fun _ => .non
def OpD (X : Cx) (f : Value → Value → Sem Value) (g : D → D → Option D) : Prop := ∃ r, OpR X f r ∧ ∀ (Z : List Addr) (H : Hp) (x y : V) (dx dy d : D) (Q : VK), ZOk Z H → RT (Gx X) Z H x dx → RT (Gx X) Z H y dy → g dx dy = some d →
  (∀ v H', Same H H' → RD (Gx X) (hid Z H') v d → Q v H') → r x y H Q
def UnD (X : Cx) (f : Value → Sem Value) (g : D → Option D) : Prop := ∃ r, UnR X f r ∧ ∀ (Z : List Addr) (H : Hp) (x : V) (dx d : D) (Q : VK), ZOk Z H → RT (Gx X) Z H x dx → g dx = some d →
  (∀ v H', Same H H' → RD (Gx X) (hid Z H') v d → Q v H') → r x H Q
def CallD (X : Cx) (f : Value) (g : List D → Option D) : Prop := ∃ r, CallR X f r ∧ ∀ (Z : List Addr) (H : Hp) (xs : List V) (ds : List D) (d : D) (Q : VK), ZOk Z H → RTs (Gx X) Z H xs ds → g ds = some d →
  (∀ v H', Same H H' → RD (Gx X) (hid Z H') v d → Q v H') → r xs H Q
def eBin (g : D → D → Option D) (fa fb : ES) : ES := M.bind fa fun ra => M.bind fb fun rb => M.bind (val ra) fun x => M.bind (val rb) fun y => M.bind (M.opt (g x y)) fun d => M.ret (.im d)
def eUn (g : D → Option D) (fa : ES) : ES := M.bind fa fun ra => M.bind (val ra) fun x => M.bind (M.opt (g x)) fun d => M.ret (.im d)
theorem tOp_of {G : Gp} {F : Fm} {r : R2} {g : D → D → Option D} {σ : St} {H : Hp} {Q : VK} (ho : ∀ (Z : List Addr) (H : Hp) (x y : V) (dx dy d : D) (Q : VK), ZOk Z H → RT G Z H x dx → RT G Z H y dy → g dx dy = some d →
    (∀ v H', Same H H' → RD G (hid Z H') v d → Q v H') → r x y H Q) (h : tD G F (eBin g fa fb) σ H Q) : tOp r (tD G F fa) (tD G F fb) σ H Q := by
  obtain ⟨A, ρ, rr, ρ', S, e, q⟩ := h
  obtain ⟨ra, ρ1, e1, e⟩ := bind_ok e
  obtain ⟨rb, ρ2, e2, e⟩ := bind_ok e
  obtain ⟨x, ρ3, e3, e⟩ := bind_ok e
  obtain ⟨l3, rfl⟩ := val_ok e3
  obtain ⟨y, ρ4, e4, e⟩ := bind_ok e
  obtain ⟨l4, rfl⟩ := val_ok e4
  obtain ⟨d, ρ5, e5, e⟩ := bind_ok e
  obtain ⟨l5, rfl⟩ := opt_ok e5
  obtain ⟨rfl, rfl⟩ := ret_ok e
  refine ⟨A, ρ, ra, ρ1, S, e1, fun v1 H1 S1 m1 r1 => ⟨A, ρ1, rb, _, S1, e2, fun v2 H2 S2 m2 r2 => ?_⟩⟩
  refine ho (zs F A) H2 v1 v2 x y d Q S2.zall (look_rt S2 (r1.same m2.hid) l3) (look_rt S2 r2 l4) l5 fun v H' sm rd => ?_
  exact q v H' (S2.same sm) ((m1.trans m2).trans (Stp.of sm)) rd
theorem de_bin {op : Operator} {g : D → D → Option D} (ho : OpD X (binaryOp op) g) (ha : DE X a fa) (hb : DE X b fb) : DE X (.BinOp a op b pos) (eBin g fa fb) := ⟨fun F => by
  obtain ⟨r, h1, h2⟩ := ho
  exact pe_imp (pe_op h1 (ha.run F) (hb.run F)) fun σ H Q h => tOp_of h2 h⟩
theorem de_cmp {op : CmpOp} {g : D → D → Option D} (ho : OpD X (compareOp op) g) (ha : DE X a fa) (hb : DE X b fb) (hm : behindInMarks op b = false) : DE X (.Compare a [op] [b] pos) (eBin g fa fb) := ⟨fun F => by
  obtain ⟨r, h1, h2⟩ := ho
  exact pe_imp (pe_cmpR h1 (ha.run F) (hb.run F) hm) fun σ H Q h => tOp_of h2 h⟩
theorem de_un {op : UnaryOp} {g : D → Option D} (ho : UnD X (unaryOp op) g) (ha : DE X a fa) : DE X (.UnaryOp op a pos) (eUn g fa) := ⟨fun F => by
  obtain ⟨r, h1, h2⟩ := ho
  refine pe_imp (pe_un h1 (ha.run F)) fun σ H Q ⟨A, ρ, rr, ρ', S, e, q⟩ => ?_
  obtain ⟨ra, ρ1, e1, e⟩ := bind_ok e
  obtain ⟨x, ρ3, e3, e⟩ := bind_ok e
  obtain ⟨l3, rfl⟩ := val_ok e3
  obtain ⟨d, ρ5, e5, e⟩ := bind_ok e
  obtain ⟨l5, rfl⟩ := opt_ok e5
  obtain ⟨rfl, rfl⟩ := ret_ok e
  refine ⟨A, ρ, ra, _, S, e1, fun v1 H1 S1 m1 r1 => ?_⟩
  refine h2 (zs F A) H1 v1 x d Q S1.zall (look_rt S1 r1 l3) l5 fun v H' sm rd => ?_
  exact q v H' (S1.same sm) (m1.trans (Stp.of sm)) rd⟩
end
end Dv
namespace Dv
open PySem PySem.Spec PyProof.Rows L2
section
variable {X : Cx} {a b c : Expr} {fa fb fc : ES} {ga gb : M Bool} {rest es : List Expr} {fs : M (List RV)} {pos : Pos}
def truth : D → Option Bool
  | .non => some false
  | .bl b => some b
  | .int i => some (i != 0)
  | .str x => if x.length ≤ 1000000 then some ((x.length : Int) != 0) else none
  | .lst xs => some (!xs.isEmpty)
  | .tup xs => some (!xs.isEmpty)
  | _ => none
theorem len_line {n : Nat} (h : n ≤ 1000000) : n ≤ sizeLine := Nat.le_trans h (by rw [sizeLine_eq]; decide)
theorem len_lt {n : Nat} (h : n < 1000000) : n < sizeLine := Nat.lt_of_lt_of_le h (by rw [sizeLine_eq]; decide)
theorem RDs.emp {G : Gp} {H : Hp} {vs : List V} {ds : List D} (h : RDs G H vs ds) : (!vs.isEmpty) = !ds.isEmpty := by cases h <;> rfl
theorem tru_of {G : Gp} {Z : List Addr} {H : Hp} {v : V} {d : D} {k : Bool} (h : RT G Z H v d) (e : truth d = some k) : TruV G.K v H k := by
  cases d with
  | non => rw [h.non]; cases e; rfl
  | bl b => rw [h.bl]; cases e; rfl
  | int i => rw [h.int]; cases e; rfl
  | str x =>
    rw [h.str]
    simp only [truth] at e
    by_cases z : x.length ≤ 1000000
    · rw [if_pos z] at e; cases e; exact ⟨len_line z, rfl⟩
    · rw [if_neg z] at e; cases e
  | lst xs =>
    obtain ⟨p, vs, rfl, q, r⟩ := h.lst
    cases e
    exact .inl ⟨vs, q, r.emp.symm⟩
  | tup xs =>
    obtain ⟨p, vs, rfl, q, r⟩ := h.tup
    cases e
    exact .inr (.inl ⟨vs, q.sq, r.emp.symm⟩)
  | _ => cases e
def bVal (fa : ES) : M Bool := M.bind fa fun ra => M.bind (val ra) fun x => M.opt (truth x)
theorem tru_rd {G : Gp} {F : Fm} {σ : St} {H : Hp} {Q : Bool → Hp → Prop} (h : tT G F (bVal fa) σ H Q) : tD G F fa σ H fun x H' => ∃ k, TruV G.K x H' k ∧ Q k H' := by
  obtain ⟨A, ρ, b, ρ', S, e, q⟩ := h
  obtain ⟨ra, ρ1, e1, e⟩ := bind_ok e
  obtain ⟨x, ρ2, e2, e⟩ := bind_ok e
  obtain ⟨l2, rfl⟩ := val_ok e2
  obtain ⟨l3, rfl⟩ := opt_ok e
  exact ⟨A, ρ, ra, _, S, e1, fun v H1 S1 m1 r1 => ⟨b, tru_of (look_rt S1 r1 l2) l3, q H1 S1 m1⟩⟩
theorem dt_val (ha : DE X a fa) (he : ∀ whole, isTrue a X.env whole = (do let v ← whole; standAt a.pos; holding [v] (truthy v)) := by intro _; rfl) : DT X a (bVal fa) := ⟨fun F => pt_imp (pt_truth (ha.run F) he) fun σ H Q h => tru_rd h⟩
def isBl : D → Option Bool
  | .bl b => some b
  | _ => none
def bCmp (g : D → D → Option D) (fa fb : ES) : M Bool := M.bind (eBin g fa fb) fun r => M.bind (val r) fun x => M.opt (isBl x)
theorem blv_of {G : Gp} {Z : List Addr} {H : Hp} {v : V} {d : D} {k : Bool} (h : RT G Z H v d) (e : isBl d = some k) : v = .bl k := by
  cases d <;> cases e
  exact h.bl
theorem tT_val {G : Gp} {F : Fm} {f : ES} {σ : St} {H : Hp} {Q : Bool → Hp → Prop} (h : tT G F (M.bind f fun r => M.bind (val r) fun x => M.opt (isBl x)) σ H Q) : tD G F f σ H fun x H' => ∃ k, x = .bl k ∧ Q k H' := by
  obtain ⟨A, ρ, b, ρ', S, e, q⟩ := h
  obtain ⟨ra, ρ1, e1, e⟩ := bind_ok e
  obtain ⟨x, ρ2, e2, e⟩ := bind_ok e
  obtain ⟨l2, rfl⟩ := val_ok e2
  obtain ⟨l3, rfl⟩ := opt_ok e
  exact ⟨A, ρ, ra, _, S, e1, fun v H1 S1 m1 r1 => ⟨b, blv_of (look_rt S1 r1 l2) l3, q H1 S1 m1⟩⟩
theorem dt_cmp {op : CmpOp} {g : D → D → Option D} (ho : OpD X (compareOp op) g) (ha : DE X a fa) (hb : DE X b fb) (hm : behindInMarks op b = false) : DT X (.Compare a [op] [b] pos) (bCmp g fa fb) := ⟨fun F => by
  obtain ⟨r, h1, h2⟩ := ho
  exact pt_imp (pt_cmpR h1 (ha.run F) (hb.run F) hm) fun σ H Q h => tOp_of (Q := fun x H' => ∃ k, x = .bl k ∧ Q k H') h2 (tT_val h)⟩
def eChain (g g' : D → D → Option D) (fa fb fc : ES) : ES := M.bind fa fun ra => M.bind fb fun rb => M.bind (val ra) fun x => M.bind (val rb) fun y => M.bind (M.opt (g x y)) fun d => M.bind (M.opt (isBl d)) fun k =>
  match k with
  | true => M.bind fc fun rc => M.bind (val rb) fun y' => M.bind (val rc) fun z => M.bind (M.opt (g' y' z)) fun d' => M.ret (.im d')
  | false => M.ret (.im (.bl false))
theorem tChain_of {G : Gp} {F : Fm} {r r' : R2} {g g' : D → D → Option D} {σ : St} {H : Hp} {Q : VK} (ho : ∀ (Z : List Addr) (H : Hp) (x y : V) (dx dy d : D) (Q : VK), ZOk Z H → RT G Z H x dx → RT G Z H y dy → g dx dy = some d →
    (∀ v H', Same H H' → RD G (hid Z H') v d → Q v H') → r x y H Q) (ho' : ∀ (Z : List Addr) (H : Hp) (x y : V) (dx dy d : D) (Q : VK), ZOk Z H → RT G Z H x dx → RT G Z H y dy → g' dx dy = some d →
    (∀ v H', Same H H' → RD G (hid Z H') v d → Q v H') → r' x y H Q) (h : tD G F (eChain g g' fa fb fc) σ H Q) : tChain r r' (tD G F fa) (tD G F fb) (tD G F fc) σ H Q := by
  obtain ⟨A, ρ, rr, ρ', S, e, q⟩ := h
  obtain ⟨ra, ρ1, e1, e⟩ := bind_ok e
  obtain ⟨rb, ρ2, e2, e⟩ := bind_ok e
  obtain ⟨x, ρ3, e3, e⟩ := bind_ok e
  obtain ⟨l3, rfl⟩ := val_ok e3
  obtain ⟨y, ρ4, e4, e⟩ := bind_ok e
  obtain ⟨l4, rfl⟩ := val_ok e4
  obtain ⟨d, ρ5, e5, e⟩ := bind_ok e
  obtain ⟨l5, rfl⟩ := opt_ok e5
  obtain ⟨k, ρ6, e6, e⟩ := bind_ok e
  obtain ⟨l6, rfl⟩ := opt_ok e6
  refine ⟨A, ρ, ra, ρ1, S, e1, fun v1 H1 S1 m1 r1 => ⟨A, ρ1, rb, _, S1, e2, fun v2 H2 S2 m2 r2 => ?_⟩⟩
  refine ho (zs F A) H2 v1 v2 x y d _ S2.zall (look_rt S2 (r1.same m2.hid) l3) (look_rt S2 r2 l4) l5 fun v H3 sm rd => ?_
  refine ⟨k, blv_of (.inl rd) l6, ?_⟩
  have S3 := S2.same sm
  have m3 := (m1.trans m2).trans (Stp.of sm)
  cases k with
  | false =>
    obtain ⟨rfl, rfl⟩ := ret_ok e
    rw [if_neg Bool.false_ne_true]
    exact q _ H3 S3 m3 (.bl false)
  | true =>
    obtain ⟨rc, ρ7, e7, e⟩ := bind_ok e
    obtain ⟨y', ρ8, e8, e⟩ := bind_ok e
    obtain ⟨l8, rfl⟩ := val_ok e8
    obtain ⟨z, ρ9, e9, e⟩ := bind_ok e
    obtain ⟨l9, rfl⟩ := val_ok e9
    obtain ⟨d', ρ10, e10, e⟩ := bind_ok e
    obtain ⟨l10, rfl⟩ := opt_ok e10
    obtain ⟨rfl, rfl⟩ := ret_ok e
    rw [if_pos rfl]
    refine ⟨A, _, rc, _, S3, e7, fun v4 H4 S4 m4 r4 => ?_⟩
    refine ho' (zs F A) H4 v2 v4 y' z d' Q S4.zall (look_rt S4 ((r2.same (Same.hid sm)).same m4.hid) l8) (look_rt S4 r4 l9) l10 fun v H5 sm5 rd5 => ?_
    exact q v H5 (S4.same sm5) ((m3.trans m4).trans (Stp.of sm5)) rd5
theorem de_chain {op op' : CmpOp} {g g' : D → D → Option D} (ho : OpD X (compareOp op) g) (ho' : OpD X (compareOp op') g') (ha : DE X a fa) (hb : DE X b fb) (hc : DE X c fc)
    (hm : lastMarks [op, op'] [b, c] = false := by with_unfolding_all rfl) : DE X (.Compare a [op, op'] [b, c] pos) (eChain g g' fa fb fc) := ⟨fun F => by
  obtain ⟨r, h1, h2⟩ := ho
  obtain ⟨r', h1', h2'⟩ := ho'
  exact pe_imp (pe_chain h1 h1' (ha.run F) (hb.run F) (hc.run F) hm) fun σ H Q h => tChain_of h2 h2' h⟩
def bBl (f : ES) : M Bool := M.bind f fun r => M.bind (val r) fun x => M.opt (isBl x)
theorem dt_chain {op op' : CmpOp} {g g' : D → D → Option D} (ho : OpD X (compareOp op) g) (ho' : OpD X (compareOp op') g') (ha : DE X a fa) (hb : DE X b fb) (hc : DE X c fc)
    (hm : lastMarks [op, op'] [b, c] = false := by with_unfolding_all rfl) : DT X (.Compare a [op, op'] [b, c] pos) (bBl (eChain g g' fa fb fc)) := ⟨fun F => by
  obtain ⟨r, h1, h2⟩ := ho
  obtain ⟨r', h1', h2'⟩ := ho'
  exact pt_imp (pt_chain h1 h1' (ha.run F) (hb.run F) (hc.run F) hm) fun σ H Q h => tChain_of (Q := fun x H' => ∃ k, x = .bl k ∧ Q k H') h2 h2' (tT_val h)⟩
def bAnd (ga gb : M Bool) : M Bool := M.bind ga fun k => match k with
  | true => gb
  | false => M.ret false
def bOr (ga gb : M Bool) : M Bool := M.bind ga fun k => match k with
  | true => M.ret true
  | false => gb
def bNot (ga : M Bool) : M Bool := M.bind ga fun k => M.ret (!k)
theorem dt_w (h : DW X a ga) : DT X a ga := ⟨fun F => (h.run F).pt⟩
theorem dw_and1 (ha : DT X a ga) : DW X (.BoolOp .And [a] pos) ga := ⟨fun F => pw_and1 (ha.run F)⟩
theorem dw_or1 (ha : DT X a ga) : DW X (.BoolOp .Or [a] pos) ga := ⟨fun F => pw_or1 (ha.run F)⟩
theorem dw_and (ha : DT X a ga) (hb : DW X (.BoolOp .And (b :: rest) pos) gb) : DW X (.BoolOp .And (a :: b :: rest) pos) (bAnd ga gb) := ⟨fun F => pw_imp (pw_and (ha.run F) (hb.run F)) fun σ H Q ⟨A, ρ, k, ρ', S, e, q⟩ => by
  obtain ⟨k1, ρ1, e1, e⟩ := bind_ok e
  refine ⟨A, ρ, k1, ρ1, S, e1, fun H1 S1 m1 => ?_⟩
  cases k1 with
  | true =>
    rw [if_pos rfl]
    exact ⟨A, ρ1, k, ρ', S1, e, fun H2 S2 m2 => q H2 S2 (m1.trans m2)⟩
  | false =>
    obtain ⟨rfl, rfl⟩ := ret_ok e
    rw [if_neg Bool.false_ne_true]
    exact q H1 S1 m1⟩
theorem dw_or (ha : DT X a ga) (hb : DW X (.BoolOp .Or (b :: rest) pos) gb) : DW X (.BoolOp .Or (a :: b :: rest) pos) (bOr ga gb) := ⟨fun F => pw_imp (pw_or (ha.run F) (hb.run F)) fun σ H Q ⟨A, ρ, k, ρ', S, e, q⟩ => by
  obtain ⟨k1, ρ1, e1, e⟩ := bind_ok e
  refine ⟨A, ρ, k1, ρ1, S, e1, fun H1 S1 m1 => ?_⟩
  cases k1 with
  | false =>
    rw [if_neg Bool.false_ne_true]
    exact ⟨A, ρ1, k, ρ', S1, e, fun H2 S2 m2 => q H2 S2 (m1.trans m2)⟩
  | true =>
    obtain ⟨rfl, rfl⟩ := ret_ok e
    rw [if_pos rfl]
    exact q H1 S1 m1⟩
theorem dt_not (ha : DT X a ga) : DT X (.UnaryOp .Not a pos) (bNot ga) := ⟨fun F => pt_imp (pt_not (ha.run F)) fun σ H Q ⟨A, ρ, k, ρ', S, e, q⟩ => by
  obtain ⟨k1, ρ1, e1, e⟩ := bind_ok e
  obtain ⟨rfl, rfl⟩ := ret_ok e
  exact ⟨A, ρ, k1, ρ1, S, e1, fun H1 S1 m1 => q H1 S1 m1⟩⟩
def eAnd (fa fb : ES) : ES := M.bind fa fun ra => M.bind (val ra) fun x => M.bind (M.opt (truth x)) fun k => match k with
  | true => fb
  | false => M.ret ra
def eOr (fa fb : ES) : ES := M.bind fa fun ra => M.bind (val ra) fun x => M.bind (M.opt (truth x)) fun k => match k with
  | true => M.ret ra
  | false => fb
def eNot (fa : ES) : ES := M.bind fa fun ra => M.bind (val ra) fun x => M.bind (M.opt (truth x)) fun k => M.ret (.im (.bl (!k)))
theorem de_one {op} (h : DE X a fa) : DE X (.BoolOp op [a] pos) fa := ⟨fun F => pe_one (h.run F)⟩
theorem de_and (ha : DE X a fa) (hb : DE X (.BoolOp .And (b :: rest) pos) fb) : DE X (.BoolOp .And (a :: b :: rest) pos) (eAnd fa fb) := ⟨fun F => pe_imp (pe_andT (ha.run F) (hb.run F)) fun σ H Q ⟨A, ρ, r, ρ', S, e, q⟩ => by
  obtain ⟨ra, ρ1, e1, e⟩ := bind_ok e
  obtain ⟨x, ρ2, e2, e⟩ := bind_ok e
  obtain ⟨l2, rfl⟩ := val_ok e2
  obtain ⟨k, ρ3, e3, e⟩ := bind_ok e
  obtain ⟨l3, rfl⟩ := opt_ok e3
  refine ⟨A, ρ, ra, _, S, e1, fun v H1 S1 m1 r1 => ⟨k, tru_of (look_rt S1 r1 l2) l3, ?_⟩⟩
  cases k with
  | true =>
    rw [if_pos rfl]
    exact ⟨A, _, r, ρ', S1, e, fun v2 H2 S2 m2 r2 => q v2 H2 S2 (m1.trans m2) r2⟩
  | false =>
    obtain ⟨rfl, rfl⟩ := ret_ok e
    rw [if_neg Bool.false_ne_true]
    exact q v H1 S1 m1 r1⟩
theorem de_or (ha : DE X a fa) (hb : DE X (.BoolOp .Or (b :: rest) pos) fb) : DE X (.BoolOp .Or (a :: b :: rest) pos) (eOr fa fb) := ⟨fun F => pe_imp (pe_orT (ha.run F) (hb.run F)) fun σ H Q ⟨A, ρ, r, ρ', S, e, q⟩ => by
  obtain ⟨ra, ρ1, e1, e⟩ := bind_ok e
  obtain ⟨x, ρ2, e2, e⟩ := bind_ok e
  obtain ⟨l2, rfl⟩ := val_ok e2
  obtain ⟨k, ρ3, e3, e⟩ := bind_ok e
  obtain ⟨l3, rfl⟩ := opt_ok e3
  refine ⟨A, ρ, ra, _, S, e1, fun v H1 S1 m1 r1 => ⟨k, tru_of (look_rt S1 r1 l2) l3, ?_⟩⟩
  cases k with
  | false =>
    rw [if_neg Bool.false_ne_true]
    exact ⟨A, _, r, ρ', S1, e, fun v2 H2 S2 m2 r2 => q v2 H2 S2 (m1.trans m2) r2⟩
  | true =>
    obtain ⟨rfl, rfl⟩ := ret_ok e
    rw [if_pos rfl]
    exact q v H1 S1 m1 r1⟩
theorem de_not (ha : DE X a fa) : DE X (.UnaryOp .Not a pos) (eNot fa) := ⟨fun F => pe_imp (pe_notT (ha.run F)) fun σ H Q ⟨A, ρ, r, ρ', S, e, q⟩ => by
  obtain ⟨ra, ρ1, e1, e⟩ := bind_ok e
  obtain ⟨x, ρ2, e2, e⟩ := bind_ok e
  obtain ⟨l2, rfl⟩ := val_ok e2
  obtain ⟨k, ρ3, e3, e⟩ := bind_ok e
  obtain ⟨l3, rfl⟩ := opt_ok e3
  obtain ⟨rfl, rfl⟩ := ret_ok e
  exact ⟨A, ρ, ra, _, S, e1, fun v H1 S1 m1 r1 => ⟨k, tru_of (look_rt S1 r1 l2) l3, q _ H1 S1 m1 (.bl _)⟩⟩⟩
def eIf (gc : M Bool) (fa fb : ES) : ES := M.bind gc fun k => match k with
  | true => fa
  | false => fb
theorem de_if {gc : M Bool} (hc : DT X c gc) (ha : DE X a fa) (hb : DE X b fb) : DE X (.IfExp c a b pos) (eIf gc fa fb) := ⟨fun F => pe_imp (pe_ifExp (hc.run F) (ha.run F) (hb.run F)) fun σ H Q ⟨A, ρ, r, ρ', S, e, q⟩ => by
  obtain ⟨k, ρ1, e1, e⟩ := bind_ok e
  refine ⟨A, ρ, k, ρ1, S, e1, fun H1 S1 m1 => ?_⟩
  cases k with
  | true =>
    rw [if_pos rfl]
    exact ⟨A, ρ1, r, ρ', S1, e, fun v2 H2 S2 m2 r2 => q v2 H2 S2 (m1.trans m2) r2⟩
  | false =>
    rw [if_neg Bool.false_ne_true]
    exact ⟨A, ρ1, r, ρ', S1, e, fun v2 H2 S2 m2 r2 => q v2 H2 S2 (m1.trans m2) r2⟩⟩
def aNil : M (List RV) := M.ret []
def aCons (fa : ES) (fs : M (List RV)) : M (List RV) := M.bind fa fun r => M.bind fs fun rs => M.ret (r :: rs)
theorem da_nil : DA X [] aNil := ⟨fun F => pa_imp pa_nil fun σ H Q ⟨A, ρ, r, ρ', S, e, q⟩ => by
  obtain ⟨rfl, rfl⟩ := ret_ok e
  exact q [] H S (Stp.refl _ _) .nil⟩
theorem da_cons (ha : DE X a fa) (hr : DA X es fs) (hs : starEach (a :: es) X.env = (false, eval a X.env) :: starEach es X.env := by rfl) : DA X (a :: es) (aCons fa fs) := ⟨fun F => pa_imp (pa_cons (ha.run F) (hr.run F) hs) fun σ H Q ⟨A, ρ, r, ρ', S, e, q⟩ => by
  obtain ⟨r1, ρ1, e1, e⟩ := bind_ok e
  obtain ⟨rs, ρ2, e2, e⟩ := bind_ok e
  obtain ⟨rfl, rfl⟩ := ret_ok e
  exact ⟨A, ρ, r1, ρ1, S, e1, fun v H1 S1 m1 q1 => ⟨A, ρ1, rs, _, S1, e2, fun vs H2 S2 m2 q2 => q _ H2 S2 (m1.trans m2) (.cons (q1.same m2.hid) q2)⟩⟩⟩
def imms : List RV → Option (List D)
  | [] => some []
  | .im d :: rs => match imms rs with
    | some ds => some (d :: ds)
    | none => none
  | .al _ :: _ => none
theorem imms_rd {G : Gp} {F : Fm} {A : Own} {H : Hp} : ∀ {vs : List V} {rs : List RV} {ds : List D}, RRs G F A H vs rs → imms rs = some ds → RDs G (hid (zs F A) H) vs ds
  | _, _, _, .nil, e => by cases e; exact .nil
  | _, _, ds, .cons (r := .im d) (rs := rs) a b, e => by
    simp only [imms] at e
    split at e
    · rename_i xs q
      cases e
      exact .cons a (imms_rd b q)
    · cases e
  | _, _, _, .cons (r := .al i) a b, e => by cases e
def few (xs : List D) : Option (List D) := if xs.length ≤ 1000000 then some xs else none
theorem few_ok {xs ys : List D} (h : few xs = some ys) : xs = ys ∧ xs.length ≤ sizeLine := by
  unfold few at h
  by_cases z : xs.length ≤ 1000000
  · rw [if_pos z] at h; cases h; exact ⟨rfl, len_line z⟩
  · rw [if_neg z] at h; cases h
def eTup (fs : M (List RV)) : ES := M.bind fs fun rs => M.bind (M.opt (imms rs)) fun ds => M.bind (M.opt (few ds)) fun ds => M.ret (.im (.tup ds))
theorem de_tup {k} (h : DA X es fs) : DE X (.Tuple es k pos) (eTup fs) := ⟨fun F => pe_imp (pe_tupF (h.run F)) fun σ H Q ⟨A, ρ, r, ρ', S, e, q⟩ => by
  obtain ⟨rs, ρ1, e1, e⟩ := bind_ok e
  obtain ⟨ds, ρ2, e2, e⟩ := bind_ok e
  obtain ⟨l2, rfl⟩ := opt_ok e2
  obtain ⟨ds', ρ3, e3, e⟩ := bind_ok e
  obtain ⟨l3, rfl⟩ := opt_ok e3
  obtain ⟨rfl, l4⟩ := few_ok l3
  obtain ⟨rfl, rfl⟩ := ret_ok e
  refine ⟨A, ρ, rs, _, S, e1, fun vs H1 S1 m1 q1 => ?_⟩
  have rd := imms_rd q1 l2
  refine ⟨by rw [rd.len]; exact l4, fun p its hp => ?_⟩
  have sm := Same.of_new (o := tHO its vs) hp
  exact q _ _ (S1.same sm) (m1.trans (Stp.of sm)) (.tup (.inl ⟨_, hid_new S1.zall hp, rfl⟩) (rd.mono (Same.hid sm)))⟩
theorem Sts.hide {G : Gp} {F : Fm} {A : Own} {σ : St} {ρ : Rho} {H H' : Hp} {p : Addr} (S : Sts G F A σ ρ H) (hp : H p = none) (sm : Same H H') (h' : H' p ≠ none) : Sts G (F.hide p) A σ ρ H' := by
  have key : Same (hid (zs F A) H) (hid (zs (F.hide p) A) H') := fun a o e => by
    obtain ⟨e1, e2⟩ := hid_some e
    refine hid_of (fun z => ?_) (sm _ _ e2)
    rcases mem_zs.mp z with z | z
    · rcases List.mem_cons.mp z with rfl | z
      · rw [hp] at e2; cases e2
      · exact e1 (mem_zs.mpr (.inl z))
    · exact e1 (mem_zs.mpr (.inr z))
  have ow : ∀ {i a xs}, OwAt G F A σ H i a xs → OwAt G (F.hide p) A σ H' i a xs := fun ⟨h1, vs, h2, h3⟩ => ⟨h1, vs, sm _ _ h2, h3.mono key⟩
  refine ⟨S.len, fun i d h => ?_, fun i xs h => ?_, fun i xs h => ?_, S.own, S.uni, S.bor, fun a o h1 h2 => sm _ _ (S.keep a o h1 h2), fun a h => ?_⟩
  · obtain ⟨v, h1, h2⟩ := S.im i d h
    exact ⟨v, h1, h2.mono key⟩
  · obtain ⟨a, h1, h2, h3, h4⟩ := S.ow i xs h
    refine ⟨a, h1, fun z => ?_, h3, ow h4⟩
    rcases List.mem_cons.mp z with rfl | z
    · obtain ⟨_, vs, q, _⟩ := h4
      rw [hp] at q; cases q
    · exact h2 z
  · obtain ⟨a, h1, h2, h3⟩ := S.bo i xs h
    exact ⟨a, h1, h2, ow h3⟩
  · rcases List.mem_cons.mp h with rfl | h
    · exact h'
    · exact S.zok.same sm a h
theorem hide_same {F : Fm} {A : Own} {H H' : Hp} {p : Addr} (hp : H p = none) (sm : Same H H') : Same (hid (zs F A) H) (hid (zs (F.hide p) A) H') := fun a o e => by
  obtain ⟨e1, e2⟩ := hid_some e
  refine hid_of (fun z => ?_) (sm _ _ e2)
  rcases mem_zs.mp z with z | z
  · rcases List.mem_cons.mp z with rfl | z
    · rw [hp] at e2; cases e2
    · exact e1 (mem_zs.mpr (.inl z))
  · exact e1 (mem_zs.mpr (.inr z))
theorem Sts.h0 {G : Gp} {F : Fm} {A : Own} {σ : St} {ρ : Rho} {H : Hp} {p : Addr} (S : Sts G F A σ ρ H) (hp : H p = none) : F.H0 p = none := by
  cases e : F.H0 p with
  | none => rfl
  | some o =>
    by_cases z : ∃ i, (i, p) ∈ F.B
    · obtain ⟨i, z⟩ := z
      obtain ⟨z1, xs, z2⟩ := S.bor i p z
      obtain ⟨a, h1, h2, h3, vs, h4, _⟩ := S.bo i xs z2
      rw [(S.uni i i p a z1 h1).mp rfl, h4] at hp
      cases hp
    · rw [S.keep p o e fun i q => z ⟨i, q⟩] at hp; cases hp
theorem back_none {G : Gp} {F : Fm} {A : Own} {σ : St} {ρ ρ' : Rho} {H H1 : Hp} {p : Addr} (S : Sts G F A σ ρ H) (m : Stp A H H1) (S1 : Sts G F A σ ρ' H1) (hp : H1 p = none) : H p = none := by
  cases e : H p with
  | none => rfl
  | some o =>
    by_cases z : ∃ i, (i, p) ∈ A
    · obtain ⟨i, z⟩ := z
      exact absurd hp (S1.zall p (mem_zs.mpr (.inr ⟨i, z⟩)))
    · rw [m p o e fun i q => z ⟨i, q⟩] at hp; cases hp
theorem fresh_list {G : Gp} {F : Fm} {A : Own} {σ : St} {ρ' : Rho} {H H1 : Hp} {Q : VK} {vs : List V} {ds : List D} {p : Addr} (S1 : Sts G F A σ ρ' H1) (m1 : Stp A H H1) (rd : RDs G (hid (zs F A) H1) vs ds) (hp : H1 p = none) (h00 : H p = none)
    (q : ∀ p vs H', Sts G (F.hide p) A σ ρ' H' → F.H0 p = none → p ∉ zs F A → Stp A H H' → H p = none → H' p = some (.lst vs) → RDs G (hid (zs (F.hide p) A) H') vs ds → Q (.ref p) H') : Q (.ref p) (upd H1 p (.lst vs)) := by
  have sm := Same.of_new (o := .lst vs) hp
  have ks := hide_same (F := F) (A := A) hp sm
  exact q p vs _ (S1.hide hp sm (by rw [upd_same]; exact fun z => nomatch z)) (S1.h0 hp) (S1.zall.out hp) (m1.trans (Stp.of sm)) h00 upd_same (rd.mono ks)
def nLst (fs : M (List RV)) : M (List D) := M.bind fs fun rs => M.bind (M.opt (imms rs)) fun ds => M.opt (few ds)
theorem dn_lst (h : DA X es fs) : DN X (.List es pos) (nLst fs) := ⟨fun F => pe_imp (pe_lst (h.run F)) fun σ H Q ⟨A, ρ, r, ρ', S, e, q⟩ => by
  obtain ⟨rs, ρ1, e1, e⟩ := bind_ok e
  obtain ⟨ds, ρ2, e2, e⟩ := bind_ok e
  obtain ⟨l2, rfl⟩ := opt_ok e2
  obtain ⟨l3, rfl⟩ := opt_ok e
  obtain ⟨rfl, l4⟩ := few_ok l3
  refine ⟨A, ρ, rs, _, S, e1, fun vs H1 S1 m1 q1 => ?_⟩
  have rd := imms_rd q1 l2
  exact ⟨by rw [rd.len]; exact l4, fun p hp => fresh_list S1 m1 rd hp (back_none S m1 S1 hp) q⟩⟩
theorem Sts.show {G : Gp} {F : Fm} {A : Own} {σ : St} {ρ : Rho} {H : Hp} {p : Addr} (S : Sts G (F.hide p) A σ ρ H) : Sts G F A σ ρ H := by
  have key : Same (hid (zs (F.hide p) A) H) (hid (zs F A) H) := hid_less fun a h => by
    rcases mem_zs.mp h with h | h
    · exact mem_zs.mpr (.inl (List.mem_cons_of_mem _ h))
    · exact mem_zs.mpr (.inr h)
  have ow : ∀ {i a xs}, OwAt G (F.hide p) A σ H i a xs → OwAt G F A σ H i a xs := fun ⟨h1, vs, h2, h3⟩ => ⟨h1, vs, h2, h3.mono key⟩
  refine ⟨S.len, fun i d h => ?_, fun i xs h => ?_, fun i xs h => ?_, S.own, S.uni, S.bor, S.keep, fun a h => S.zok a (List.mem_cons_of_mem _ h)⟩
  · obtain ⟨v, h1, h2⟩ := S.im i d h
    exact ⟨v, h1, h2.mono key⟩
  · obtain ⟨a, h1, h2, h3, h4⟩ := S.ow i xs h
    exact ⟨a, h1, fun z => h2 (List.mem_cons_of_mem _ z), h3, ow h4⟩
  · obtain ⟨a, h1, h2, h3⟩ := S.bo i xs h
    exact ⟨a, h1, h2, ow h3⟩
theorem show_same {F : Fm} {A : Own} {H : Hp} {p : Addr} : Same (hid (zs (F.hide p) A) H) (hid (zs F A) H) := hid_less fun a h => by
  rcases mem_zs.mp h with h | h
  · exact mem_zs.mpr (.inl (List.mem_cons_of_mem _ h))
  · exact mem_zs.mpr (.inr h)
def eN (f : M (List D)) : ES := M.bind f fun xs => M.ret (.im (.lst xs))
theorem de_n {f : M (List D)} (h : DN X a f) : DE X a (eN f) := ⟨fun F => pe_imp (h.run F) fun σ H Q ⟨A, ρ, r, ρ', S, e, q⟩ => by
  obtain ⟨xs, ρ1, e1, e⟩ := bind_ok e
  obtain ⟨rfl, rfl⟩ := ret_ok e
  exact ⟨A, ρ, xs, _, S, e1, fun p vs H' S' h0 hz m _ hp rd => q _ H' S'.show m (.lst (SqL.of (hid_of hz hp)) (rd.mono show_same))⟩⟩
def looks (ρ : Rho) : List RV → Option (List D)
  | [] => some []
  | r :: rs => match look ρ r, looks ρ rs with
    | some d, some ds => some (d :: ds)
    | _, _ => none
def vals (rs : List RV) : M (List D) := fun ρ => match looks ρ rs with
  | some ds => .ok ds ρ
  | none => .no
theorem vals_ok {r : List RV} {ρ ρ' : Rho} {d : List D} (h : vals r ρ = .ok d ρ') : looks ρ r = some d ∧ ρ = ρ' := by
  unfold vals at h
  cases e : looks ρ r with
  | none => rw [e] at h; cases h
  | some x => rw [e] at h; cases h; exact ⟨rfl, rfl⟩
theorem looks_rt {G : Gp} {F : Fm} {A : Own} {σ : St} {ρ : Rho} {H : Hp} (S : Sts G F A σ ρ H) : ∀ {vs : List V} {rs : List RV} {ds : List D}, RRs G F A H vs rs → looks ρ rs = some ds → RTs G (zs F A) H vs ds
  | _, _, _, .nil, e => by cases e; exact .nil
  | _, _, ds, .cons a b, e => by
    simp only [looks] at e
    split at e
    · rename_i d xs q1 q2
      cases e
      exact .cons (look_rt S a q1) (looks_rt S b q2)
    · cases e
def eCall (g : List D → Option D) (fs : M (List RV)) : ES := M.bind fs fun rs => M.bind (vals rs) fun ds => M.bind (M.opt (g ds)) fun d => M.ret (.im d)
theorem tCB_of {G : Gp} {F : Fm} {r : List V → Hp → VK → Prop} {g : List D → Option D} {σ : St} {H : Hp} {Q : VK} (h2 : ∀ (Z : List Addr) (H : Hp) (xs : List V) (ds : List D) (d : D) (Q : VK), ZOk Z H → RTs G Z H xs ds → g ds = some d →
    (∀ v H', Same H H' → RD G (hid Z H') v d → Q v H') → r xs H Q) (h : tD G F (eCall g fs) σ H Q) : tCB r (tDs G F fs) σ H Q := by
  obtain ⟨A, ρ, rr, ρ', S, e, q⟩ := h
  obtain ⟨rs, ρ1, e1, e⟩ := bind_ok e
  obtain ⟨ds, ρ2, e2, e⟩ := bind_ok e
  obtain ⟨l2, rfl⟩ := vals_ok e2
  obtain ⟨d, ρ3, e3, e⟩ := bind_ok e
  obtain ⟨l3, rfl⟩ := opt_ok e3
  obtain ⟨rfl, rfl⟩ := ret_ok e
  refine ⟨A, ρ, rs, _, S, e1, fun vs H1 S1 m1 r1 => ?_⟩
  exact h2 (zs F A) H1 vs ds d Q S1.zall (looks_rt S1 r1 l2) l3 fun v H' sm rd => q v H' (S1.same sm) (m1.trans (Stp.of sm)) rd
variable {x : Str} {id T : String} {p : Pos} {g : List D → Option D}
theorem de_callB (hc : CallD X (.builtin id) g) (hg : Gl X x) (hm : X.mg x = none) (hv : bootBuiltins x = some (.builtin id)) (ha : DA X (a :: es) fs) (hn : x ≠ "__name__" := by decide) (hdb : (x == ("__debug__" : Str)) = false := by decide)
    (he : starEach (a :: es) X.env = (false, eval a X.env) :: starEach es X.env := by rfl) (hpl : (backTo pos (starEach es X.env)).any (·.1) = false := by rfl) : DE X (.Call (.Name x p) (a :: es) [] pos) (eCall g fs) := ⟨fun F => by
  obtain ⟨r, h1, h2⟩ := hc
  exact pe_imp (pe_callB h1 hg hm hv (ha.run F) hn hdb he hpl) fun σ H Q h => tCB_of h2 h⟩
theorem de_callTy (hc : CallD X (.type T) g) (hg : Gl X x) (hm : X.mg x = none) (hv : bootBuiltins x = some (.type T)) (ha : DA X (a :: es) fs) (hn : x ≠ "__name__" := by decide) (hdb : (x == ("__debug__" : Str)) = false := by decide)
    (he : starEach (a :: es) X.env = (false, eval a X.env) :: starEach es X.env := by rfl) (hpl : (backTo pos (starEach es X.env)).any (·.1) = false := by rfl) : DE X (.Call (.Name x p) (a :: es) [] pos) (eCall g fs) := ⟨fun F => by
  obtain ⟨r, h1, h2⟩ := hc
  exact pe_imp (pe_callTy h1 hg hm hv (ha.run F) hn hdb he hpl) fun σ H Q h => tCB_of h2 h⟩
def CallN (X : Cx) (f : Value) (g : List D → Option (List D)) : Prop := ∃ r, CallR X f r ∧ ∀ (Z : List Addr) (H : Hp) (xs : List V) (ds es : List D) (Q : VK), ZOk Z H → RTs (Gx X) Z H xs ds → g ds = some es →
  (∀ p vs, H p = none → RDs (Gx X) (hid Z H) vs es → Q (.ref p) (upd H p (.lst vs))) → r xs H Q
def nCall (g : List D → Option (List D)) (fs : M (List RV)) : M (List D) := M.bind fs fun rs => M.bind (vals rs) fun ds => M.opt (g ds)
theorem tCN_of {G : Gp} {F : Fm} {r : List V → Hp → VK → Prop} {g : List D → Option (List D)} {σ : St} {H : Hp} {Q : VK} (h2 : ∀ (Z : List Addr) (H : Hp) (xs : List V) (ds es : List D) (Q : VK), ZOk Z H → RTs G Z H xs ds → g ds = some es →
    (∀ p vs, H p = none → RDs G (hid Z H) vs es → Q (.ref p) (upd H p (.lst vs))) → r xs H Q) (h : tN G F (nCall g fs) σ H Q) : tCB r (tDs G F fs) σ H Q := by
  obtain ⟨A, ρ, rr, ρ', S, e, q⟩ := h
  obtain ⟨rs, ρ1, e1, e⟩ := bind_ok e
  obtain ⟨ds, ρ2, e2, e⟩ := bind_ok e
  obtain ⟨l2, rfl⟩ := vals_ok e2
  obtain ⟨l3, rfl⟩ := opt_ok e
  refine ⟨A, ρ, rs, _, S, e1, fun vs H1 S1 m1 r1 => ?_⟩
  exact h2 (zs F A) H1 vs ds rr Q S1.zall (looks_rt S1 r1 l2) l3 fun p vs hp rd => fresh_list S1 m1 rd hp (back_none S m1 S1 hp) q
variable {gn : List D → Option (List D)}
theorem dn_callB (hc : CallN X (.builtin id) gn) (hg : Gl X x) (hm : X.mg x = none) (hv : bootBuiltins x = some (.builtin id)) (ha : DA X (a :: es) fs) (hn : x ≠ "__name__" := by decide) (hdb : (x == ("__debug__" : Str)) = false := by decide)
    (he : starEach (a :: es) X.env = (false, eval a X.env) :: starEach es X.env := by rfl) (hpl : (backTo pos (starEach es X.env)).any (·.1) = false := by rfl) : DN X (.Call (.Name x p) (a :: es) [] pos) (nCall gn fs) := ⟨fun F => by
  obtain ⟨r, h1, h2⟩ := hc
  exact pe_imp (pe_callB h1 hg hm hv (ha.run F) hn hdb he hpl) fun σ H Q h => tCN_of h2 h⟩
theorem dn_callTy (hc : CallN X (.type T) gn) (hg : Gl X x) (hm : X.mg x = none) (hv : bootBuiltins x = some (.type T)) (ha : DA X (a :: es) fs) (hn : x ≠ "__name__" := by decide) (hdb : (x == ("__debug__" : Str)) = false := by decide)
    (he : starEach (a :: es) X.env = (false, eval a X.env) :: starEach es X.env := by rfl) (hpl : (backTo pos (starEach es X.env)).any (·.1) = false := by rfl) : DN X (.Call (.Name x p) (a :: es) [] pos) (nCall gn fs) := ⟨fun F => by
  obtain ⟨r, h1, h2⟩ := hc
  exact pe_imp (pe_callTy h1 hg hm hv (ha.run F) hn hdb he hpl) fun σ H Q h => tCN_of h2 h⟩
end
end Dv
namespace Dv
open PySem PySem.Spec PyProof.Rows L2
def drop1 (A : Own) (i : Nat) : Own := A.filter fun p => p.1 ≠ i
theorem mem_drop1 {A : Own} {i j : Nat} {a : Addr} : (j, a) ∈ drop1 A i ↔ (j, a) ∈ A ∧ j ≠ i := by
  unfold drop1
  rw [List.mem_filter]
  simp
theorem zs_drop1 {F : Fm} {A : Own} {i : Nat} : ∀ a ∈ zs F (drop1 A i), a ∈ zs F A := fun a h => by
  rcases mem_zs.mp h with h | ⟨j, h⟩
  · exact mem_zs.mpr (.inl h)
  · exact mem_zs.mpr (.inr ⟨j, (mem_drop1.mp h).1⟩)
def setIm (i : Nat) (d : D) : M Unit := fun ρ => match ρ[i]? with
  | some (some (.bo _)) => .no
  | some _ => .ok () (ρ.set i (some (.im d)))
  | none => .no
theorem setIm_ok {i : Nat} {d : D} {ρ ρ' : Rho} {u : Unit} (h : setIm i d ρ = .ok u ρ') : i < ρ.length ∧ (∀ xs, ρ[i]? ≠ some (some (.bo xs))) ∧ ρ' = ρ.set i (some (.im d)) := by
  unfold setIm at h
  split at h
  · cases h
  · rename_i x q1 q2
    cases h
    refine ⟨?_, fun xs z => ?_, rfl⟩
    · by_cases z : i < ρ.length
      · exact z
      · rw [List.getElem?_eq_none (by omega)] at q2; cases q2
    · exact q1 xs (Option.some.inj (q2.symm.trans z))
  · cases h
theorem Sts.set {G : Gp} {F : Fm} {A : Own} {σ : St} {ρ ρ' : Rho} {H : Hp} {i : Nat} {d : D} {v : V} {u : Unit} (S : Sts G F A σ ρ H) (h : setIm i d ρ = .ok u ρ') (r : RD G (hid (zs F A) H) v d) :
    Sts G F (drop1 A i) (σ.set i (some v)) ρ' H ∧ Same (hid (zs F A) H) (hid (zs F (drop1 A i)) H) := by
  obtain ⟨hi, hb, rfl⟩ := setIm_ok h
  have key : Same (hid (zs F A) H) (hid (zs F (drop1 A i)) H) := hid_less zs_drop1
  have hs : i < σ.length := by rw [S.len]; exact hi
  have ow : ∀ {j a xs}, j ≠ i → OwAt G F A σ H j a xs → OwAt G F (drop1 A i) (σ.set i (some v)) H j a xs := fun {j a xs} hj ⟨h1, vs, h2, h3⟩ => ⟨by rw [List.getElem?_set_ne (Ne.symm hj)]; exact h1, vs, h2, h3.mono key⟩
  refine ⟨⟨by rw [List.length_set, List.length_set]; exact S.len, fun j e hj => ?_, fun j xs hj => ?_, fun j xs hj => ?_, fun j a hj => ?_, fun j k a b h1 h2 => S.uni j k a b (mem_drop1.mp h1).1 (mem_drop1.mp h2).1, fun j a hj => ?_, S.keep, S.zok⟩, key⟩
  · by_cases z : j = i
    · subst z
      rw [List.getElem?_set_self hi] at hj
      cases hj
      exact ⟨v, by rw [List.getElem?_set_self hs], r.mono key⟩
    · rw [List.getElem?_set_ne (Ne.symm z)] at hj
      obtain ⟨w, h1, h2⟩ := S.im j e hj
      exact ⟨w, by rw [List.getElem?_set_ne (Ne.symm z)]; exact h1, h2.mono key⟩
  · by_cases z : j = i
    · subst z
      rw [List.getElem?_set_self hi] at hj
      cases hj
    · rw [List.getElem?_set_ne (Ne.symm z)] at hj
      obtain ⟨a, h1, h2, h3, h4⟩ := S.ow j xs hj
      exact ⟨a, mem_drop1.mpr ⟨h1, z⟩, h2, h3, ow z h4⟩
  · by_cases z : j = i
    · subst z
      rw [List.getElem?_set_self hi] at hj
      cases hj
    · rw [List.getElem?_set_ne (Ne.symm z)] at hj
      obtain ⟨a, h1, h2, h3⟩ := S.bo j xs hj
      exact ⟨a, mem_drop1.mpr ⟨h1, z⟩, h2, ow z h3⟩
  · obtain ⟨h1, z⟩ := mem_drop1.mp hj
    rw [List.getElem?_set_ne (Ne.symm z)]
    exact S.own j a h1
  · obtain ⟨h1, xs, h2⟩ := S.bor j a hj
    have z : j ≠ i := fun z => hb xs (z ▸ h2)
    exact ⟨mem_drop1.mpr ⟨h1, z⟩, xs, by rw [List.getElem?_set_ne (Ne.symm z)]; exact h2⟩
def setOw (i : Nat) (xs : List D) : M Unit := fun ρ => match ρ[i]? with
  | some (some (.bo _)) => .no
  | some _ => .ok () (ρ.set i (some (.ow xs)))
  | none => .no
theorem setOw_ok {i : Nat} {d : List D} {ρ ρ' : Rho} {u : Unit} (h : setOw i d ρ = .ok u ρ') : i < ρ.length ∧ (∀ xs, ρ[i]? ≠ some (some (.bo xs))) ∧ ρ' = ρ.set i (some (.ow d)) := by
  unfold setOw at h
  split at h
  · cases h
  · rename_i x q1 q2
    cases h
    refine ⟨?_, fun xs z => ?_, rfl⟩
    · by_cases z : i < ρ.length
      · exact z
      · rw [List.getElem?_eq_none (by omega)] at q2; cases q2
    · exact q1 xs (Option.some.inj (q2.symm.trans z))
  · cases h
theorem Sts.setN {G : Gp} {F : Fm} {A : Own} {σ : St} {ρ ρ' : Rho} {H : Hp} {i : Nat} {xs : List D} {vs : List V} {p : Addr} {u : Unit} (S : Sts G (F.hide p) A σ ρ H) (h0 : F.H0 p = none) (hz : p ∉ zs F A) (hp : H p = some (.lst vs)) (r : RDs G (hid (zs (F.hide p) A) H) vs xs) (h : setOw i xs ρ = .ok u ρ') :
    Sts G F ((i, p) :: drop1 A i) (σ.set i (some (.ref p))) ρ' H ∧ Same (hid (zs (F.hide p) A) H) (hid (zs F ((i, p) :: drop1 A i)) H) := by
  obtain ⟨hi, hb, rfl⟩ := setOw_ok h
  have key : Same (hid (zs (F.hide p) A) H) (hid (zs F ((i, p) :: drop1 A i)) H) := hid_less fun a h => by
    rcases mem_zs.mp h with h | ⟨j, h⟩
    · exact mem_zs.mpr (.inl (List.mem_cons_of_mem _ h))
    · rcases List.mem_cons.mp h with h | h
      · cases h; exact mem_zs.mpr (.inl List.mem_cons_self)
      · exact mem_zs.mpr (.inr ⟨j, (mem_drop1.mp h).1⟩)
  have hs : i < σ.length := by rw [S.len]; exact hi
  have np : ∀ j a, (j, a) ∈ A → a ≠ p := fun j a h z => hz (mem_zs.mpr (.inr ⟨j, z ▸ h⟩))
  have ow : ∀ {j a ys}, j ≠ i → OwAt G (F.hide p) A σ H j a ys → OwAt G F ((i, p) :: drop1 A i) (σ.set i (some (.ref p))) H j a ys := fun {j a ys} hj ⟨h1, vs, h2, h3⟩ => ⟨by rw [List.getElem?_set_ne (Ne.symm hj)]; exact h1, vs, h2, h3.mono key⟩
  refine ⟨⟨by rw [List.length_set, List.length_set]; exact S.len, fun j e hj => ?_, fun j ys hj => ?_, fun j ys hj => ?_, fun j a hj => ?_, fun j k a b h1 h2 => ?_, fun j a hj => ?_, S.keep, fun a h => S.zok a (List.mem_cons_of_mem _ h)⟩, key⟩
  · by_cases z : j = i
    · subst z
      rw [List.getElem?_set_self hi] at hj
      cases hj
    · rw [List.getElem?_set_ne (Ne.symm z)] at hj
      obtain ⟨w, h1, h2⟩ := S.im j e hj
      exact ⟨w, by rw [List.getElem?_set_ne (Ne.symm z)]; exact h1, h2.mono key⟩
  · by_cases z : j = i
    · subst z
      rw [List.getElem?_set_self hi] at hj
      cases hj
      exact ⟨p, List.mem_cons_self, fun z => hz (mem_zs.mpr (.inl z)), h0, by rw [List.getElem?_set_self hs], vs, hp, r.mono key⟩
    · rw [List.getElem?_set_ne (Ne.symm z)] at hj
      obtain ⟨a, h1, h2, h3, h4⟩ := S.ow j ys hj
      exact ⟨a, List.mem_cons_of_mem _ (mem_drop1.mpr ⟨h1, z⟩), fun y => h2 (List.mem_cons_of_mem _ y), h3, ow z h4⟩
  · by_cases z : j = i
    · subst z
      rw [List.getElem?_set_self hi] at hj
      cases hj
    · rw [List.getElem?_set_ne (Ne.symm z)] at hj
      obtain ⟨a, h1, h2, h3⟩ := S.bo j ys hj
      exact ⟨a, List.mem_cons_of_mem _ (mem_drop1.mpr ⟨h1, z⟩), h2, ow z h3⟩
  · rcases List.mem_cons.mp hj with hj | hj
    · cases hj
      exact ⟨xs, .inl (List.getElem?_set_self hi)⟩
    · obtain ⟨h1, z⟩ := mem_drop1.mp hj
      rw [List.getElem?_set_ne (Ne.symm z)]
      exact S.own j a h1
  · rcases List.mem_cons.mp h1 with e1 | h1
    · cases e1
      rcases List.mem_cons.mp h2 with e2 | h2
      · cases e2; simp
      · obtain ⟨g1, g2⟩ := mem_drop1.mp h2
        exact ⟨fun z => absurd z.symm g2, fun z => absurd z.symm (np k b g1)⟩
    · obtain ⟨g1, g2⟩ := mem_drop1.mp h1
      rcases List.mem_cons.mp h2 with e2 | h2
      · cases e2
        exact ⟨fun z => absurd z g2, fun z => absurd z (np j a g1)⟩
      · exact S.uni j k a b g1 (mem_drop1.mp h2).1
  · obtain ⟨h1, ys, h2⟩ := S.bor j a hj
    have z : j ≠ i := fun z => hb ys (z ▸ h2)
    exact ⟨List.mem_cons_of_mem _ (mem_drop1.mpr ⟨h1, z⟩), ys, by rw [List.getElem?_set_ne (Ne.symm z)]; exact h2⟩
inductive IV where
  | im (d : D)
  | tw (ds : List D)
def RI (G : Gp) (Z : List Addr) (H : Hp) (v : V) : IV → Prop
  | .im d => RD G (hid Z H) v d
  | .tw ds => ∃ a vs, v = .ref a ∧ SqT G.K H a vs ∧ RDs G (hid Z H) vs ds
def dropL (A : Own) (sl : List Nat) : Own := sl.foldl drop1 A
theorem dropL_nil {A : Own} : dropL A [] = A := rfl
theorem mem_dropL : ∀ {sl : List Nat} {A : Own} {j : Nat} {a : Addr}, (j, a) ∈ dropL A sl ↔ (j, a) ∈ A ∧ j ∉ sl
  | [], A, j, a => by simp [dropL]
  | i :: sl, A, j, a => by
    show (j, a) ∈ dropL (drop1 A i) sl ↔ _
    rw [mem_dropL, mem_drop1]
    simp [and_assoc]
def tG (G : Gp) (F : Fm) (sl : List Nat) (g : IV → M Unit) : TG := fun v σ H Q => ∃ A ρ d ρ', Sts G F A σ ρ H ∧ RI G (zs F A) H v d ∧ g d ρ = .ok () ρ' ∧
  ∀ σ', Sts G F (dropL A sl) σ' ρ' H → Same (hid (zs F A) H) (hid (zs F (dropL A sl)) H) → σ'.length = σ.length → (∀ j, j ∉ sl → σ'[j]? = σ[j]?) → Q σ' H
structure DG (X : Cx) (tg : Expr) (sl : List Nat) (g : IV → M Unit) : Prop where
  run : ∀ F, PG X tg (tG (Gx X) F sl g)
theorem pg_imp {X : Cx} {e : Expr} {t t' : TG} (h : PG X e t) (i : ∀ v σ H Q, t' v σ H Q → t v σ H Q) : PG X e t' := ⟨fun pins s σ H v u Q I r q => h.run pins s σ H v u Q I r (i v σ H Q q)⟩
def gSet (i : Nat) : IV → M Unit
  | .im d => setIm i d
  | .tw _ => fun _ => .no
theorem dg_name {X : Cx} {i : Nat} {e : Expr} (h : PG X e (gName i)) : DG X e [i] (gSet i) := ⟨fun F => pg_imp h fun v σ H Q ⟨A, ρ, d, ρ', S, r, e, q⟩ => by
  cases d with
  | tw ds => cases e
  | im d =>
    obtain ⟨S', m⟩ := S.set (v := v) e r
    exact q _ S' m (by rw [List.length_set]) fun j hj => by rw [List.getElem?_set_ne]; intro z; exact hj (by rw [z]; exact List.mem_cons_self)⟩
def tGs (G : Gp) (F : Fm) (sl : List Nat) (g : List D → M Unit) : TGs := fun vs σ H Q => ∃ A ρ ds ρ', Sts G F A σ ρ H ∧ RDs G (hid (zs F A) H) vs ds ∧ g ds ρ = .ok () ρ' ∧
  ∀ σ', Sts G F (dropL A sl) σ' ρ' H → Same (hid (zs F A) H) (hid (zs F (dropL A sl)) H) → σ'.length = σ.length → (∀ j, j ∉ sl → σ'[j]? = σ[j]?) → Q σ' H
structure DGs (X : Cx) (ts : List Expr) (sl : List Nat) (g : List D → M Unit) : Prop where
  run : ∀ F, PGs X ts (tGs (Gx X) F sl g)
theorem pgs_imp {X : Cx} {e : List Expr} {t t' : TGs} (h : PGs X e t) (i : ∀ v σ H Q, t' v σ H Q → t v σ H Q) : PGs X e t' := ⟨fun pins s σ H v u Q I r q => h.run pins s σ H v u Q I r (i v σ H Q q)⟩
def gsNil : List D → M Unit
  | [] => M.ret ()
  | _ => fun _ => .no
def gsCons (g : IV → M Unit) (gs : List D → M Unit) : List D → M Unit
  | d :: ds => M.bind (g (.im d)) fun _ => gs ds
  | [] => fun _ => .no
theorem dgs_nil {X : Cx} : DGs X [] [] gsNil := ⟨fun F => pgs_imp pgs_nil fun vs σ H Q ⟨A, ρ, ds, ρ', S, r, e, q⟩ => by
  cases r with
  | nil =>
    obtain ⟨_, rfl⟩ := ret_ok e
    exact ⟨rfl, q σ S (Same.refl _) rfl fun _ _ => rfl⟩
  | cons _ _ => cases e⟩
theorem dgs_cons {X : Cx} {e : Expr} {es : List Expr} {sl sl' : List Nat} {g : IV → M Unit} {gs : List D → M Unit} (h1 : DG X e sl g) (h2 : DGs X es sl' gs)
    (hs : (assignEach (e :: es) X.env).map (·.2) = assign e X.env :: (assignEach es X.env).map (·.2) := by rfl) : DGs X (e :: es) (sl ++ sl') (gsCons g gs) := ⟨fun F => pgs_imp (pgs_cons (h1.run F) (h2.run F) hs) fun vs σ H Q ⟨A, ρ, ds, ρ', S, r, e, q⟩ => by
  cases r with
  | nil => cases e
  | cons r1 r2 =>
    obtain ⟨_, ρ1, e1, e⟩ := bind_ok e
    refine ⟨_, _, rfl, A, ρ, .im _, ρ1, S, r1, e1, fun σ1 S1 m1 l1 k1 => ?_⟩
    refine ⟨_, ρ1, _, ρ', S1, RDs.mono m1 r2, e, fun σ2 S2 m2 l2 k2 => ?_⟩
    have ed : dropL (dropL A sl) sl' = dropL A (sl ++ sl') := by unfold dropL; rw [List.foldl_append]
    rw [ed] at S2 m2
    refine q σ2 S2 (m1.trans m2) (l2.trans l1) fun j hj => ?_
    rw [k2 j fun z => hj (List.mem_append_right _ z), k1 j fun z => hj (List.mem_append_left _ z)]⟩
def gTupD (n : Nat) (gs : List D → M Unit) : IV → M Unit
  | .im (.tup ds) => if ds.length = n then gs ds else fun _ => .no
  | .tw ds => if ds.length = n then gs ds else fun _ => .no
  | _ => fun _ => .no
theorem dg_tup {X : Cx} {es : List Expr} {k n : Nat} {sl : List Nat} {gs : List D → M Unit} {pos : Pos} (hc : X.calm = true) (h : DGs X es sl gs)
    (hn : (assignEach es X.env).length = n := by rfl) (hst : (assignEach es X.env).findIdx? (·.1) = none := by rfl) : DG X (.Tuple es k pos) sl (gTupD n gs) := ⟨fun F => pg_imp (pg_tup hc (h.run F) hn hst) fun v σ H Q ⟨A, ρ, d, ρ', S, r, e, q⟩ => by
  have fin : ∀ {a vs ds}, v = .ref a → SqT X.K H a vs → RDs (Gx X) (hid (zs F A) H) vs ds → (if ds.length = n then gs ds else fun _ => .no) ρ = .ok () ρ' → gTup X.K n (tGs (Gx X) F sl gs) v σ H Q := fun {a vs ds} e1 e2 r e => by
    by_cases z : ds.length = n
    · rw [if_pos z] at e
      exact ⟨a, vs, e1, e2, by rw [r.len]; exact z, A, ρ, ds, ρ', S, r, e, q⟩
    · rw [if_neg z] at e; cases e
  cases d with
  | tw ds =>
    obtain ⟨a, vs, e1, e2, r⟩ := r
    exact fin e1 e2 r e
  | im d =>
    cases d with
    | tup ds =>
      cases r with
      | tup h1 h2 => exact fin rfl (Same.tupq hid_full h1.sq) h2 e
    | _ => cases e⟩
def Walk (G : Gp) (Hv : Hp) (J : It) (ds : List IV) : Prop := ∀ (i : Nat) (H : Hp) (Z : List Addr), ZOk Z H → Same Hv (hid Z H) →
  (∀ d, ds[i]? = some d → J.go i H ∧ ∀ x H', J.yld i H x H' → Same H H' ∧ RI G Z H' x d) ∧ (ds.length ≤ i → J.stop i H)
def tI (G : Gp) (F : Fm) (f : M (List IV)) : TI := fun σ H R => ∃ A ρ ds ρ', Sts G F A σ ρ H ∧ f ρ = .ok ds ρ' ∧
  ∀ J H', Sts G F A σ ρ' H' → Stp A H H' → Walk G (hid (zs F A) H') J ds → R J H'
structure DI (X : Cx) (tg iter : Expr) (f : M (List IV)) : Prop where
  run : ∀ F, PI X tg iter (tI (Gx X) F f)
theorem pi_imp {X : Cx} {e i : Expr} {t t' : TI} (h : PI X e i t) (j : ∀ σ H Q, t' σ H Q → t σ H Q) : PI X e i t' := ⟨fun pins s σ H R I q => h.run pins s σ H R I (j σ H R q)⟩
theorem walk_list {G : Gp} {Hv : Hp} {a : Addr} {vs : List V} {ds : List D} (h : SqL G.K Hv a vs) (r : RDs G Hv vs ds) : Walk G Hv (Itl G.K a) (ds.map .im) := fun i H Z z sm => by
  have hs : SqL G.K H a vs := hid_full.seq (sm.seq h)
  refine ⟨fun d hd => ?_, fun hl => ⟨vs, hs, by rw [List.length_map] at hl; rw [r.len]; exact hl⟩⟩
  rw [List.getElem?_map] at hd
  obtain ⟨d', e1, e2⟩ := Option.map_eq_some_iff.mp hd
  subst e2
  obtain ⟨v, h1, h2⟩ := r.get e1
  refine ⟨⟨vs, v, hs, h1⟩, fun x H' ⟨e, y⟩ => ?_⟩
  subst e
  have : x = v := Option.some.inj ((y vs hs).symm.trans h1)
  subst this
  exact ⟨Same.refl _, h2.mono sm⟩
theorem walk_tup {G : Gp} {Hv : Hp} {a : Addr} {vs : List V} {ds : List D} (h : SqT G.K Hv a vs) (r : RDs G Hv vs ds) : Walk G Hv (Itt G.K a) (ds.map .im) := fun i H Z z sm => by
  have hs : SqT G.K H a vs := Same.tupq hid_full (Same.tupq sm h)
  refine ⟨fun d hd => ?_, fun hl => ⟨vs, hs, by rw [List.length_map] at hl; rw [r.len]; exact hl⟩⟩
  rw [List.getElem?_map] at hd
  obtain ⟨d', e1, e2⟩ := Option.map_eq_some_iff.mp hd
  subst e2
  obtain ⟨v, h1, h2⟩ := r.get e1
  refine ⟨⟨vs, v, hs, h1⟩, fun x H' ⟨e, y⟩ => ?_⟩
  subst e
  have : x = v := Option.some.inj ((y vs hs).symm.trans h1)
  subst this
  exact ⟨Same.refl _, h2.mono sm⟩
theorem walk_range {G : Gp} {Hv : Hp} (lo : Int) (n : Nat) : Walk G Hv (Itr lo n) ((List.range n).map fun (i : Nat) => .im (.int (lo + i))) := fun i H Z z sm => by
  refine ⟨fun d hd => ?_, fun hl => by rw [List.length_map, List.length_range] at hl; exact hl⟩
  rw [List.getElem?_map] at hd
  obtain ⟨j, e1, e2⟩ := Option.map_eq_some_iff.mp hd
  have hj := List.getElem?_eq_some_iff.mp e1
  obtain ⟨hj1, hj2⟩ := hj
  rw [List.length_range] at hj1
  rw [List.getElem_range] at hj2
  subst hj2 e2
  refine ⟨hj1, fun x H' ⟨e, y⟩ => ?_⟩
  subst e y
  exact ⟨Same.refl _, .int _⟩
section
variable {X : Cx} {tg a b : Expr} {fa fb : ES} {es : List Expr} {fs : M (List RV)} {p pos : Pos}
def seqL : D → Option (List D)
  | .lst xs => some xs
  | _ => none
def seqT : D → Option (List D)
  | .tup xs => some xs
  | _ => none
def iSeq (fa : ES) : M (List IV) := M.bind fa fun r => M.bind (imm r) fun d => match d with
  | .lst xs => M.ret (xs.map .im)
  | .tup xs => M.ret (xs.map .im)
  | _ => fun _ => .no
theorem pi_or {X : Cx} {tg it : Expr} {t u : TI} (h : PI X tg it t) (k : PI X tg it u) : PI X tg it (fun σ H R => t σ H R ∨ u σ H R) := ⟨fun pins s σ H R I q => by
  rcases q with q | q
  · exact h.run pins s σ H R I q
  · exact k.run pins s σ H R I q⟩
theorem di_seq (ha : DE X a fa) : DI X tg a (iSeq fa) := ⟨fun F => pi_imp (pi_or (pi_list (ha.run F)) (pi_tup (ha.run F))) fun σ H R ⟨A, ρ, ds, ρ', S, e, q⟩ => by
  obtain ⟨r, ρ1, e1, e⟩ := bind_ok e
  obtain ⟨d, ρ2, e2, e⟩ := bind_ok e
  obtain ⟨rfl, rfl⟩ := imm_ok e2
  cases d with
  | lst xs =>
    obtain ⟨rfl, rfl⟩ := ret_ok e
    refine .inl ⟨A, ρ, _, _, S, e1, fun v H1 S1 m1 r1 => ?_⟩
    cases r1 with
    | lst h1 h2 => exact ⟨_, rfl, ⟨_, hid_full.seq h1⟩, q _ _ S1 m1 (walk_list h1 h2)⟩
  | tup xs =>
    obtain ⟨rfl, rfl⟩ := ret_ok e
    refine .inr ⟨A, ρ, _, _, S, e1, fun v H1 S1 m1 r1 => ?_⟩
    cases r1 with
    | tup h1 h2 => exact ⟨_, rfl, ⟨_, Same.tupq hid_full h1.sq⟩, q _ _ S1 m1 (walk_tup h1.sq h2)⟩
  | _ => cases e⟩
def isInt : D → Option Int
  | .int i => some i
  | _ => none
def rangeOk (i : Int) : Bool := decide (-(2 ^ 62) ≤ i) && decide (i < 2 ^ 62)
theorem rangeOk_of {i : Int} (h : rangeOk i = true) : -(2 ^ 62) ≤ i ∧ i < 2 ^ 62 := by
  unfold rangeOk at h
  rw [Bool.and_eq_true] at h
  exact ⟨of_decide_eq_true h.1, of_decide_eq_true h.2⟩
def rng1 : List D → Option (List IV)
  | [.int j] => if rangeOk j = true then some ((List.range j.toNat).map fun (i : Nat) => .im (.int (i : Int))) else none
  | _ => none
def iCall (g : List D → Option (List IV)) (fs : M (List RV)) : M (List IV) := M.bind fs fun rs => M.bind (vals rs) fun ds => M.opt (g ds)
theorem di_range1 (hg : Gl X "range") (hm : X.mg "range" = none) (ha : DA X [a] fs) (hs : starEach [a] X.env = [(false, eval a X.env)] := by rfl) : DI X tg (.Call (.Name "range" p) [a] [] pos) (iCall rng1 fs) := ⟨fun F => pi_imp (pi_range1 hg hm (ha.run F) hs) fun σ H R ⟨A, ρ, ds, ρ', S, e, q⟩ => by
  obtain ⟨rs, ρ1, e1, e⟩ := bind_ok e
  obtain ⟨xs, ρ2, e2, e⟩ := bind_ok e
  obtain ⟨l2, rfl⟩ := vals_ok e2
  obtain ⟨l3, rfl⟩ := opt_ok e
  refine ⟨A, ρ, rs, _, S, e1, fun vs H1 S1 m1 r1 => ?_⟩
  have rt := looks_rt S1 r1 l2
  unfold rng1 at l3
  split at l3
  · rename_i j
    by_cases z : rangeOk j = true
    · rw [if_pos z] at l3
      cases l3
      obtain ⟨v, rfl, r⟩ := rt.one
      obtain ⟨z1, z2⟩ := rangeOk_of z
      refine ⟨j, by rw [r.int], z1, z2, q _ _ S1 m1 ?_⟩
      have w := walk_range (G := Gx X) (Hv := hid (zs F A) H1) 0 j.toNat
      simpa using w
    · rw [if_neg z] at l3; cases l3
  · cases l3⟩
def rng2 : List D → Option (List IV)
  | [.int i, .int j] => if (rangeOk i && rangeOk j) = true then some ((List.range (j - i).toNat).map fun (k : Nat) => .im (.int (i + (k : Int)))) else none
  | _ => none
theorem di_range2 (hg : Gl X "range") (hm : X.mg "range" = none) (ha : DA X [a, b] fs) (hs : starEach [a, b] X.env = [(false, eval a X.env), (false, eval b X.env)] := by rfl) (hs2 : starEach [b] X.env = [(false, eval b X.env)] := by rfl) :
    DI X tg (.Call (.Name "range" p) [a, b] [] pos) (iCall rng2 fs) := ⟨fun F => pi_imp (pi_range2 hg hm (ha.run F) hs hs2) fun σ H R ⟨A, ρ, ds, ρ', S, e, q⟩ => by
  obtain ⟨rs, ρ1, e1, e⟩ := bind_ok e
  obtain ⟨xs, ρ2, e2, e⟩ := bind_ok e
  obtain ⟨l2, rfl⟩ := vals_ok e2
  obtain ⟨l3, rfl⟩ := opt_ok e
  refine ⟨A, ρ, rs, _, S, e1, fun vs H1 S1 m1 r1 => ?_⟩
  have rt := looks_rt S1 r1 l2
  unfold rng2 at l3
  split at l3
  · rename_i i j
    by_cases z : (rangeOk i && rangeOk j) = true
    · rw [if_pos z] at l3
      cases l3
      obtain ⟨v, u, rfl, r, r'⟩ := rt.two
      rw [Bool.and_eq_true] at z
      obtain ⟨z1, z2⟩ := rangeOk_of z.1
      obtain ⟨z3, z4⟩ := rangeOk_of z.2
      exact ⟨i, j, by rw [r.int, r'.int], ⟨z1, z2, z3, z4⟩, q _ _ S1 m1 (walk_range _ _)⟩
    · rw [if_neg z] at l3; cases l3
  · cases l3⟩
end
end Dv
namespace Dv
open PySem PySem.Spec PyProof.Rows L2
def okw (vs : List Nat) (ρ : Rho) : Bool := vs.all fun i => match ρ[i]? with
  | some (some (.ow _)) => false
  | some (some (.bo _)) => false
  | _ => true
def wipeR (ρ : Rho) : List Nat → Rho
  | [] => ρ
  | v :: vs => (wipeR ρ vs).set v none
def putB (ρ0 : Rho) : List Nat → Rho → Rho
  | [], ρ => ρ
  | v :: vs, ρ => (putB ρ0 vs ρ).set v (ρ0[v]?.getD none)
theorem wipeR_len (ρ : Rho) : ∀ vs, (wipeR ρ vs).length = ρ.length
  | [] => rfl
  | v :: vs => by unfold wipeR; rw [List.length_set, wipeR_len ρ vs]
theorem wipeR_some {ρ : Rho} {i : Nat} {x : SV} : ∀ {vs : List Nat}, (wipeR ρ vs)[i]? = some (some x) → ρ[i]? = some (some x) ∧ i ∉ vs
  | [], h => ⟨h, by simp⟩
  | v :: vs, h => by
    unfold wipeR at h
    by_cases hi : v = i
    · subst hi
      by_cases hv : v < (wipeR ρ vs).length
      · rw [List.getElem?_set_self hv] at h; cases h
      · rw [List.getElem?_eq_none (by rw [List.length_set]; omega)] at h; cases h
    · rw [List.getElem?_set_ne hi] at h
      obtain ⟨h1, h2⟩ := wipeR_some h
      exact ⟨h1, by simp only [List.mem_cons, not_or]; exact ⟨fun e => hi e.symm, h2⟩⟩
theorem wipeR_out {ρ : Rho} {i : Nat} : ∀ {vs : List Nat}, i ∉ vs → (wipeR ρ vs)[i]? = ρ[i]?
  | [], _ => rfl
  | v :: vs, h => by
    unfold wipeR
    rw [List.getElem?_set_ne fun e => h (by rw [e]; exact List.mem_cons_self), wipeR_out fun e => h (List.mem_cons_of_mem _ e)]
theorem putB_len (ρ0 : Rho) : ∀ vs ρ, (putB ρ0 vs ρ).length = ρ.length
  | [], _ => rfl
  | v :: vs, ρ => by unfold putB; rw [List.length_set, putB_len ρ0 vs ρ]
theorem putB_out {ρ0 : Rho} {i : Nat} : ∀ {vs : List Nat} {ρ : Rho}, i ∉ vs → (putB ρ0 vs ρ)[i]? = ρ[i]?
  | [], _, _ => rfl
  | v :: vs, ρ, h => by
    unfold putB
    rw [List.getElem?_set_ne fun e => h (by rw [e]; exact List.mem_cons_self), putB_out fun e => h (List.mem_cons_of_mem _ e)]
theorem putB_in {ρ0 : Rho} {i : Nat} : ∀ {vs : List Nat} {ρ : Rho}, i ∈ vs → i < ρ.length → (putB ρ0 vs ρ)[i]? = some (ρ0[i]?.getD none)
  | v :: vs, ρ, h, hl => by
    unfold putB
    by_cases z : v = i
    · subst z
      rw [List.getElem?_set_self (by rw [putB_len]; exact hl)]
    · rw [List.getElem?_set_ne z]
      exact putB_in ((List.mem_cons.mp h).resolve_left fun e => z e.symm) hl
theorem wipe_at {σ : St} {i : Nat} : ∀ {vs : List Nat}, i ∉ vs → (wipe σ vs)[i]? = σ[i]?
  | [], _ => rfl
  | v :: vs, h => by
    unfold wipe
    rw [List.getElem?_set_ne fun e => h (by rw [e]; exact List.mem_cons_self), wipe_at fun e => h (List.mem_cons_of_mem _ e)]
theorem wipe_in {σ : St} {i : Nat} : ∀ {vs : List Nat}, i ∈ vs → i < σ.length → (wipe σ vs)[i]? = some none
  | v :: vs, h, hl => by
    unfold wipe
    by_cases z : v = i
    · subst z
      rw [List.getElem?_set_self (by rw [wipe_length]; exact hl)]
    · rw [List.getElem?_set_ne z]
      exact wipe_in ((List.mem_cons.mp h).resolve_left fun e => z e.symm) hl
theorem wipe_eq {σ τ : St} {vs : List Nat} (hl : τ.length = σ.length) (h : ∀ j, j ∉ vs → τ[j]? = σ[j]?) : wipe τ vs = wipe σ vs := by
  apply List.ext_getElem?
  intro j
  by_cases z : j ∈ vs
  · by_cases hj : j < σ.length
    · rw [wipe_in z hj, wipe_in z (by omega)]
    · rw [List.getElem?_eq_none (by rw [wipe_length]; omega), List.getElem?_eq_none (by rw [wipe_length]; omega)]
  · rw [wipe_at z, wipe_at z, h j z]
section
variable {G : Gp} {F : Fm} {A : Own} {σ : St} {ρ ρ' ρ0 : Rho} {H H' : Hp} {vs : List Nat} {p : Addr}
theorem Sts.wipe (S : Sts G F A σ ρ H) (ha : ∀ i a, (i, a) ∈ A → i ∉ vs) : Sts G F A (L2.wipe σ vs) (wipeR ρ vs) H := by
  have ow : ∀ {j a ys}, j ∉ vs → OwAt G F A σ H j a ys → OwAt G F A (L2.wipe σ vs) H j a ys := fun {j a ys} hj ⟨h1, h2⟩ => ⟨by rw [wipe_at hj]; exact h1, h2⟩
  refine ⟨by rw [wipe_length, wipeR_len]; exact S.len, fun i d h => ?_, fun i xs h => ?_, fun i xs h => ?_, fun i a h => ?_, S.uni, fun i a h => ?_, S.keep, S.zok⟩
  · obtain ⟨h, z⟩ := wipeR_some h
    obtain ⟨v, h1, h2⟩ := S.im i d h
    exact ⟨v, by rw [wipe_at z]; exact h1, h2⟩
  · obtain ⟨h, z⟩ := wipeR_some h
    obtain ⟨a, h1, h2, h3, h4⟩ := S.ow i xs h
    exact ⟨a, h1, h2, h3, ow z h4⟩
  · obtain ⟨h, z⟩ := wipeR_some h
    obtain ⟨a, h1, h2, h4⟩ := S.bo i xs h
    exact ⟨a, h1, h2, ow z h4⟩
  · rw [wipeR_out (ha i a h)]
    exact S.own i a h
  · obtain ⟨h1, xs, h2⟩ := S.bor i a h
    exact ⟨h1, xs, by rw [wipeR_out (ha i a h1)]; exact h2⟩
theorem Sts.back {H0 : Hp} (S : Sts G F A (L2.wipe σ vs) ρ H) (S0 : Sts G F A σ ρ0 H0) (m : Same (hid (zs F A) H0) (hid (zs F A) H)) (ha : ∀ i a, (i, a) ∈ A → i ∉ vs) (hw : okw vs ρ0 = true) : Sts G F A σ (putB ρ0 vs ρ) H := by
  have hl : σ.length = ρ.length := by rw [← S.len, wipe_length]
  have ow : ∀ {j a ys}, j ∉ vs → OwAt G F A (L2.wipe σ vs) H j a ys → OwAt G F A σ H j a ys := fun {j a ys} hj ⟨h1, h2⟩ => ⟨by rw [wipe_at hj] at h1; exact h1, h2⟩
  have none_of : ∀ i, i ∈ vs → (∀ xs, ρ0[i]? ≠ some (some (.ow xs))) ∧ (∀ xs, ρ0[i]? ≠ some (some (.bo xs))) := fun i hi => by
    have q := List.all_eq_true.mp hw i hi
    constructor
    · intro xs e; rw [e] at q; cases q
    · intro xs e; rw [e] at q; cases q
  have at_in : ∀ {i x}, i ∈ vs → (putB ρ0 vs ρ)[i]? = some (some x) → ρ0[i]? = some (some x) := fun {i x} hi h => by
    have hlt : i < ρ.length := by
      by_cases z : i < ρ.length
      · exact z
      · rw [List.getElem?_eq_none (by rw [putB_len]; omega)] at h; cases h
    rw [putB_in hi hlt] at h
    have h := Option.some.inj h
    cases e : ρ0[i]? with
    | none => rw [e] at h; cases h
    | some y => rw [e] at h; rw [← h]; rfl
  refine ⟨by rw [putB_len]; exact hl, fun i d h => ?_, fun i xs h => ?_, fun i xs h => ?_, fun i a h => ?_, S.uni, fun i a h => ?_, S.keep, S.zok⟩
  · by_cases z : i ∈ vs
    · obtain ⟨v, h1, h2⟩ := S0.im i d (at_in z h)
      exact ⟨v, h1, h2.mono m⟩
    · rw [putB_out z] at h
      obtain ⟨v, h1, h2⟩ := S.im i d h
      rw [wipe_at z] at h1
      exact ⟨v, h1, h2⟩
  · by_cases z : i ∈ vs
    · exact absurd (at_in z h) ((none_of i z).1 xs)
    · rw [putB_out z] at h
      obtain ⟨a, h1, h2, h3, h4⟩ := S.ow i xs h
      exact ⟨a, h1, h2, h3, ow z h4⟩
  · by_cases z : i ∈ vs
    · exact absurd (at_in z h) ((none_of i z).2 xs)
    · rw [putB_out z] at h
      obtain ⟨a, h1, h2, h4⟩ := S.bo i xs h
      exact ⟨a, h1, h2, ow z h4⟩
  · rw [putB_out (ha i a h)]
    exact S.own i a h
  · obtain ⟨h1, xs, h2⟩ := S.bor i a h
    exact ⟨h1, xs, by rw [putB_out (ha i a h1)]; exact h2⟩
theorem hid_upd {Z : List Addr} {o : HO} (hp : p ∈ Z) : hid Z (upd H p o) = hid Z H := by
  funext a
  unfold hid
  by_cases z : a ∈ Z
  · rw [if_pos z, if_pos z]
  · rw [if_neg z, if_neg z, upd_ne fun e => z (by rw [e]; exact hp)]
theorem zs_hide {a : Addr} : a ∈ zs (F.hide p) A ↔ a = p ∨ a ∈ zs F A := by
  rw [mem_zs, mem_zs]
  show (a ∈ p :: F.Z ∨ _) ↔ _
  rw [List.mem_cons, or_assoc]
theorem Sts.hupd {o : HO} (S : Sts G (F.hide p) A σ ρ H) (h0 : F.H0 p = none) (hz : p ∉ zs F A) : Sts G (F.hide p) A σ ρ (upd H p o) := by
  have hm : p ∈ zs (F.hide p) A := zs_hide.mpr (.inl rfl)
  have np : ∀ j a, (j, a) ∈ A → a ≠ p := fun j a h z => hz (mem_zs.mpr (.inr ⟨j, z ▸ h⟩))
  have ow : ∀ {j a ys}, (j, a) ∈ A → OwAt G (F.hide p) A σ H j a ys → OwAt G (F.hide p) A σ (upd H p o) j a ys := fun {j a ys} hj ⟨h1, vs, h2, h3⟩ => ⟨h1, vs, by rw [upd_ne (np j a hj)]; exact h2, by rw [hid_upd hm]; exact h3⟩
  refine ⟨S.len, fun i d h => ?_, fun i xs h => ?_, fun i xs h => ?_, S.own, S.uni, S.bor, fun a u h1 h2 => ?_, fun a h => ?_⟩
  · obtain ⟨v, h1, h2⟩ := S.im i d h
    exact ⟨v, h1, by rw [hid_upd hm]; exact h2⟩
  · obtain ⟨a, h1, h2, h3, h4⟩ := S.ow i xs h
    exact ⟨a, h1, h2, h3, ow h1 h4⟩
  · obtain ⟨a, h1, h2, h4⟩ := S.bo i xs h
    exact ⟨a, h1, h2, ow h1 h4⟩
  · have ne : a ≠ p := fun e => by
      rw [e] at h1
      exact absurd ((show F.H0 p = some u from h1).symm.trans h0) (fun z => nomatch z)
    rw [upd_ne ne]
    exact S.keep a u h1 h2
  · by_cases z : a = p
    · rw [z, upd_same]; exact fun q => nomatch q
    · rw [upd_ne z]; exact S.zok a h
end
theorem dropL_same {A : Own} {sl vs : List Nat} (hsl : ∀ j ∈ sl, j ∈ vs) (ha : ∀ i a, (i, a) ∈ A → i ∉ vs) : dropL A sl = A := by
  induction sl with
  | nil => rfl
  | cons j sl ih =>
    show dropL (drop1 A j) sl = A
    have e : drop1 A j = A := by
      unfold drop1
      rw [List.filter_eq_self]
      rintro ⟨i, a⟩ h
      have : i ≠ j := fun z => ha i a h (z ▸ hsl j List.mem_cons_self)
      simpa using this
    rw [e]
    exact ih fun k hk => hsl k (List.mem_cons_of_mem _ hk)
structure DTs (X : Cx) (ifs : List Expr) (f : M Bool) : Prop where
  run : ∀ F, PTs X ifs (tT (Gx X) F f)
theorem pts_imp {X : Cx} {e : List Expr} {t t' : TT} (h : PTs X e t) (i : ∀ σ H Q, t' σ H Q → t σ H Q) : PTs X e t' := ⟨fun pins s σ H Q I q => h.run pins s σ H Q I (i σ H Q q)⟩
def bYes : M Bool := M.ret true
theorem dts_nil {X : Cx} : DTs X [] bYes := ⟨fun F => pts_imp pts_nil fun σ H Q ⟨A, ρ, b, ρ', S, e, q⟩ => by
  obtain ⟨rfl, rfl⟩ := ret_ok e
  exact q H S (Stp.refl _ _)⟩
theorem dts_one {X : Cx} {c : Expr} {g : M Bool} (h : DT X c g) : DTs X [c] g := ⟨fun F => pts_one (h.run F)⟩
def wipeM (vs : List Nat) : M Unit := fun ρ => .ok () (wipeR ρ vs)
def room (acc : List D) : Option Unit := if acc.length < 1000000 then some () else none
theorem room_ok {acc : List D} {u : Unit} (h : room acc = some u) : acc.length < sizeLine := by
  unfold room at h
  by_cases z : acc.length < 1000000
  · exact len_lt z
  · rw [if_neg z] at h; cases h
def lcLoop (vs : List Nat) (g : IV → M Unit) (gt : M Bool) (fe : ES) : List IV → List D → M (List D)
  | [], acc => M.ret acc
  | d :: ds, acc => M.bind (g d) fun _ => M.bind gt fun b => match b with
    | true => M.bind fe fun r => M.bind (imm r) fun x => M.bind (M.opt (room acc)) fun _ => M.bind (wipeM vs) fun _ => lcLoop vs g gt fe ds (acc ++ [x])
    | false => M.bind (wipeM vs) fun _ => lcLoop vs g gt fe ds acc
def nLc (vs : List Nat) (fi : M (List IV)) (g : IV → M Unit) (gt : M Bool) (fe : ES) : M (List D) := M.bind fi fun ds => fun ρ => match okw vs ρ with
  | true => match lcLoop vs g gt fe ds [] (wipeR ρ vs) with
    | .ok acc ρ' => .ok acc (putB ρ vs ρ')
    | .ex e ρ' => .ex e (putB ρ vs ρ')
    | .no => .no
  | false => .no
theorem stp_hide {F : Fm} {A : Own} {H H' : Hp} {p : Addr} (hp : H p = none) (m : Stp A H H') : Same (hid (zs F A) H) (hid (zs (F.hide p) A) H') := fun a o e => by
  obtain ⟨e1, e2⟩ := hid_some e
  refine hid_of (fun z => ?_) (m a o e2 fun i z => e1 (mem_zs.mpr (.inr ⟨i, z⟩)))
  rcases zs_hide.mp z with rfl | z
  · rw [hp] at e2; cases e2
  · exact e1 z
theorem stp_upd {A : Own} {H H' : Hp} {p : Addr} {o : HO} (hp : H p = none) (m : Stp A H H') : Stp A H (upd H' p o) := fun a u e n => by
  rw [upd_ne (ne_of_none e hp)]
  exact m a u e n
theorem lc_rd {G : Gp} {F : Fm} {vs sl : List Nat} {fi : M (List IV)} {g : IV → M Unit} {gt : M Bool} {fe : ES} {σ : St} {H : Hp} {Q : VK} (hsl : ∀ j ∈ sl, j ∈ vs) (h : tN G F (nLc vs fi g gt fe) σ H Q) :
    tLc (tI G F fi) (fun v σ H Q => ∃ F, tG G F sl g v σ H Q) (fun σ H Q => ∃ F, tT G F gt σ H Q) (fun σ H Q => ∃ F, tD G F fe σ H Q) vs σ H Q := by
  obtain ⟨A, ρ, res, ρ', S, e, q⟩ := h
  obtain ⟨ds, ρ1, e1, e⟩ := bind_ok e
  refine ⟨A, ρ, ds, ρ1, S, e1, fun J H1 S1 m1 wk D hD => ?_⟩
  cases ew : okw vs ρ1 with
  | false => rw [ew] at e; cases e
  | true =>
    rw [ew] at e
    dsimp only at e
    cases el : lcLoop vs g gt fe ds [] (wipeR ρ1 vs) with
    | no => rw [el] at e; cases e
    | ex x r => rw [el] at e; cases e
    | ok acc0 ρe =>
      rw [el] at e
      cases e
      have ha : ∀ i a, (i, a) ∈ A → i ∉ vs := fun i a hi hv => by
        have z := List.all_eq_true.mp ew i hv
        obtain ⟨xs, o | o⟩ := S1.own i a hi
        · rw [o] at z; cases z
        · rw [o] at z; cases z
      have h0 := S1.h0 hD
      have hz := S1.zall.out hD
      have sm0 := Same.of_new (o := .lst []) hD
      have Sw : Sts G (F.hide D) A (L2.wipe σ vs) (wipeR ρ1 vs) (upd H1 D (.lst [])) := (S1.wipe ha).hide hD sm0 (by rw [upd_same]; exact fun z => nomatch z)
      refine ⟨fun i m H => ∃ ρi acc accV, m = ds.length - i ∧ i ≤ ds.length ∧ Sts G (F.hide D) A (L2.wipe σ vs) ρi H ∧ Stp A H1 H ∧ H D = some (.lst accV) ∧ RDs G (hid (zs (F.hide D) A) H) accV acc ∧ lcLoop vs g gt fe (ds.drop i) acc ρi = .ok res ρe,
        ⟨ds.length, wipeR ρ1 vs, [], [], by simp, Nat.zero_le _, Sw, Stp.of sm0, upd_same, .nil, by simpa using el⟩, ?_⟩
      rintro i m Hi ⟨ρi, acc, accV, rfl, hi, Si, mi, hDi, rdi, ei⟩
      have W := wk i Hi (zs (F.hide D) A) Si.zall (stp_hide hD mi)
      by_cases hlt : i < ds.length
      · obtain ⟨go, yl⟩ := W.1 ds[i] (List.getElem?_eq_getElem hlt)
        have hm : D ∈ zs (F.hide D) A := zs_hide.mpr (.inl rfl)
        rw [List.drop_eq_getElem_cons hlt] at ei
        refine .inr ⟨go, fun H' => ∃ ρi acc accV, i + 1 ≤ ds.length ∧ Sts G (F.hide D) A (L2.wipe σ vs) ρi H' ∧ Stp A H1 H' ∧ H' D = some (.lst accV) ∧ RDs G (hid (zs (F.hide D) A) H') accV acc ∧ lcLoop vs g gt fe (ds.drop (i + 1)) acc ρi = .ok res ρe, fun H' ⟨ρn, an, av, a1, a2, a3, a4, a5, a6⟩ => ⟨ds.length - (i + 1), by omega, ρn, an, av, rfl, a1, a2, a3, a4, a5, a6⟩, fun x H' hy => ?_⟩
        obtain ⟨smy, rix⟩ := yl x H' hy
        have Sy := Si.same smy
        have my := mi.trans (Stp.of smy)
        obtain ⟨_, ρ2, g1, ei⟩ := bind_ok ei
        refine ⟨F.hide D, A, ρi, ds[i], ρ2, Sy, rix, g1, fun σ2 S2 m2 l2 k2 => ?_⟩
        rw [dropL_same hsl ha] at S2 m2
        have hw : L2.wipe σ2 vs = L2.wipe σ vs := by
          rw [wipe_eq (τ := σ2) (σ := L2.wipe σ vs) l2 fun j hj => k2 j fun z => hj (hsl j z)]
          exact wipe_eq (wipe_length σ vs) fun j hj => wipe_at hj
        refine ⟨hw, F.hide D, A, ρ2, ?_⟩
        obtain ⟨b, ρ3, g3, ei⟩ := bind_ok ei
        refine ⟨b, ρ3, S2, g3, fun H3 S3 m3 => ?_⟩
        have nD : ∀ i, (i, D) ∉ A := fun i z => hz (mem_zs.mpr (.inr ⟨i, z⟩))
        have hDy : H' D = some (.lst accV) := smy D _ hDi
        have rdy := rdi.mono (Same.hid (Z := zs (F.hide D) A) smy)
        have h3 : H3 D = some (.lst accV) := m3 D _ hDy nD
        have my3 := my.trans m3
        cases b with
        | false =>
          obtain ⟨_, ρ4, g4, ei⟩ := bind_ok ei
          cases g4
          show ∃ _, _
          exact ⟨_, acc, accV, hlt, hw ▸ S3.wipe ha, my3, h3, rdy.mono (Stp.hid m3), ei⟩
        | true =>
          obtain ⟨r, ρ4, g4, ei⟩ := bind_ok ei
          obtain ⟨y, ρ5, g5, ei⟩ := bind_ok ei
          obtain ⟨rfl, rfl⟩ := imm_ok g5
          obtain ⟨_, ρ6, g6, ei⟩ := bind_ok ei
          obtain ⟨l6, rfl⟩ := opt_ok g6
          obtain ⟨_, ρ7, g7, ei⟩ := bind_ok ei
          cases g7
          show ∃ _, _
          refine ⟨F.hide D, A, ρ3, _, _, S3, g4, fun v H4 S4 m4 r4 => ?_⟩
          have h4 : H4 D = some (.lst accV) := m4 D _ h3 nD
          have my4 := my3.trans m4
          have rd4 := (rdy.mono (Stp.hid m3)).mono (Stp.hid (F := F.hide D) m4)
          refine ⟨accV, h4, by rw [rd4.len]; exact room_ok l6, _, acc ++ [y], accV ++ [v], hlt, hw ▸ (S4.wipe ha).hupd h0 hz, stp_upd hD my4, upd_same, ?_, ei⟩
          · rw [hid_upd hm]; exact rd4.app (.cons r4 .nil)
      · have ed : i = ds.length := by omega
        subst ed
        rw [List.drop_length] at ei
        obtain ⟨rfl, rfl⟩ := ret_ok ei
        have mb : Same (hid (zs (F.hide D) A) (upd H1 D (.lst []))) (hid (zs (F.hide D) A) Hi) := fun a o e => by
          obtain ⟨e1, e2⟩ := hid_some e
          have ne : a ≠ D := fun z => e1 (zs_hide.mpr (.inl z))
          rw [upd_ne ne] at e2
          exact hid_of e1 (mi a o e2 fun i z => e1 (mem_zs.mpr (.inr ⟨i, z⟩)))
        exact .inl ⟨W.2 (Nat.le_refl _), q D accV Hi (Si.back (S1.hide hD sm0 (by rw [upd_same]; exact fun z => nomatch z)) mb ha ew) h0 hz (m1.trans mi) (back_none S m1 S1 hD) hDi rdi⟩
section
variable {X : Cx} {elt tg iter : Expr} {ifs : List Expr} {scope : Scope} {own : List (Str × Nat)} {pos : Pos} {fi : M (List IV)} {g : IV → M Unit} {gt : M Bool} {fe : ES} {sl : List Nat}
theorem DE.any {e : Expr} {f : ES} (h : DE X e f) : PE X e (fun σ H Q => ∃ F, tD (Gx X) F f σ H Q) := ⟨fun pins s σ H Q I ⟨F, q⟩ => (h.run F).run pins s σ H Q I q⟩
theorem DTs.any {e : List Expr} {f : M Bool} (h : DTs X e f) : PTs X e (fun σ H Q => ∃ F, tT (Gx X) F f σ H Q) := ⟨fun pins s σ H Q I ⟨F, q⟩ => (h.run F).run pins s σ H Q I q⟩
theorem DG.any {e : Expr} {f : IV → M Unit} (h : DG X e sl f) : PG X e (fun v σ H Q => ∃ F, tG (Gx X) F sl f v σ H Q) := ⟨fun pins s σ H v u Q I r ⟨F, q⟩ => (h.run F).run pins s σ H v u Q I r q⟩
theorem dn_lc (hc : X.calm = true) (hN : X.N.Nodup) (hi : DI X tg iter fi) (ok : BlkOk X.N X.env.scope scope own) (hsl : ∀ j ∈ sl, j ∈ own.map (·.2))
    (hg : ∀ (s : Shared) (H : Hp) (C : Addr) (cl : List (Str × Addr)) (fp : List Addr), DG (X.blk s H scope (compEnvC scope cl C X.env) fp) tg sl g) (ht : ∀ (s : Shared) (H : Hp) (C : Addr) (cl : List (Str × Addr)) (fp : List Addr), DTs (X.blk s H scope (compEnvC scope cl C X.env) fp) ifs gt)
    (he : ∀ (s : Shared) (H : Hp) (C : Addr) (cl : List (Str × Addr)) (fp : List Addr), DE (X.blk s H scope (compEnvC scope cl C X.env) fp) elt fe) (hs : ∀ x, foldedSetIterable iter X.env x = pure x := by intro _; rfl) :
    DN X (.ListComp elt [⟨tg, iter, ifs, 0⟩] scope pos) (nLc (own.map (·.2)) fi g gt fe) := ⟨fun F => pe_imp (pe_lc hc hN (hi.run F) ok (fun s H C cl fp => (hg s H C cl fp).any) (fun s H C cl fp => (ht s H C cl fp).any) (fun s H C cl fp => (he s H C cl fp).any) hs) fun σ H Q h => lc_rd hsl h⟩
end
end Dv
namespace Dv
open PySem PySem.Spec PyProof.Rows L2
inductive Fl where
  | nx
  | rt (d : D)
  | rn (xs : List D)
  | bk
  | ct
def Sto (A A' : Own) (H H' : Hp) : Prop := ∀ a o, H a = some o → (∀ i, (i, a) ∉ A) → H' a = some o ∧ ∀ i, (i, a) ∉ A'
theorem Sto.refl (A : Own) (H : Hp) : Sto A A H H := fun _ _ h n => ⟨h, n⟩
theorem Sto.trans {A A1 A2 : Own} {H H1 H2 : Hp} (a : Sto A A1 H H1) (b : Sto A1 A2 H1 H2) : Sto A A2 H H2 := fun x o h n =>
  let ⟨h1, n1⟩ := a x o h n
  b x o h1 n1
theorem Sto.of {A : Own} {H H' : Hp} (m : Stp A H H') : Sto A A H H' := fun a o h n => ⟨m a o h n, n⟩
theorem Sto.less {A A' : Own} {H : Hp} (h : ∀ i a, (i, a) ∈ A' → (i, a) ∈ A) : Sto A A' H H := fun a o e n => ⟨e, fun i z => n i (h i a z)⟩
theorem Sto.hid {A A' : Own} {H H' : Hp} {F : Fm} (e : Sto A A' H H') : Same (Dv.hid (zs F A) H) (Dv.hid (zs F A') H') := fun a o h => by
  obtain ⟨h1, h2⟩ := hid_some h
  obtain ⟨h3, h4⟩ := e a o h2 fun i z => h1 (mem_zs.mpr (.inr ⟨i, z⟩))
  refine hid_of (fun z => ?_) h3
  rcases mem_zs.mp z with z | ⟨i, z⟩
  · exact h1 (mem_zs.mpr (.inl z))
  · exact h4 i z
def Kp (G : Gp) (F : Fm) (A : Own) (H : Hp) (ρ' : Rho) (N : St → Hp → Prop) : Prop := ∀ A' σ' H', Sts G F A' σ' ρ' H' → Sto A A' H H' → N σ' H'
theorem Kp.sto {G : Gp} {F : Fm} {A A1 : Own} {H H1 : Hp} {ρ' : Rho} {N : St → Hp → Prop} (k : Kp G F A H ρ' N) (m : Sto A A1 H H1) : Kp G F A1 H1 ρ' N := fun A' σ' H' S m' => k A' σ' H' S (m.trans m')
def OutS (G : Gp) (F : Fm) (A : Own) (H : Hp) (D : Ends) : Res Fl → Prop
  | .ok .nx ρ' => Kp G F A H ρ' D.nx
  | .ok .bk ρ' => Kp G F A H ρ' D.bk
  | .ok .ct ρ' => Kp G F A H ρ' D.ct
  | .ok (.rt d) ρ' => ∀ v A' σ' H', Sts G F A' σ' ρ' H' → RD G (hid F.Z H') v d → D.rt v H'
  | .ok (.rn xs) ρ' => ∀ p vs A' σ' H', Sts G F A' σ' ρ' H' → F.H0 p = none → H' p = some (.lst vs) → RDs G (hid (p :: F.Z) H') vs xs → D.rt (.ref p) H'
  | _ => False
theorem OutS.sto {G : Gp} {F : Fm} {A A1 : Own} {H H1 : Hp} {D : Ends} (m : Sto A A1 H H1) : ∀ {r : Res Fl}, OutS G F A H D r → OutS G F A1 H1 D r
  | .ok .nx ρ', k => Kp.sto k m
  | .ok .bk ρ', k => Kp.sto k m
  | .ok .ct ρ', k => Kp.sto k m
  | .ok (.rt d) ρ', k => k
  | .ok (.rn xs) ρ', k => k
  | .no, k => k
  | .ex _ _, k => k
abbrev SS := M Fl
def tS (G : Gp) (F : Fm) (f : SS) : TS := fun D σ H => ∃ A ρ, Sts G F A σ ρ H ∧ OutS G F A H D (f ρ)
structure DS (X : Cx) (st : Stmt) (f : SS) : Prop where
  run : ∀ F, PS X st (tS (Gx X) F f)
structure DSs (X : Cx) (st : List Stmt) (f : SS) : Prop where
  run : ∀ F, PSs X st (tS (Gx X) F f)
theorem out_bind {G : Gp} {F : Fm} {A : Own} {H : Hp} {D : Ends} {α : Type} {m : M α} {k : α → SS} {ρ : Rho} (h : OutS G F A H D (M.bind m k ρ)) : ∃ a ρ1, m ρ = .ok a ρ1 ∧ OutS G F A H D (k a ρ1) := by
  unfold M.bind at h
  cases e : m ρ with
  | no => rw [e] at h; exact h.elim
  | ex x r => rw [e] at h; exact h.elim
  | ok a r => rw [e] at h; exact ⟨a, r, rfl, h⟩
theorem out_opt {G : Gp} {F : Fm} {A : Own} {H : Hp} {D : Ends} {α : Type} {o : Option α} {k : α → SS} {ρ : Rho} (h : OutS G F A H D (M.bind (M.opt o) k ρ)) : ∃ a, o = some a ∧ OutS G F A H D (k a ρ) := by
  obtain ⟨a, ρ1, e, h⟩ := out_bind h
  obtain ⟨e1, rfl⟩ := opt_ok e
  exact ⟨a, e1, h⟩
section
variable {X : Cx} {a b e : Expr} {st : Stmt} {sts body els : List Stmt} {fa fb : ES} {f g h : SS} {pos : Pos} {i : Nat}
def sSeq (f g : SS) : SS := M.bind f fun fl => match fl with
  | .nx => g
  | o => M.ret o
def sNil : SS := M.ret .nx
theorem dss_nil : DSs X [] sNil := ⟨fun F => pss_imp pss_nil fun D σ H ⟨A, ρ, S, o⟩ => o A σ H S (Sto.refl _ _)⟩
theorem dss_one (h : DS X st f) : DSs X [st] f := ⟨fun F => pss_one (h.run F)⟩
theorem dss_cons (h : DS X st f) (k : DSs X sts g) : DSs X (st :: sts) (sSeq f g) := ⟨fun F => pss_imp (pss_cons (h.run F) (k.run F)) fun D σ H ⟨A, ρ, S, o⟩ => by
  obtain ⟨fl, ρ1, e1, o⟩ := out_bind o
  refine ⟨A, ρ, S, ?_⟩
  rw [e1]
  cases fl with
  | nx => exact fun A' σ' H' S' m => ⟨A', ρ1, S', OutS.sto m o⟩
  | _ => exact o⟩
def sPass : SS := M.ret .nx
theorem ds_pass : DS X (.Pass pos) sPass := ⟨fun F => ps_imp ps_pass fun D σ H ⟨A, ρ, S, o⟩ => o A σ H S (Sto.refl _ _)⟩
def sBreak : SS := M.ret .bk
theorem ds_break : DS X (.Break pos) sBreak := ⟨fun F => ps_imp ps_break fun D σ H ⟨A, ρ, S, o⟩ => o A σ H S (Sto.refl _ _)⟩
def sCont : SS := M.ret .ct
theorem ds_cont : DS X (.Continue pos) sCont := ⟨fun F => ps_imp ps_continue fun D σ H ⟨A, ρ, S, o⟩ => o A σ H S (Sto.refl _ _)⟩
def sNever : SS := fun _ => .no
theorem ds_never : DS X st sNever := ⟨fun F => ps_imp ps_never fun D σ H ⟨A, ρ, S, o⟩ => o⟩
def sExpr (fa : ES) : SS := M.bind fa fun _ => M.ret .nx
theorem ds_expr (ha : DE X e fa) (hs : swapsWith e none pos.line X.env = pure false := by rfl) : DS X (.Expr e pos) (sExpr fa) := ⟨fun F => ps_imp (ps_expr (ha.run F) hs) fun D σ H ⟨A, ρ, S, o⟩ => by
  obtain ⟨r, ρ1, e1, o⟩ := out_bind o
  exact ⟨A, ρ, r, ρ1, S, e1, fun v H1 S1 m1 r1 => o A σ H1 S1 (Sto.of m1)⟩⟩
def sRet (fa : ES) : SS := M.bind fa fun r => fun ρ => match r with
  | .im d => .ok (.rt d) ρ
  | .al i => match ρ[i]? with
    | some (some (.ow xs)) => .ok (.rn xs) ρ
    | _ => .no
theorem zs_Z {F : Fm} {A : Own} {H : Hp} : Same (hid (zs F A) H) (hid F.Z H) := hid_less fun a h => mem_zs.mpr (.inl h)
theorem ds_ret (ha : DE X e fa) : DS X (.Return (some e) pos) (sRet fa) := ⟨fun F => ps_imp (ps_ret (ha.run F)) fun D σ H ⟨A, ρ, S, o⟩ => by
  obtain ⟨r, ρ1, e1, o⟩ := out_bind o
  refine ⟨A, ρ, r, ρ1, S, e1, fun v H1 S1 m1 r1 => ?_⟩
  cases r with
  | im d => exact o v A σ H1 S1 (r1.mono zs_Z)
  | al i =>
    obtain ⟨a, ha, rfl⟩ := r1
    cases q : ρ1[i]? with
    | none => simp only [q] at o; exact o.elim
    | some x =>
      cases x with
      | none => simp only [q] at o; exact o.elim
      | some x =>
        cases x with
        | ow xs =>
          simp only [q] at o
          obtain ⟨b, hb, n1, n2, _, vs, h2, h3⟩ := S1.ow i xs q
          obtain rfl := (S1.uni i i a b ha hb).mp rfl
          refine o a vs A σ H1 S1 n2 h2 (h3.mono (hid_less fun c hc => ?_))
          rcases List.mem_cons.mp hc with rfl | hc
          · exact mem_zs.mpr (.inr ⟨i, hb⟩)
          · exact mem_zs.mpr (.inl hc)
        | im d => simp only [q] at o; exact o.elim
        | bo d => simp only [q] at o; exact o.elim⟩
def sRetL (f : M (List D)) : SS := M.bind f fun xs => M.ret (.rn xs)
theorem hide_Z {F : Fm} {A : Own} {H : Hp} {p : Addr} : Same (hid (zs (F.hide p) A) H) (hid (p :: F.Z) H) := hid_less fun a h => mem_zs.mpr (.inl h)
theorem ds_retL {f : M (List D)} (ha : DN X e f) : DS X (.Return (some e) pos) (sRetL f) := ⟨fun F => ps_imp (ps_ret (ha.run F)) fun D σ H ⟨A, ρ, S, o⟩ => by
  obtain ⟨xs, ρ1, e1, o⟩ := out_bind o
  exact ⟨A, ρ, xs, ρ1, S, e1, fun p vs H1 S1 h0 hz m1 hn hp rd => o p vs A σ H1 S1.show h0 hp (rd.mono hide_Z)⟩⟩
def sRetN : SS := M.ret (.rt .non)
theorem ds_retN : DS X (.Return none pos) sRetN := ⟨fun F => ps_imp ps_retN fun D σ H ⟨A, ρ, S, o⟩ => o .non A σ H S .non⟩
def sIf (g : M Bool) (f h : SS) : SS := M.bind g fun b => match b with
  | true => f
  | false => h
theorem ds_if {g : M Bool} {c : Expr} (hc : DT X c g) (ha : DSs X body f) (hb : DSs X els h) : DS X (.If c body els pos) (sIf g f h) := ⟨fun F => ps_imp (ps_if (hc.run F) (ha.run F) (hb.run F)) fun D σ H ⟨A, ρ, S, o⟩ => by
  obtain ⟨k, ρ1, e1, o⟩ := out_bind o
  refine ⟨A, ρ, k, ρ1, S, e1, fun H1 S1 m1 => ?_⟩
  cases k with
  | true =>
    rw [if_pos rfl]
    exact ⟨A, ρ1, S1, OutS.sto (Sto.of m1) o⟩
  | false =>
    rw [if_neg Bool.false_ne_true]
    exact ⟨A, ρ1, S1, OutS.sto (Sto.of m1) o⟩⟩
def sSet (i : Nat) (fa : ES) : SS := M.bind fa fun r => M.bind (imm r) fun d => M.bind (setIm i d) fun _ => M.ret .nx
theorem sto_drop {A : Own} {i : Nat} {H H' : Hp} (m : Stp A H H') : Sto A (drop1 A i) H H' := (Sto.of m).trans (Sto.less fun j a h => (mem_drop1.mp h).1)
theorem set_rd {G : Gp} {F : Fm} {D : Ends} {σ : St} {H : Hp} (h : tS G F (sSet i fa) D σ H) : tAsg (tD G F fa) (gName i) D σ H := by
  obtain ⟨A, ρ, S, o⟩ := h
  obtain ⟨r, ρ1, e1, o⟩ := out_bind o
  obtain ⟨d, ρ2, e2, o⟩ := out_bind o
  obtain ⟨rfl, rfl⟩ := imm_ok e2
  obtain ⟨u, ρ3, e3, o⟩ := out_bind o
  refine ⟨A, ρ, _, _, S, e1, fun v H1 S1 m1 r1 => ?_⟩
  obtain ⟨S2, m2⟩ := S1.set (v := v) e3 r1
  exact o _ _ _ S2 (sto_drop m1)
theorem ds_set {x : Str} {pos' : Pos} (hN : X.N.Nodup) (hi : X.N[i]? = some x) (hx : Loc X.env.scope x) (he : DE X e fa) (hs : swapsWith e (some (.Name x pos')) pos.line X.env = pure false := by rfl) (hf : X.fn x = true ∨ X.env.scope.names.lookup x = some .local := by first | exact .inl rfl | exact .inr rfl | assumption) :
    DS X (.Assign [.Name x pos'] e pos) (sSet i fa) := ⟨fun F => ps_imp (ps_set hN hi hx (he.run F) hs hf) fun D σ H h => set_rd h⟩
def sOwn (i : Nat) (f : M (List D)) : SS := M.bind f fun xs => M.bind (setOw i xs) fun _ => M.ret .nx
theorem own_rd {G : Gp} {F : Fm} {D : Ends} {σ : St} {H : Hp} {f : M (List Dv.D)} (h : tS G F (sOwn i f) D σ H) : tAsg (tN G F f) (gName i) D σ H := by
  obtain ⟨A, ρ, S, o⟩ := h
  obtain ⟨xs, ρ1, e1, o⟩ := out_bind o
  obtain ⟨u, ρ3, e3, o⟩ := out_bind o
  refine ⟨A, ρ, xs, _, S, e1, fun p vs H1 S1 h0 hz m1 hn hp rd => ?_⟩
  obtain ⟨S2, m2⟩ := S1.setN h0 hz hp rd e3
  refine o _ _ _ S2 fun a u h n => ⟨m1 a u h n, fun j z => ?_⟩
  rcases List.mem_cons.mp z with z | z
  · cases z
    rw [hn] at h; cases h
  · exact n j (mem_drop1.mp z).1
theorem ds_own {x : Str} {pos' : Pos} {f : M (List D)} (hN : X.N.Nodup) (hi : X.N[i]? = some x) (hx : Loc X.env.scope x) (he : DN X e f) (hs : swapsWith e (some (.Name x pos')) pos.line X.env = pure false := by rfl) (hf : X.fn x = true ∨ X.env.scope.names.lookup x = some .local := by first | exact .inl rfl | exact .inr rfl | assumption) :
    DS X (.Assign [.Name x pos'] e pos) (sOwn i f) := ⟨fun F => ps_imp (ps_set hN hi hx (he.run F) hs hf) fun D σ H h => own_rd h⟩
def sSetL (i : Nat) (f : M (List D)) : SS := M.bind f fun xs => M.bind (setIm i (.lst xs)) fun _ => M.ret .nx
theorem setL_rd {G : Gp} {F : Fm} {D : Ends} {σ : St} {H : Hp} {f : M (List Dv.D)} (h : tS G F (sSetL i f) D σ H) : tAsg (tN G F f) (gName i) D σ H := by
  obtain ⟨A, ρ, S, o⟩ := h
  obtain ⟨xs, ρ1, e1, o⟩ := out_bind o
  obtain ⟨u, ρ3, e3, o⟩ := out_bind o
  refine ⟨A, ρ, xs, _, S, e1, fun p vs H1 S1 h0 hz m1 hn hp rd => ?_⟩
  obtain ⟨S2, m2⟩ := S1.show.set (v := .ref p) e3 (.lst (SqL.of (hid_of hz hp)) (rd.mono show_same))
  exact o _ _ _ S2 (sto_drop m1)
section
variable {elt tg iter : Expr} {ifs : List Expr} {scope : Scope} {own : List (Str × Nat)} {spos py : Pos} {fi : M (List IV)} {gg : IV → M Unit} {gt : M Bool} {fe : ES} {sl : List Nat} {y : Str}
theorem ps_lcN (hc : X.calm = true) (hN : X.N.Nodup) (hy : X.N[i]? = some y) (hyl : X.env.scope.names.lookup y = some .local)
    (hsw : swapsWith (.ListComp elt [⟨tg, iter, ifs, 0⟩] scope pos) (some (.Name y py)) spos.line X.env = pure true) (hi : DI X tg iter fi) (ok : BlkOk X.N X.env.scope scope own) (hsl : ∀ j ∈ sl, j ∈ own.map (·.2))
    (hg : ∀ (s : Shared) (H : Hp) (C : Addr) (cl : List (Str × Addr)) (fp : List Addr), DG (X.blk s H scope (compEnvC scope cl C X.env) fp) tg sl gg) (ht : ∀ (s : Shared) (H : Hp) (C : Addr) (cl : List (Str × Addr)) (fp : List Addr), DTs (X.blk s H scope (compEnvC scope cl C X.env) fp) ifs gt)
    (he : ∀ (s : Shared) (H : Hp) (C : Addr) (cl : List (Str × Addr)) (fp : List Addr), DE (X.blk s H scope (compEnvC scope cl C X.env) fp) elt fe) (hs : ∀ x, foldedSetIterable iter X.env x = pure x := by intro _; rfl) :
    ∀ F, PS X (.Assign [.Name y py] (.ListComp elt [⟨tg, iter, ifs, 0⟩] scope pos) spos) (tAsg (tN (Gx X) F (nLc (own.map (·.2)) fi gg gt fe)) (gName i)) := fun F =>
  ps_imp (ps_setLc hc hN hy hyl hsw (hi.run F) ok (fun s H C cl fp => (hg s H C cl fp).any) (fun s H C cl fp => (ht s H C cl fp).any) (fun s H C cl fp => (he s H C cl fp).any) hs) fun D σ H h => lc_rd hsl h
theorem ds_lcSet {st : Stmt} {f : M (List D)} (h : ∀ F, PS X st (tAsg (tN (Gx X) F f) (gName i))) : DS X st (sSetL i f) := ⟨fun F => ps_imp (h F) fun D σ H h => setL_rd h⟩
theorem ds_lcOwn {st : Stmt} {f : M (List D)} (h : ∀ F, PS X st (tAsg (tN (Gx X) F f) (gName i))) : DS X st (sOwn i f) := ⟨fun F => ps_imp (h F) fun D σ H h => own_rd h⟩
end
def sAsg (fa : ES) (g : IV → M Unit) : SS := M.bind fa fun r => M.bind (imm r) fun d => M.bind (g (.im d)) fun _ => M.ret .nx
theorem ds_asg {tg : Expr} {sl : List Nat} {gg : IV → M Unit} (he : DE X e fa) (hg : DG X tg sl gg) (hs : swapsWithSole [tg] e pos.line X.env = pure false := by rfl) (hw : swappedStores [tg] e X.env = pure none := by rfl)
    (h1 : (assignEach [tg] X.env).map (·.2) = [assign tg X.env] := by rfl) : DS X (.Assign [tg] e pos) (sAsg fa gg) := ⟨fun F => ps_imp (ps_asg (he.run F) (hg.run F) hs hw h1) fun D σ H ⟨A, ρ, S, o⟩ => by
  obtain ⟨r, ρ1, e1, o⟩ := out_bind o
  obtain ⟨d, ρ2, e2, o⟩ := out_bind o
  obtain ⟨rfl, rfl⟩ := imm_ok e2
  obtain ⟨u, ρ3, e3, o⟩ := out_bind o
  refine ⟨A, ρ, _, _, S, e1, fun v H1 S1 m1 r1 => ⟨A, _, .im d, ρ3, S1, r1, e3, fun σ' S2 m2 _ _ => ?_⟩⟩
  exact o _ _ _ S2 ((Sto.of m1).trans (Sto.less fun j a h => (mem_dropL.mp h).1))⟩
def sPar (i j : Nat) (fs : M (List RV)) : SS := M.bind fs fun rs => match rs with
  | [ra, rb] => M.bind (imm ra) fun x => M.bind (imm rb) fun y => M.bind (setIm i x) fun _ => M.bind (setIm j y) fun _ => M.ret .nx
  | _ => fun _ => .no
theorem ds_par {j : Nat} {x y : Str} {fs : M (List RV)} {px py pt : Pos} {kt k2 pt2} (hc : X.calm = true) (hN : X.N.Nodup) (hi : X.N[i]? = some x) (hj : X.N[j]? = some y) (hij : i ≠ j)
    (hx : X.env.scope.names.lookup x = some .local) (hy : X.env.scope.names.lookup y = some .local) (ha : DA X [a, b] fs)
    (hw : swappedStores [.Tuple [.Name x px, .Name y py] kt pt] (.Tuple [a, b] k2 pt2) X.env = pure (some [x, y]))
    (hs : swapsWithSole [.Tuple [.Name x px, .Name y py] kt pt] (.Tuple [a, b] k2 pt2) pos.line X.env = pure false := by rfl) :
    DS X (.Assign [.Tuple [.Name x px, .Name y py] kt pt] (.Tuple [a, b] k2 pt2) pos) (sPar i j fs) := ⟨fun F => ps_imp (ps_par hc hN hi hj hij hx hy (ha.run F) hw hs) fun D σ H ⟨A, ρ, S, o⟩ => by
  obtain ⟨rs, ρ1, e1, o⟩ := out_bind o
  refine ⟨A, ρ, rs, ρ1, S, e1, fun vs H1 S1 m1 r1 => ?_⟩
  cases r1 with
  | nil => exact o.elim
  | cons ra r1 =>
    cases r1 with
    | nil => exact o.elim
    | cons rb r1 =>
      cases r1 with
      | cons _ _ => exact o.elim
      | nil =>
        obtain ⟨d, ρ2, e2, o⟩ := out_bind o
        obtain ⟨rfl, rfl⟩ := imm_ok e2
        obtain ⟨d', ρ3, e3, o⟩ := out_bind o
        obtain ⟨rfl, rfl⟩ := imm_ok e3
        obtain ⟨_, ρ4, e4, o⟩ := out_bind o
        obtain ⟨_, ρ5, e5, o⟩ := out_bind o
        obtain ⟨S2, m2⟩ := S1.set e4 ra
        obtain ⟨S3, m3⟩ := S2.set e5 (RD.mono m2 rb)
        exact ⟨_, _, rfl, o _ _ _ S3 (((Sto.of m1).trans (Sto.less fun j a h => (mem_drop1.mp h).1)).trans (Sto.less fun j a h => (mem_drop1.mp h).1))⟩⟩
def IpD (X : Cx) (op : Operator) (g : D → D → Option D) : Prop := OpD X (inplaceOp op) g
def sAug (i : Nat) (g : D → D → Option D) (fa : ES) : SS := fun ρ => match ρ[i]? with
  | some (some (.im d)) => (M.bind fa fun r => M.bind (val r) fun y => M.bind (M.opt (g d y)) fun z => M.bind (setIm i z) fun _ => M.ret .nx) ρ
  | _ => .no
theorem ds_aug {x : Str} {op : Operator} {g : D → D → Option D} {pos' : Pos} (hN : X.N.Nodup) (hi : X.N[i]? = some x) (hx : Loc X.env.scope x) (he : DE X e fa) (ho : IpD X op g) (hf : X.fn x = true ∨ X.env.scope.names.lookup x = some .local := by first | exact .inl rfl | exact .inr rfl | assumption) :
    DS X (.AugAssign (.Name x pos') op e pos) (sAug i g fa) := ⟨fun F => by
  obtain ⟨r, h1, h2⟩ := ho
  refine ps_imp (ps_aug (ti := r) hN hi hx (he.run F) h1 hf) fun D σ H ⟨A, ρ, S, o⟩ => ?_
  unfold sAug at o
  split at o
  · rename_i d q
    obtain ⟨rr, ρ1, e1, o⟩ := out_bind o
    obtain ⟨y, ρ2, e2, o⟩ := out_bind o
    obtain ⟨l2, rfl⟩ := val_ok e2
    obtain ⟨z, l3, o⟩ := out_opt o
    obtain ⟨_, ρ4, e4, o⟩ := out_bind o
    obtain ⟨v, hv, rv⟩ := S.im i d q
    refine ⟨v, hv, A, ρ, rr, _, S, e1, fun w H1 S1 m1 r1 => ?_⟩
    refine h2 (zs F A) H1 v w d y z _ S1.zall (.inl (rv.mono m1.hid)) (look_rt S1 r1 l2) l3 fun u H2 sm rd => ?_
    obtain ⟨S2, m2⟩ := (S1.same sm).set e4 rd
    exact o _ _ _ S2 (sto_drop (m1.trans (Stp.of sm)))
  · exact o.elim⟩
def sWhile (g : M Bool) (f : SS) : Nat → SS
  | 0 => fun _ => .no
  | n + 1 => M.bind g fun b => match b with
    | false => M.ret .nx
    | true => M.bind f fun fl => match fl with
      | .nx => sWhile g f n
      | .ct => sWhile g f n
      | .bk => M.ret .nx
      | o => M.ret o
theorem ds_while {c : Expr} {g : M Bool} (n : Nat) (hp : PassesOwn (model X.prog X.w) X.A X.env X.xe) (hc : DT X c g) (hb : DSs X body f) : DS X (.While c body [] pos) (sWhile g f n) := ⟨fun F => ps_imp (ps_while hp (hc.run F) (hb.run F)) fun D σ H ⟨A, ρ, S, o⟩ => by
  refine ⟨fun m σ H => ∃ A ρ, Sts (Gx X) F A σ ρ H ∧ OutS (Gx X) F A H D (sWhile g f m ρ), ⟨n, A, ρ, S, o⟩, ?_⟩
  rintro m σ1 H1 ⟨A1, ρ1, S1, o1⟩
  cases m with
  | zero => exact o1.elim
  | succ m =>
    obtain ⟨k, ρ2, e2, o1⟩ := out_bind o1
    refine ⟨A1, ρ1, k, ρ2, S1, e2, fun H2 S2 m2 => ?_⟩
    have o2 := OutS.sto (Sto.of m2) o1
    cases k with
    | false => exact iteF (o2 A1 σ1 H2 S2 (Sto.refl _ _))
    | true =>
      obtain ⟨fl, ρ3, e3, o3⟩ := out_bind o2
      refine iteT ⟨fun σ' H' => ∃ A ρ, Sts (Gx X) F A σ' ρ H' ∧ OutS (Gx X) F A H' D (sWhile g f m ρ), fun σ' H' ⟨A', ρ', S', o'⟩ => ⟨m, Nat.lt_succ_self m, A', ρ', S', o'⟩, A1, ρ2, S2, ?_⟩
      rw [e3]
      cases fl with
      | nx => exact fun A' σ' H' S' m' => ⟨A', ρ3, S', OutS.sto m' o3⟩
      | ct => exact fun A' σ' H' S' m' => ⟨A', ρ3, S', OutS.sto m' o3⟩
      | bk => exact o3
      | rt d => exact o3
      | rn xs => exact o3⟩
def forL (gg : IV → M Unit) (f : SS) : List IV → SS
  | [] => M.ret .nx
  | d :: ds => M.bind (gg d) fun _ => M.bind f fun fl => match fl with
    | .nx => forL gg f ds
    | .ct => forL gg f ds
    | .bk => M.ret .nx
    | o => M.ret o
def sFor (fi : M (List IV)) (gg : IV → M Unit) (f : SS) : SS := M.bind fi fun ds => forL gg f ds
theorem ds_for {tg iter : Expr} {fi : M (List IV)} {gg : IV → M Unit} {sl : List Nat} (hp : PassesOwn (model X.prog X.w) X.A X.env X.xe) (hc : X.calm = true) (hi : DI X tg iter fi) (hg : DG X tg sl gg) (hb : DSs X body f)
    (hs : ∀ x, foldedSetIterable iter X.env x = pure x := by intro _; rfl) : DS X (.For tg iter body [] pos) (sFor fi gg f) := ⟨fun F => ps_imp (ps_for hp hc (hi.run F) (hg.run F) (hb.run F) hs) fun D σ H ⟨A, ρ, S, o⟩ => by
  obtain ⟨ds, ρ1, e1, o⟩ := out_bind o
  refine ⟨A, ρ, ds, ρ1, S, e1, fun J H1 S1 m1 wk => ?_⟩
  have o1 := OutS.sto (Sto.of m1) o
  refine ⟨fun i m σ H => ∃ A' ρ', i ≤ ds.length ∧ m = ds.length - i ∧ Sts (Gx X) F A' σ ρ' H ∧ Sto A A' H1 H ∧ OutS (Gx X) F A' H D (forL gg f (ds.drop i) ρ'), ⟨ds.length, A, ρ1, Nat.zero_le _, by simp, S1, Sto.refl _ _, by simpa using o1⟩, ?_⟩
  rintro i m σ2 H2 ⟨A2, ρ2, hi, rfl, S2, m2, o2⟩
  have W := wk i H2 (zs F A2) S2.zall m2.hid
  by_cases hlt : i < ds.length
  · obtain ⟨go, yl⟩ := W.1 ds[i] (List.getElem?_eq_getElem hlt)
    rw [List.drop_eq_getElem_cons hlt] at o2
    refine .inr ⟨go, fun σ' H' => ∃ A' ρ', Sts (Gx X) F A' σ' ρ' H' ∧ Sto A A' H1 H' ∧ OutS (Gx X) F A' H' D (forL gg f (ds.drop (i + 1)) ρ'), fun σ' H' ⟨A', ρ', a1, a2, a3⟩ => ⟨ds.length - (i + 1), by omega, A', ρ', hlt, rfl, a1, a2, a3⟩, fun x H' hy => ?_⟩
    obtain ⟨smy, rix⟩ := yl x H' hy
    obtain ⟨_, ρ3, e3, o3⟩ := out_bind o2
    refine ⟨A2, ρ2, ds[i], ρ3, S2.same smy, rix, e3, fun σ3 S3 m3 _ _ => ?_⟩
    have ms : Sto A2 (dropL A2 sl) H2 H' := (Sto.of (Stp.of smy)).trans (Sto.less fun j a h => (mem_dropL.mp h).1)
    have o4 := OutS.sto ms o3
    obtain ⟨fl, ρ4, e4, o5⟩ := out_bind o4
    refine ⟨_, ρ3, S3, ?_⟩
    rw [e4]
    cases fl with
    | nx => exact fun A' σ' H' S' m' => ⟨A', ρ4, S', (m2.trans ms).trans m', OutS.sto m' o5⟩
    | ct => exact fun A' σ' H' S' m' => ⟨A', ρ4, S', (m2.trans ms).trans m', OutS.sto m' o5⟩
    | bk => exact o5
    | rt d => exact o5
    | rn xs => exact o5
  · have ed : i = ds.length := by omega
    subst ed
    rw [List.drop_length] at o2
    exact .inl ⟨W.2 (Nat.le_refl _), o2 A2 σ2 H2 S2 (Sto.refl _ _)⟩⟩
end
end Dv
namespace Dv
open PySem PySem.Spec PyProof.Rows L2
inductive FR where
  | im (d : D)
  | nw (xs : List D)
abbrev Outs := List (Option (List D))
def bosAt (l : Outs) (i : Nat) : Option (List D) := match l[i]? with
  | some o => o
  | none => none
def bos : Rho → Outs
  | [] => []
  | some (.bo xs) :: r => some xs :: bos r
  | _ :: r => match bos r with
    | [] => []
    | t => none :: t
theorem bos_skip (t : Outs) (i : Nat) : bosAt (match t with
    | [] => []
    | t => none :: t) (i + 1) = bosAt t i := by
  cases t with
  | nil => simp [bosAt]
  | cons a t => simp [bosAt]
theorem bos_skip0 (t : Outs) : bosAt (match t with
    | [] => []
    | t => none :: t) 0 = none := by
  cases t with
  | nil => rfl
  | cons a t => rfl
theorem bos_at : ∀ (ρ : Rho) (i : Nat) (xs : List D), ρ[i]? = some (some (.bo xs)) → bosAt (bos ρ) i = some xs
  | [], i, xs, h => by simp at h
  | x :: r, 0, xs, h => by
    simp at h
    subst h
    rfl
  | x :: r, i + 1, xs, h => by
    have ih := bos_at r i xs (by simpa using h)
    cases x with
    | none => exact (bos_skip (bos r) i).trans ih
    | some s =>
      cases s with
      | bo ys => show bosAt (some ys :: bos r) (i + 1) = _; simpa [bosAt] using ih
      | im d => exact (bos_skip (bos r) i).trans ih
      | ow d => exact (bos_skip (bos r) i).trans ih
inductive ArgsOk (G : Gp) (Z : List Addr) (H : Hp) : Nat → List V → List SV → Own → Prop
  | nil (k : Nat) : ArgsOk G Z H k [] [] []
  | im {k : Nat} {v : V} {d : D} {vs : List V} {svs : List SV} {B : Own} : RD G (hid Z H) v d → ArgsOk G Z H (k + 1) vs svs B → ArgsOk G Z H k (v :: vs) (.im d :: svs) B
  | bo {k : Nat} {a : Addr} {xs : List D} {ws vs : List V} {svs : List SV} {B : Own} : a ∈ Z → H a = some (.lst ws) → RDs G (hid Z H) ws xs → ArgsOk G Z H (k + 1) vs svs B → ArgsOk G Z H k (.ref a :: vs) (.bo xs :: svs) ((k, a) :: B)
def OutsOk (G : Gp) (Z : List Addr) (H' : Hp) (B : Own) (outs : Outs) : Prop := ∀ (i : Nat) a, (i, a) ∈ B → ∃ xs ws, bosAt outs i = some xs ∧ H' a = some (.lst ws) ∧ RDs G (hid Z H') ws xs
def RetOk (G : Gp) (Z : List Addr) (H H' : Hp) (v : V) : FR → Prop
  | .im d => RD G (hid Z H') v d
  | .nw xs => ∃ p vs, v = .ref p ∧ H p = none ∧ H' p = some (.lst vs) ∧ RDs G (hid (p :: Z) H') vs xs
abbrev FD := List SV → Option (FR × Outs)
def spD (G : Gp) (g : FD) : Sp := fun vs H Q _ => ∃ Z svs B fr outs, ZOk Z H ∧ ArgsOk G Z H 0 vs svs B ∧ (B.map (·.2)).Nodup ∧ g svs = some (fr, outs) ∧
  ∀ v H', Stp B H H' → OutsOk G Z H' B outs → RetOk G Z H H' v fr → Q v H'
section
variable {G : Gp} {Z : List Addr} {H : Hp} {k : Nat} {vs : List V} {svs : List SV} {B : Own}
theorem ArgsOk.len (h : ArgsOk G Z H k vs svs B) : vs.length = svs.length := by
  induction h with
  | nil => rfl
  | im _ _ ih => rw [List.length_cons, List.length_cons, ih]
  | bo _ _ _ _ ih => rw [List.length_cons, List.length_cons, ih]
theorem ArgsOk.imAt (h : ArgsOk G Z H k vs svs B) : ∀ (i : Nat) d, svs[i]? = some (.im d) → ∃ v, vs[i]? = some v ∧ RD G (hid Z H) v d := by
  induction h with
  | nil => intro i d e; simp at e
  | im r _ ih =>
    intro i d e
    cases i with
    | zero => simp at e; subst e; exact ⟨_, rfl, r⟩
    | succ i => simpa using ih i d (by simpa using e)
  | bo _ _ _ _ ih =>
    intro i d e
    cases i with
    | zero => simp at e
    | succ i => simpa using ih i d (by simpa using e)
theorem ArgsOk.boAt (h : ArgsOk G Z H k vs svs B) : ∀ (i : Nat) xs, svs[i]? = some (.bo xs) → ∃ a ws, (k + i, a) ∈ B ∧ vs[i]? = some (.ref a) ∧ H a = some (.lst ws) ∧ RDs G (hid Z H) ws xs := by
  induction h with
  | nil => intro i d e; simp at e
  | im r _ ih =>
    intro i d e
    cases i with
    | zero => simp at e
    | succ i =>
      obtain ⟨a, ws, h1, h2⟩ := ih i d (by simpa using e)
      exact ⟨a, ws, by rw [Nat.add_comm i 1, ← Nat.add_assoc]; exact h1, by simpa using h2⟩
  | @bo k a xs ws _ _ _ ha h1 h2 _ ih =>
    intro i d e
    cases i with
    | zero => simp at e; subst e; exact ⟨a, ws, List.mem_cons_self, rfl, h1, h2⟩
    | succ i =>
      obtain ⟨a, ws, h1, h2⟩ := ih i d (by simpa using e)
      exact ⟨a, ws, by rw [Nat.add_comm i 1, ← Nat.add_assoc]; exact List.mem_cons_of_mem _ h1, by simpa using h2⟩
theorem ArgsOk.noOw (h : ArgsOk G Z H k vs svs B) : ∀ (i : Nat) xs, svs[i]? ≠ some (.ow xs) := by
  induction h with
  | nil => intro i xs e; simp at e
  | im r _ ih =>
    intro i xs e
    cases i with
    | zero => simp at e
    | succ i => exact ih i xs (by simpa using e)
  | bo _ _ _ _ ih =>
    intro i xs e
    cases i with
    | zero => simp at e
    | succ i => exact ih i xs (by simpa using e)
theorem ArgsOk.inB (h : ArgsOk G Z H k vs svs B) : ∀ (j : Nat) a, (j, a) ∈ B → a ∈ Z ∧ ∃ i xs, j = k + i ∧ svs[i]? = some (.bo xs) ∧ vs[i]? = some (.ref a) := by
  induction h with
  | nil => intro j a e; cases e
  | im r _ ih =>
    intro j a e
    obtain ⟨h1, i, xs, h2, h3, h4⟩ := ih j a e
    exact ⟨h1, i + 1, xs, by omega, by simpa using h3, by simpa using h4⟩
  | @bo k b xs ws _ _ _ hb h1 h2 _ ih =>
    intro j a e
    rcases List.mem_cons.mp e with e | e
    · cases e
      exact ⟨hb, 0, xs, rfl, rfl, rfl⟩
    · obtain ⟨h1, i, xs, h2, h3, h4⟩ := ih j a e
      exact ⟨h1, i + 1, xs, by omega, by simpa using h3, by simpa using h4⟩
end
def entry (n : Nat) (svs : List SV) : Rho := svs.map some ++ List.replicate (n - svs.length) none
theorem entry_some {n i : Nat} {svs : List SV} {x : SV} (h : (entry n svs)[i]? = some (some x)) : svs[i]? = some x := by
  unfold entry at h
  by_cases hi : i < svs.length
  · rw [List.getElem?_append_left (by simpa using hi), List.getElem?_map] at h
    obtain ⟨y, e1, e2⟩ := Option.map_eq_some_iff.mp h
    rw [e1]; exact e2
  · rw [List.getElem?_append_right (by simpa using hi), List.getElem?_replicate] at h
    split at h <;> cases h
theorem entry_of {n i : Nat} {svs : List SV} {x : SV} (h : svs[i]? = some x) : (entry n svs)[i]? = some (some x) := by
  unfold entry
  have hi : i < svs.length := (List.getElem?_eq_some_iff.mp h).1
  rw [List.getElem?_append_left (by simpa using hi), List.getElem?_map, h]
  rfl
theorem start_of {N : List Str} {vs : List V} {i : Nat} {v : V} (h : vs[i]? = some v) : (start N vs)[i]? = some (some v) := by
  unfold L2.start
  have hi : i < vs.length := (List.getElem?_eq_some_iff.mp h).1
  rw [List.getElem?_append_left (by simpa using hi), List.getElem?_map, h]
  rfl
theorem nd_fst {B : Own} (h : (B.map (·.2)).Nodup) : ∀ (i j : Nat) a, (i, a) ∈ B → (j, a) ∈ B → i = j := by
  induction B with
  | nil => intro i j a e; cases e
  | cons p B ih =>
    intro i j a e1 e2
    rw [List.map_cons, List.nodup_cons] at h
    rcases List.mem_cons.mp e1 with e1 | e1
    · rcases List.mem_cons.mp e2 with e2 | e2
      · rw [← e1] at e2; exact (congrArg Prod.fst e2).symm
      · exact absurd (List.mem_map.mpr ⟨(j, a), e2, by rw [← e1]⟩) h.1
    · rcases List.mem_cons.mp e2 with e2 | e2
      · exact absurd (List.mem_map.mpr ⟨(i, a), e1, by rw [← e2]⟩) h.1
      · exact ih h.2 i j a e1 e2
theorem Sts.entry {G : Gp} {Z : List Addr} {H : Hp} {vs : List V} {svs : List SV} {B : Own} {N : List Str} (h : ArgsOk G Z H 0 vs svs B) (z : ZOk Z H) (nd : (B.map (·.2)).Nodup) (hn : svs.length ≤ N.length) :
    Sts G ⟨H, Z, B⟩ B (start N vs) (entry N.length svs) H := by
  have key : Same (hid Z H) (hid (zs ⟨H, Z, B⟩ B) H) := hid_less fun a ha => by
    rcases mem_zs.mp ha with ha | ⟨i, ha⟩
    · exact ha
    · exact (h.inB i a ha).1
  refine ⟨?_, fun i d e => ?_, fun i xs e => ?_, fun i xs e => ?_, fun i a e => ?_, fun i j a b e1 e2 => ⟨fun q => ?_, fun q => ?_⟩, fun i a e => ?_, fun a o e _ => e, z⟩
  · unfold L2.start Dv.entry
    rw [List.length_append, List.length_append, List.length_map, List.length_map, List.length_replicate, List.length_replicate, h.len]
  · obtain ⟨v, h1, h2⟩ := h.imAt i d (entry_some e)
    exact ⟨v, start_of h1, h2.mono key⟩
  · exact absurd (entry_some e) (h.noOw i xs)
  · obtain ⟨a, ws, h1, h2, h3, h4⟩ := h.boAt i xs (entry_some e)
    rw [Nat.zero_add] at h1
    exact ⟨a, h1, h1, start_of h2, ws, h3, h4.mono key⟩
  · obtain ⟨_, j, xs, e1, e2, _⟩ := h.inB i a e
    rw [Nat.zero_add] at e1
    subst e1
    exact ⟨xs, .inr (entry_of e2)⟩
  · subst q
    obtain ⟨_, k1, _, q1, _, q3⟩ := h.inB i a e1
    obtain ⟨_, k2, _, q4, _, q5⟩ := h.inB i b e2
    have : k1 = k2 := by omega
    subst this
    rw [q3] at q5
    cases q5
    rfl
  · subst q
    exact nd_fst nd i j a e1 e2
  · obtain ⟨_, j, xs, e1, e2, _⟩ := h.inB i a e
    rw [Nat.zero_add] at e1
    subst e1
    exact ⟨e, xs, entry_of e2⟩
def runF (n : Nat) (f : SS) : FD := fun svs => match f (entry n svs) with
  | .ok .nx ρ => some (.im .non, bos ρ)
  | .ok (.rt d) ρ => some (.im d, bos ρ)
  | .ok (.rn xs) ρ => some (.nw xs, bos ρ)
  | _ => none
structure FnG (P : Program) (w : World) (K : PySem.W.Frag) (mg : Str → Option Value) (base : Heap) (CX : CXT) (k : Nat) (f : Addr) (fd : FuncData) (ps : List Str) (sp : Sp) : Prop where
  len : ∀ vs H Q E, sp vs H Q E → vs.length = ps.length
  go : ∀ (A : Around) (outer : List Env) (s : Shared) (H : Hp) (args : Args) (us : List Value) (vs : List V) (Q : VK) (E : XK), Room k A → A.guards = some [] → Env0 P w K mg base A outer s H →
    BindsTo s fd args (ps.zip us) → Vals vs us → sp vs H Q E → codeAny (model P w) A (.call (.ref f) args) (CR CX outer P w H s Q E) s
theorem FnG.up {P : Program} {w : World} {K : PySem.W.Frag} {mg : Str → Option Value} {base : Heap} {CX : CXT} {j k : Nat} {f : Addr} {fd : FuncData} {ps : List Str} {sp : Sp} (h : FnG P w K mg base CX j f fd ps sp) (q : j ≤ k) : FnG P w K mg base CX k f fd ps sp :=
  ⟨h.len, fun A o s H args us vs Q E r => h.go A o s H args us vs Q E (r.mono q)⟩
section
variable {X : Cx} {CX : CXT} {k : Nat} {f : Addr} {fd : FuncData} {ps : List Str} {sp : Sp} {E : XK} {x : Str} {p pos : Pos} {e : Expr} {es : List Expr} {t : TA} {dvs : List V} {dus : List Value}
theorem callG {pins : List (Addr × Obj)} {σ : St} {H : Hp} {s : Shared} {Q : VK} {us : List Value} {vs : List V} (h : FnG X.prog X.w X.K X.mg X.base CX k f fd ps sp) (hr : Room k X.A) (gd : X.A.guards = some []) (hb : Binds X.K fd ps dus) (hd : Vals dvs dus) (hx : Passes CX X E)
    (I : Inv X pins σ H s) (r : Vals vs us) (q : sp (vs ++ dvs) H Q E) : wpAny (model X.prog X.w) X.A (call (.ref f) us) (EP X pins σ Q) X.xe s := by
  have rr : Vals (vs ++ dvs) (us ++ dus) := r.append hd
  have len : (us ++ dus).length = ps.length := rr.length ▸ h.len _ _ _ _ q
  apply wpAny_call
  apply codeAny_mono (h.go X.A X.stack s H ⟨us, []⟩ (us ++ dus) (vs ++ dvs) Q E hr gd I.env0 (hb s us I.kIn len) rr q)
  intro res s' hq
  cases res with
  | error e => exact hx pins σ H s e s' I hq
  | ok fl =>
    cases fl with
    | ret u => exact I.after hq
    | _ => exact False.elim hq
theorem pe_callG (h : FnG X.prog X.w X.K X.mg X.base CX k f fd ps sp) (hr : Room k X.A) (gd : X.A.guards = some []) (hg : Gl X x) (hm : X.mg x = some (.ref f)) (hk : PySem.W.keepIn X.K (.ref f) = true) (hb : Binds X.K fd ps dus) (hd : Vals dvs dus) (hx : Passes CX X E)
    (ha : PA X (e :: es) t) (hdb : (x == ("__debug__" : Str)) = false := by decide) (he : starEach (e :: es) X.env = (false, eval e X.env) :: starEach es X.env := by rfl) (hpl : (backTo pos (starEach es X.env)).any (·.1) = false := by rfl) :
    PE X (.Call (.Name x p) (e :: es) [] pos) (tCall sp dvs E t) := by
  constructor
  intro pins s σ H Q I hw
  apply wpAny_Call_Name_kw
  apply ld_glob I hg hm (hd := hdb)
  apply PySem.W.callWith_K (h₀ := X.base) I.ok.mod.kin hk (he := he) (hplain := hpl)
  apply thn (ha.run pos pins s σ H _ I hw)
  rintro us s1 ⟨vs, H1, I1, r, q⟩
  exact ⟨I1.kIn, callG h hr gd hb hd hx I1 r q⟩
end
def toSV (ρ : Rho) : RV → Option SV
  | .im d => some (.im d)
  | .al i => match ρ[i]? with
    | some (some (.ow xs)) => some (.bo xs)
    | some (some (.bo xs)) => some (.bo xs)
    | _ => none
def toSVs (ρ : Rho) : List RV → Option (List SV)
  | [] => some []
  | r :: rs => match toSV ρ r, toSVs ρ rs with
    | some x, some xs => some (x :: xs)
    | _, _ => none
def noAl (i : Nat) : List RV → Bool
  | [] => true
  | .al j :: rs => (i != j) && noAl i rs
  | .im _ :: rs => noAl i rs
def apart : List RV → Bool
  | [] => true
  | .al i :: rs => noAl i rs && apart rs
  | .im _ :: rs => apart rs
def putBack (outs : Outs) : Nat → List RV → Rho → Option Rho
  | _, [], ρ => some ρ
  | k, .im _ :: rs, ρ => putBack outs (k + 1) rs ρ
  | k, .al i :: rs, ρ => match bosAt outs k, ρ[i]? with
    | some xs, some (some (.ow _)) => putBack outs (k + 1) rs (ρ.set i (some (.ow xs)))
    | some xs, some (some (.bo _)) => putBack outs (k + 1) rs (ρ.set i (some (.bo xs)))
    | _, _ => none
def uCall (g : FD) (rs : List RV) : M FR := fun ρ => match apart rs with
  | true => match toSVs ρ rs with
    | some svs => match g svs with
      | some (fr, outs) => match putBack outs 0 rs ρ with
        | some ρ' => .ok fr ρ'
        | none => .no
      | none => .no
    | none => .no
  | false => .no
def LentOk (A : Own) : Nat → List RV → Own → Prop
  | _, [], B => B = []
  | k, .im _ :: rs, B => LentOk A (k + 1) rs B
  | k, .al i :: rs, B => ∃ a B', B = (k, a) :: B' ∧ (i, a) ∈ A ∧ LentOk A (k + 1) rs B'
theorem noAl_ne {i j : Nat} : ∀ {rs : List RV}, noAl i rs = true → .al j ∈ rs → i ≠ j
  | .al k :: rs, h, m => by
    rw [noAl, Bool.and_eq_true] at h
    rcases List.mem_cons.mp m with m | m
    · cases m; simpa using h.1
    · exact noAl_ne h.2 m
  | .im _ :: rs, h, m => by
    rcases List.mem_cons.mp m with m | m
    · cases m
    · exact noAl_ne (rs := rs) h m
theorem LentOk.mem {A : Own} : ∀ {rs : List RV} {k : Nat} {B : Own} {j : Nat} {a : Addr}, LentOk A k rs B → (j, a) ∈ B → ∃ i, (i, a) ∈ A ∧ .al i ∈ rs
  | [], k, B, j, a, h, m => by cases (show B = [] from h); cases m
  | .im _ :: rs, k, B, j, a, h, m => by
    obtain ⟨i, h1, h2⟩ := LentOk.mem (rs := rs) (show LentOk A (k + 1) rs B from h) m
    exact ⟨i, h1, List.mem_cons_of_mem _ h2⟩
  | .al i :: rs, k, B, j, a, h, m => by
    obtain ⟨b, B', rfl, hb, h⟩ := h
    rcases List.mem_cons.mp m with m | m
    · cases m; exact ⟨i, hb, List.mem_cons_self⟩
    · obtain ⟨i', h1, h2⟩ := LentOk.mem (rs := rs) h m
      exact ⟨i', h1, List.mem_cons_of_mem _ h2⟩
theorem LentOk.nd {G : Gp} {F : Fm} {A : Own} {σ : St} {ρ : Rho} {H : Hp} (S : Sts G F A σ ρ H) : ∀ {rs : List RV} {k : Nat} {B : Own}, LentOk A k rs B → apart rs = true → (B.map (·.2)).Nodup
  | [], k, B, h, _ => by cases (show B = [] from h); exact List.nodup_nil
  | .im _ :: rs, k, B, h, ap => LentOk.nd S (rs := rs) (show LentOk A (k + 1) rs B from h) ap
  | .al i :: rs, k, B, h, ap => by
    obtain ⟨b, B', rfl, hb, h⟩ := h
    rw [apart, Bool.and_eq_true] at ap
    rw [List.map_cons, List.nodup_cons]
    refine ⟨fun m => ?_, LentOk.nd S h ap.2⟩
    obtain ⟨⟨j, c⟩, m1, m2⟩ := List.mem_map.mp m
    obtain ⟨i', h1, h2⟩ := h.mem m1
    dsimp only at m2
    subst m2
    exact noAl_ne ap.1 h2 ((S.uni i i' _ _ hb h1).mpr rfl)
theorem lend {G : Gp} {F : Fm} {A : Own} {σ : St} {ρ : Rho} {H : Hp} (S : Sts G F A σ ρ H) : ∀ {vs : List V} {rs : List RV} (k : Nat) {svs : List SV}, RRs G F A H vs rs → toSVs ρ rs = some svs → ∃ B, ArgsOk G (zs F A) H k vs svs B ∧ LentOk A k rs B
  | _, _, k, svs, .nil, e => by cases e; exact ⟨[], .nil k, rfl⟩
  | _, _, k, svs, .cons (r := r) (rs := rs) q h, e => by
    simp only [toSVs] at e
    split at e
    · rename_i x xs e1 e2
      cases e
      obtain ⟨B, h1, h2⟩ := lend S (k + 1) h e2
      cases r with
      | im d => cases e1; exact ⟨B, .im q h1, h2⟩
      | al i =>
        obtain ⟨a, ha, rfl⟩ := q
        have az : a ∈ zs F A := mem_zs.mpr (.inr ⟨i, ha⟩)
        simp only [toSV] at e1
        split at e1
        · rename_i ys e3
          cases e1
          obtain ⟨b, hb, _, _, _, ws, h3, h4⟩ := S.ow i _ e3
          obtain rfl := (S.uni i i a b ha hb).mp rfl
          exact ⟨_, .bo az h3 h4 h1, a, B, rfl, ha, h2⟩
        · rename_i ys e3
          cases e1
          obtain ⟨b, hb, _, _, ws, h3, h4⟩ := S.bo i _ e3
          obtain rfl := (S.uni i i a b ha hb).mp rfl
          exact ⟨_, .bo az h3 h4 h1, a, B, rfl, ha, h2⟩
        · cases e1
    · cases e
theorem Sts.back1 {G : Gp} {F : Fm} {A : Own} {σ : St} {ρ : Rho} {H : Hp} {i : Nat} {a : Addr} {xs : List D} {ws : List V} {x : SV} (S : Sts G F A σ ρ H) (ha : (i, a) ∈ A) (h1 : H a = some (.lst ws)) (h2 : RDs G (hid (zs F A) H) ws xs)
    (hx : ((∃ ys, ρ[i]? = some (some (.ow ys))) ∧ x = .ow xs) ∨ ((∃ ys, ρ[i]? = some (some (.bo ys))) ∧ x = .bo xs)) : Sts G F A σ (ρ.set i (some x)) H := by
  have hi : i < ρ.length := by
    rcases hx with ⟨⟨ys, h⟩, _⟩ | ⟨⟨ys, h⟩, _⟩ <;> exact (List.getElem?_eq_some_iff.mp h).1
  refine ⟨by rw [List.length_set]; exact S.len, fun j d e => ?_, fun j ys e => ?_, fun j ys e => ?_, fun j b e => ?_, S.uni, fun j b e => ?_, S.keep, S.zok⟩
  · by_cases z : i = j
    · subst z
      rw [List.getElem?_set_self hi] at e
      rcases hx with ⟨_, rfl⟩ | ⟨_, rfl⟩ <;> cases e
    · rw [List.getElem?_set_ne z] at e
      exact S.im j d e
  · by_cases z : i = j
    · subst z
      rw [List.getElem?_set_self hi] at e
      rcases hx with ⟨⟨zs', h⟩, rfl⟩ | ⟨_, rfl⟩
      · cases e
        obtain ⟨b, g1, g2, g3, g4, _⟩ := S.ow i _ h
        obtain rfl := (S.uni i i a b ha g1).mp rfl
        exact ⟨a, ha, g2, g3, g4, ws, h1, h2⟩
      · cases e
    · rw [List.getElem?_set_ne z] at e
      exact S.ow j ys e
  · by_cases z : i = j
    · subst z
      rw [List.getElem?_set_self hi] at e
      rcases hx with ⟨_, rfl⟩ | ⟨⟨zs', h⟩, rfl⟩
      · cases e
      · cases e
        obtain ⟨b, g1, g2, g3, _⟩ := S.bo i _ h
        obtain rfl := (S.uni i i a b ha g1).mp rfl
        exact ⟨a, ha, g2, g3, ws, h1, h2⟩
    · rw [List.getElem?_set_ne z] at e
      exact S.bo j ys e
  · by_cases z : i = j
    · subst z
      rw [List.getElem?_set_self hi]
      rcases hx with ⟨_, rfl⟩ | ⟨_, rfl⟩
      · exact ⟨xs, .inl rfl⟩
      · exact ⟨xs, .inr rfl⟩
    · rw [List.getElem?_set_ne z]
      exact S.own j b e
  · obtain ⟨g1, ys, g2⟩ := S.bor j b e
    refine ⟨g1, ?_⟩
    by_cases z : i = j
    · subst z
      rw [List.getElem?_set_self hi]
      rcases hx with ⟨⟨zs', h⟩, rfl⟩ | ⟨_, rfl⟩
      · rw [h] at g2; cases g2
      · exact ⟨xs, rfl⟩
    · rw [List.getElem?_set_ne z]
      exact ⟨ys, g2⟩
structure Sts' (G : Gp) (F : Fm) (A : Own) (σ : St) (ρ : Rho) (H : Hp) (L : List RV) : Prop where
  len : σ.length = ρ.length
  im : ∀ (i : Nat) d, ρ[i]? = some (some (.im d)) → ∃ v, σ[i]? = some (some v) ∧ RD G (hid (zs F A) H) v d
  ow : ∀ (i : Nat) xs, ρ[i]? = some (some (.ow xs)) → ∃ a, (i, a) ∈ A ∧ a ∉ F.Z ∧ F.H0 a = none ∧ σ[i]? = some (some (.ref a)) ∧ (.al i ∉ L → OwAt G F A σ H i a xs)
  bo : ∀ (i : Nat) xs, ρ[i]? = some (some (.bo xs)) → ∃ a, (i, a) ∈ A ∧ (i, a) ∈ F.B ∧ σ[i]? = some (some (.ref a)) ∧ (.al i ∉ L → OwAt G F A σ H i a xs)
  own : ∀ (i : Nat) a, (i, a) ∈ A → ∃ xs, ρ[i]? = some (some (.ow xs)) ∨ ρ[i]? = some (some (.bo xs))
  uni : ∀ (i j : Nat) a b, (i, a) ∈ A → (j, b) ∈ A → (i = j ↔ a = b)
  bor : ∀ (i : Nat) a, (i, a) ∈ F.B → (i, a) ∈ A ∧ ∃ xs, ρ[i]? = some (some (.bo xs))
  keep : ∀ a o, F.H0 a = some o → (∀ i, (i, a) ∉ F.B) → H a = some o
  zok : ZOk F.Z H
theorem Sts'.done {G : Gp} {F : Fm} {A : Own} {σ : St} {ρ : Rho} {H : Hp} (S : Sts' G F A σ ρ H []) : Sts G F A σ ρ H :=
  ⟨S.len, S.im, fun i xs e => let ⟨a, h1, h2, h3, h4, h5⟩ := S.ow i xs e; ⟨a, h1, h2, h3, h5 (fun z => nomatch z)⟩, fun i xs e => let ⟨a, h1, h2, h4, h5⟩ := S.bo i xs e; ⟨a, h1, h2, h5 (fun z => nomatch z)⟩, S.own, S.uni, S.bor, S.keep, S.zok⟩
theorem Sts'.skip {G : Gp} {F : Fm} {A : Own} {σ : St} {ρ : Rho} {H : Hp} {d : D} {L : List RV} (S : Sts' G F A σ ρ H (.im d :: L)) : Sts' G F A σ ρ H L := by
  have e : ∀ {i : Nat}, RV.al i ∉ L → RV.al i ∉ RV.im d :: L := fun h z => by
    rcases List.mem_cons.mp z with z | z
    · cases z
    · exact h z
  exact ⟨S.len, S.im, fun i xs q => let ⟨a, h1, h2, h3, h4, h5⟩ := S.ow i xs q; ⟨a, h1, h2, h3, h4, fun z => h5 (e z)⟩, fun i xs q => let ⟨a, h1, h2, h4, h5⟩ := S.bo i xs q; ⟨a, h1, h2, h4, fun z => h5 (e z)⟩, S.own, S.uni, S.bor, S.keep, S.zok⟩
theorem Sts'.one {G : Gp} {F : Fm} {A : Own} {σ : St} {ρ : Rho} {H : Hp} {i : Nat} {a : Addr} {xs : List D} {ws : List V} {x : SV} {L : List RV} (S : Sts' G F A σ ρ H (.al i :: L)) (ha : (i, a) ∈ A) (h1 : H a = some (.lst ws)) (h2 : RDs G (hid (zs F A) H) ws xs)
    (hx : ((∃ ys, ρ[i]? = some (some (.ow ys))) ∧ x = .ow xs) ∨ ((∃ ys, ρ[i]? = some (some (.bo ys))) ∧ x = .bo xs)) : Sts' G F A σ (ρ.set i (some x)) H L := by
  have hi : i < ρ.length := by
    rcases hx with ⟨⟨ys, h⟩, _⟩ | ⟨⟨ys, h⟩, _⟩ <;> exact (List.getElem?_eq_some_iff.mp h).1
  have e0 : ∀ {j : Nat}, i ≠ j → RV.al j ∉ L → RV.al j ∉ RV.al i :: L := fun n h z => by
    rcases List.mem_cons.mp z with z | z
    · cases z; exact n rfl
    · exact h z
  refine ⟨by rw [List.length_set]; exact S.len, fun j d e => ?_, fun j ys e => ?_, fun j ys e => ?_, fun j b e => ?_, S.uni, fun j b e => ?_, S.keep, S.zok⟩
  · by_cases z : i = j
    · subst z
      rw [List.getElem?_set_self hi] at e
      rcases hx with ⟨_, rfl⟩ | ⟨_, rfl⟩ <;> cases e
    · rw [List.getElem?_set_ne z] at e
      exact S.im j d e
  · by_cases z : i = j
    · subst z
      rw [List.getElem?_set_self hi] at e
      rcases hx with ⟨⟨zs', h⟩, rfl⟩ | ⟨_, rfl⟩
      · cases e
        obtain ⟨b, g1, g2, g3, g4, _⟩ := S.ow i _ h
        obtain rfl := (S.uni i i a b ha g1).mp rfl
        exact ⟨a, ha, g2, g3, g4, fun _ => ⟨g4, ws, h1, h2⟩⟩
      · cases e
    · rw [List.getElem?_set_ne z] at e
      obtain ⟨b, g1, g2, g3, g4, g5⟩ := S.ow j ys e
      exact ⟨b, g1, g2, g3, g4, fun q => g5 (e0 z q)⟩
  · by_cases z : i = j
    · subst z
      rw [List.getElem?_set_self hi] at e
      rcases hx with ⟨_, rfl⟩ | ⟨⟨zs', h⟩, rfl⟩
      · cases e
      · cases e
        obtain ⟨b, g1, g2, g3, _⟩ := S.bo i _ h
        obtain rfl := (S.uni i i a b ha g1).mp rfl
        exact ⟨a, ha, g2, g3, fun _ => ⟨g3, ws, h1, h2⟩⟩
    · rw [List.getElem?_set_ne z] at e
      obtain ⟨b, g1, g2, g4, g5⟩ := S.bo j ys e
      exact ⟨b, g1, g2, g4, fun q => g5 (e0 z q)⟩
  · by_cases z : i = j
    · subst z
      rw [List.getElem?_set_self hi]
      rcases hx with ⟨_, rfl⟩ | ⟨_, rfl⟩
      · exact ⟨xs, .inl rfl⟩
      · exact ⟨xs, .inr rfl⟩
    · rw [List.getElem?_set_ne z]
      exact S.own j b e
  · obtain ⟨g1, ys, g2⟩ := S.bor j b e
    refine ⟨g1, ?_⟩
    by_cases z : i = j
    · subst z
      rw [List.getElem?_set_self hi]
      rcases hx with ⟨⟨zs', h⟩, rfl⟩ | ⟨_, rfl⟩
      · rw [h] at g2; cases g2
      · exact ⟨xs, rfl⟩
    · rw [List.getElem?_set_ne z]
      exact ⟨ys, g2⟩
theorem take_back {G : Gp} {F : Fm} {A : Own} {σ : St} {H : Hp} {outs : Outs} : ∀ {rs : List RV} {k : Nat} {B : Own} {ρ ρ' : Rho}, Sts' G F A σ ρ H rs → LentOk A k rs B → (∀ (j : Nat) a, (j, a) ∈ B → ∃ xs ws, bosAt outs j = some xs ∧ H a = some (.lst ws) ∧ RDs G (hid (zs F A) H) ws xs) →
    putBack outs k rs ρ = some ρ' → Sts G F A σ ρ' H
  | [], k, B, ρ, ρ', S, _, _, e => by cases e; exact S.done
  | .im _ :: rs, k, B, ρ, ρ', S, h, ho, e => take_back (rs := rs) (k := k + 1) S.skip h ho e
  | .al i :: rs, k, B, ρ, ρ', S, h, ho, e => by
    obtain ⟨a, B', rfl, ha, h⟩ := h
    obtain ⟨xs, ws, q1, q2, q3⟩ := ho k a List.mem_cons_self
    simp only [putBack, q1] at e
    split at e
    · rename_i xs' ys e1 e2
      cases e1
      exact take_back (S.one ha q2 q3 (.inl ⟨⟨ys, e2⟩, rfl⟩)) h (fun j b m => ho j b (List.mem_cons_of_mem _ m)) e
    · rename_i xs' ys e1 e2
      cases e1
      exact take_back (S.one ha q2 q3 (.inr ⟨⟨ys, e2⟩, rfl⟩)) h (fun j b m => ho j b (List.mem_cons_of_mem _ m)) e
    · cases e
theorem user_rd {G : Gp} {F : Fm} {A : Own} {σ : St} {ρ ρ' : Rho} {H : Hp} {vs : List V} {rs : List RV} {g : FD} {fr : FR} {Q : VK} {E : XK} (S : Sts G F A σ ρ H) (r : RRs G F A H vs rs) (e : uCall g rs ρ = .ok fr ρ')
    (q : ∀ v H', Sts G F A σ ρ' H' → Stp A H H' → RetOk G (zs F A) H H' v fr → Q v H') : spD G g vs H Q E := by
  unfold uCall at e
  split at e
  · rename_i ap
    split at e
    · rename_i svs e1
      split at e
      · rename_i fr' outs e2
        split at e
        · rename_i ρ2 e3
          cases e
          obtain ⟨B, h1, h2⟩ := lend S 0 r e1
          have inA : ∀ j a, (j, a) ∈ B → ∃ i, (i, a) ∈ A ∧ .al i ∈ rs := fun j a m => h2.mem m
          refine ⟨zs F A, svs, B, fr, outs, S.zall, h1, h2.nd S ap, e2, fun v H' m o ret => ?_⟩
          have mA : Stp A H H' := fun a u hu n => m a u hu fun j z => let ⟨i, hi, _⟩ := inA j a z; n i hi
          have hs := mA.hid (F := F)
          refine q v H' ?_ mA ret
          refine take_back (rs := rs) (k := 0) (B := B) (outs := outs) (ρ := ρ) ⟨S.len, fun i d h => ?_, fun i xs h => ?_, fun i xs h => ?_, S.own, S.uni, S.bor, fun a u h n => ?_, fun a ha => ?_⟩ h2 o e3
          · obtain ⟨w, h3, h4⟩ := S.im i d h
            exact ⟨w, h3, h4.mono hs⟩
          · obtain ⟨a, h3, h4, h5, h6, ws, h7, h8⟩ := S.ow i xs h
            refine ⟨a, h3, h4, h5, h6, fun nl => ⟨h6, ws, m a _ h7 fun j z => ?_, h8.mono hs⟩⟩
            obtain ⟨i', h9, h10⟩ := inA j a z
            obtain rfl := (S.uni i i' a a h3 h9).mpr rfl
            exact nl h10
          · obtain ⟨a, h3, h5, h6, ws, h7, h8⟩ := S.bo i xs h
            refine ⟨a, h3, h5, h6, fun nl => ⟨h6, ws, m a _ h7 fun j z => ?_, h8.mono hs⟩⟩
            obtain ⟨i', h9, h10⟩ := inA j a z
            obtain rfl := (S.uni i i' a a h3 h9).mpr rfl
            exact nl h10
          · refine m a u (S.keep a u h n) fun j z => ?_
            obtain ⟨i, h3, _⟩ := inA j a z
            obtain ⟨xs, h4 | h4⟩ := S.own i a h3
            · obtain ⟨b, g1, _, g2, _⟩ := S.ow i xs h4
              obtain rfl := (S.uni i i a b h3 g1).mp rfl
              rw [g2] at h; cases h
            · obtain ⟨b, g1, g2, _⟩ := S.bo i xs h4
              obtain rfl := (S.uni i i a b h3 g1).mp rfl
              exact n i g2
          · intro z
            cases hu : H a with
            | none => exact S.zok a ha hu
            | some u =>
              by_cases hb : ∃ j, (j, a) ∈ B
              · obtain ⟨j, hb⟩ := hb
                obtain ⟨xs, ws, _, h3, _⟩ := o j a hb
                rw [h3] at z; cases z
              · rw [m a u hu fun j y => hb ⟨j, y⟩] at z; cases z
        · cases e
      · cases e
    · cases e
  · cases e
def eUser (g : FD) (fs : M (List RV)) : ES := M.bind fs fun rs => M.bind (uCall g rs) fun fr => match fr with
  | .im d => M.ret (.im d)
  | .nw xs => M.ret (.im (.lst xs))
theorem user_tD {G : Gp} {F : Fm} {σ : St} {H : Hp} {g : FD} {fs : M (List RV)} {Q : VK} {E : XK} (h : tD G F (eUser g fs) σ H Q) : tCall (spD G g) [] E (tDs G F fs) σ H Q := by
  obtain ⟨A, ρ, r, ρ', S, e, q⟩ := h
  obtain ⟨rs, ρ1, e1, e⟩ := bind_ok e
  obtain ⟨fr, ρ2, e2, e⟩ := bind_ok e
  refine ⟨A, ρ, rs, ρ1, S, e1, fun vs H1 S1 m1 r1 => ?_⟩
  show spD G g (vs ++ []) H1 Q E
  rw [List.append_nil]
  refine user_rd S1 r1 e2 fun v H' S' m' ret => ?_
  cases fr with
  | im d =>
    obtain ⟨rfl, rfl⟩ := ret_ok e
    exact q v H' S' (m1.trans m') ret
  | nw xs =>
    obtain ⟨rfl, rfl⟩ := ret_ok e
    obtain ⟨p, ws, rfl, hp, h1, h2⟩ := ret
    refine q _ H' S' (m1.trans m') (.lst (SqL.of (hid_of (S1.zall.out hp) h1)) (h2.mono (hid_less fun a ha => List.mem_cons_of_mem _ ha)))
theorem zs_hide_eq {F : Fm} {A : Own} {H : Hp} {p : Addr} : Same (hid (p :: zs F A) H) (hid (zs (F.hide p) A) H) := hid_less fun a h => by
  rcases zs_hide.mp h with rfl | h
  · exact List.mem_cons_self
  · exact List.mem_cons_of_mem _ h
def allIm : List RV → Bool
  | [] => true
  | .im _ :: rs => allIm rs
  | .al _ :: _ => false
theorem allIm_B {A : Own} : ∀ {rs : List RV} {k : Nat} {B : Own}, allIm rs = true → LentOk A k rs B → B = []
  | [], _, _, _, h => h
  | .im _ :: rs, k, _, e, h => allIm_B (rs := rs) (k := k + 1) e h
  | .al _ :: _, _, _, e, _ => by cases e
theorem putBack_im {outs : Outs} {ρ : Rho} : ∀ {rs : List RV} {k : Nat}, allIm rs = true → putBack outs k rs ρ = some ρ
  | [], _, _ => rfl
  | .im _ :: rs, k, e => putBack_im (rs := rs) (k := k + 1) e
  | .al _ :: _, _, e => by cases e
def nUser (g : FD) (fs : M (List RV)) : M (List D) := M.bind fs fun rs => match allIm rs with
  | true => M.bind (uCall g rs) fun fr => match fr with
    | .nw xs => M.ret xs
    | .im _ => fun _ => .no
  | false => fun _ => .no
theorem user_rdN {G : Gp} {F : Fm} {A : Own} {σ : St} {ρ ρ' : Rho} {H : Hp} {vs : List V} {rs : List RV} {g : FD} {fr : FR} {Q : VK} {E : XK} (S : Sts G F A σ ρ H) (r : RRs G F A H vs rs) (ai : allIm rs = true) (e : uCall g rs ρ = .ok fr ρ')
    (q : ∀ v H', ρ' = ρ → Same H H' → RetOk G (zs F A) H H' v fr → Q v H') : spD G g vs H Q E := by
  unfold uCall at e
  split at e
  · split at e
    · rename_i svs e1
      split at e
      · rename_i fr' outs e2
        rw [putBack_im ai] at e
        cases e
        obtain ⟨B, h1, h2⟩ := lend S 0 r e1
        obtain rfl := allIm_B ai h2
        exact ⟨zs F A, svs, [], fr, outs, S.zall, h1, List.nodup_nil, e2, fun v H' m o ret => q v H' rfl (fun a u hu => m a u hu fun j z => nomatch z) ret⟩
      · cases e
    · cases e
  · cases e
theorem user_tN {G : Gp} {F : Fm} {σ : St} {H : Hp} {g : FD} {fs : M (List RV)} {Q : VK} {E : XK} (h : tN G F (nUser g fs) σ H Q) : tCall (spD G g) [] E (tDs G F fs) σ H Q := by
  obtain ⟨A, ρ, r, ρ', S, e, q⟩ := h
  obtain ⟨rs, ρ1, e1, e⟩ := bind_ok e
  cases ai : allIm rs with
  | false => rw [ai] at e; cases e
  | true =>
    rw [ai] at e
    obtain ⟨fr, ρ2, e2, e⟩ := bind_ok e
    refine ⟨A, ρ, rs, ρ1, S, e1, fun vs H1 S1 m1 r1 => ?_⟩
    show spD G g (vs ++ []) H1 Q E
    rw [List.append_nil]
    refine user_rdN S1 r1 ai e2 fun v H' e3 sm ret => ?_
    cases fr with
    | im d => cases e
    | nw xs =>
      obtain ⟨rfl, rfl⟩ := ret_ok e
      obtain ⟨p, ws, rfl, hp, h1, h2⟩ := ret
      rw [e3] at q
      exact q p ws H' (S1.hide hp sm (by rw [h1]; exact fun z => nomatch z)) (S1.h0 hp) (S1.zall.out hp) (m1.trans (Stp.of sm)) (back_none S m1 S1 hp) h1 (h2.mono zs_hide_eq)
theorem user_call {X : Cx} {k : Nat} {f : Addr} {fd : FuncData} {ps : List Str} {g : FD} {x : Str} {p pos : Pos} {e : Expr} {es : List Expr} {fs : M (List RV)} (h : FnG X.prog X.w X.K X.mg X.base CX0 k f fd ps (spD (Gx X) g)) (hr : Room k X.A) (gd : X.A.guards = some []) (hg : Gl X x) (hm : X.mg x = some (.ref f))
    (hk : PySem.W.keepIn X.K (.ref f) = true) (hb : Binds X.K fd ps []) (ha : DA X (e :: es) fs) (hdb : (x == ("__debug__" : Str)) = false := by decide) (he : starEach (e :: es) X.env = (false, eval e X.env) :: starEach es X.env := by rfl)
    (hpl : (backTo pos (starEach es X.env)).any (·.1) = false := by rfl) : DE X (.Call (.Name x p) (e :: es) [] pos) (eUser g fs) := ⟨fun F => pe_imp (pe_callG h hr gd hg hm hk hb .nil pass0 (ha.run F) hdb he hpl) fun σ H Q q => user_tD (E := E0) q⟩
theorem user_callN {X : Cx} {k : Nat} {f : Addr} {fd : FuncData} {ps : List Str} {g : FD} {x : Str} {p pos : Pos} {e : Expr} {es : List Expr} {fs : M (List RV)} (h : FnG X.prog X.w X.K X.mg X.base CX0 k f fd ps (spD (Gx X) g)) (hr : Room k X.A) (gd : X.A.guards = some []) (hg : Gl X x) (hm : X.mg x = some (.ref f))
    (hk : PySem.W.keepIn X.K (.ref f) = true) (hb : Binds X.K fd ps []) (ha : DA X (e :: es) fs) (hdb : (x == ("__debug__" : Str)) = false := by decide) (he : starEach (e :: es) X.env = (false, eval e X.env) :: starEach es X.env := by rfl)
    (hpl : (backTo pos (starEach es X.env)).any (·.1) = false := by rfl) : DN X (.Call (.Name x p) (e :: es) [] pos) (nUser g fs) := ⟨fun F => pe_imp (pe_callG h hr gd hg hm hk hb .nil pass0 (ha.run F) hdb he hpl) fun σ H Q q => user_tN (E := E0) q⟩
def defF (n m : Nat) (f : SS) : FD := fun svs => match decide (svs.length = n) with
  | true => runF m f svs
  | false => none
theorem body_ok {X : Cx} {body : List Stmt} {f : SS} {N : List Str} {H : Hp} {vs : List V} {Q : VK} {E : XK} {n : Nat} (hn : n ≤ N.length) (h : DSs X body f) (q : spD (Gx X) (defF n N.length f) vs H Q E) :
    ∃ t, PSs X body t ∧ t { nx := fun _ H' => Q .non H', rt := Q } (start N vs) H := by
  obtain ⟨Z, svs, B, fr, outs, z, ao, nd, e, k⟩ := q
  unfold defF at e
  split at e
  · rename_i hl
    have hl := of_decide_eq_true hl
    refine ⟨_, h.run ⟨H, Z, B⟩, B, entry N.length svs, Sts.entry ao z nd (by omega), ?_⟩
    have fin : ∀ {A' σ' ρ' H'}, Sts (Gx X) ⟨H, Z, B⟩ A' σ' ρ' H' → Stp B H H' ∧ OutsOk (Gx X) Z H' B (bos ρ') := fun {A' σ' ρ' H'} S => by
      refine ⟨fun a o h n => S.keep a o h n, fun i a hb => ?_⟩
      obtain ⟨h1, xs, h2⟩ := S.bor i a hb
      obtain ⟨b, h3, h4, _, ws, h5, h6⟩ := S.bo i xs h2
      obtain rfl := (S.uni i i a b h1 h3).mp rfl
      exact ⟨xs, ws, bos_at ρ' i xs h2, h5, h6.mono zs_Z⟩
    unfold runF at e
    split at e
    · rename_i ρ' e1
      cases e
      rw [e1]
      exact fun A' σ' H' S m => k .non H' (fin S).1 (fin S).2 .non
    · rename_i d ρ' e1
      cases e
      rw [e1]
      exact fun v A' σ' H' S r => k v H' (fin S).1 (fin S).2 r
    · rename_i xs ρ' e1
      cases e
      rw [e1]
      exact fun p ws A' σ' H' S h0 hp r => k (.ref p) H' (fin S).1 (fin S).2 ⟨p, ws, rfl, h0, hp, r⟩
    · cases e
  · cases e
theorem spD_len {G : Gp} {n m : Nat} {f : SS} {vs : List V} {H : Hp} {Q : VK} {E : XK} (q : spD G (defF n m f) vs H Q E) : vs.length = n := by
  obtain ⟨Z, svs, B, fr, outs, z, ao, nd, e, k⟩ := q
  unfold defF at e
  split at e
  · rename_i hl
    rw [ao.len]; exact of_decide_eq_true hl
  · cases e
abbrev cxG (P : Program) (w : World) (K : PySem.W.Frag) (mg : Str → Option Value) (base : Heap) (N : List Str) (qual : Str) (sc : Scope) (f : Addr) (cdv : Value) (A : Around) (outer : List Env) (s : Shared) (H : Hp) (E : XK) : Cx := (cxOf CX0 P w K mg base N qual sc f cdv A outer s H E).nox
theorem fnG_ok {P : Program} {w : World} {K : PySem.W.Frag} {mg : Str → Option Value} {base : Heap} {x qual : Str} {pa : Arguments} {body : List Stmt} {sc : Scope} {f : Addr} {fd : FuncData} {N ps : List Str} {k : Nat} {g : SS} (D : FunD K x qual pa body sc [] [] f fd) (S : FnScope N ps sc)
    (h : ∀ (cdv : Value) (A : Around) (outer : List Env) (s : Shared) (H : Hp) (E : XK), Room k (A.deeper (envOfC qual sc s.heap.objs.size f cdv)) → A.guards = some [] → DSs (cxG P w K mg base N qual sc f cdv A outer s H E) body g) :
    FnG P w K mg base CX0 (k + 1) f fd ps (spD ⟨K, mg, P, w⟩ (defF ps.length N.length g)) := by
  obtain ⟨oc, od, dV, kV, doc, pm, an, cdv, ct, osl, rfl, lk, hcd, _, _⟩ := D.ex
  refine ⟨fun vs H Q E q => spD_len q, ?_⟩
  intro A outer s H args us vs Q E room gd e0 hb r q
  have hpl : ps.length ≤ N.length := by
    have z := congrArg List.length S.pre
    rw [List.length_take] at z
    omega
  have vl : vs.length = ps.length := spD_len q
  have kin : K.In s.heap := e0.mod.kin.keeps fun b o z => (e0.bs b o z).1
  have nl : s.heap.NoLimit := e0.mod.nolimit.keeps fun b o z => (e0.bs b o z).1
  have kinds : ∀ y ∈ ps.zip us, sc.names.lookup y.1 = some .local ∨ (sc.names.lookup y.1 = some .cell ∧ ((cellsFrom (s.heap.objs.size + 1) sc.names []).lookup y.1).isSome = true) := by
    rintro ⟨n, v⟩ hy
    have hp := S.par n (List.of_mem_zip hy).1
    rcases hp with hp | hp
    · exact .inl hp
    · exact .inr ⟨hp, PySem.W.cellsFrom_some _ _ _ (.inl hp)⟩
  apply codeAny_call_function room.depth (kin _ _ lk) rfl S.co S.gen rfl (PySem.W.codeRec_of kin hcd)
  apply hb
  apply wpAny_newFunctionEnv_cells S.kind kinds
  intro env he s1 ic
  subst he
  refine ⟨nl.keeps ic.toInCall.keep, codeAny_func ?_⟩
  obtain ⟨t, ht, hq⟩ := body_ok (E := E) hpl (h cdv A outer s H E (room.deeper _) gd) q
  have I := inv_start (CX := CX0) (P := P) (w := w) (K := K) (mg := mg) (base := base) (f := f) (cd := cdv) (A := A) (E := E) S room.hd e0 vl r ic
  have J := ht.nox.run [] s1 (start N vs) H _ I hq
  refine wpAny_mono J (fun fl s' hs => ?_) fun e s' hs => hs
  have done : ∀ {σ' : L2.St} {H' : Hp} {v : V} {u : Value}, Inv (cxOf CX0 P w K mg base N qual sc f cdv A outer s H E) [] σ' H' s' → RelV v u → Q v H' → CE outer P w H s Q u s' := fun {σ' H' v u} I' rv qv => ⟨v, H', I'.os, I'.bare, I'.base, I'.hok, rv, qv⟩
  cases fl with
  | next => obtain ⟨σ', H', I', qv⟩ := hs; exact done (v := .non) (u := .none) I' rfl qv
  | ret u => obtain ⟨v, σ', H', I', rv, qv⟩ := hs; exact done I' rv qv
  | brk => obtain ⟨_, _, _, z⟩ := hs; exact z.elim
  | cont => obtain ⟨_, _, _, z⟩ := hs; exact z.elim
theorem ints_rd {G : Gp} {H : Hp} {a : Addr} {ns : List Int} (h : SqL G.K H a (ns.map V.int)) : RD G H (.ref a) (.lst (ns.map D.int)) := .lst h (RDs.map_int ns)
theorem law_run {P : Program} {w : World} {K : PySem.W.Frag} {mg mb : Str → Option Value} {k : Nat} {fa a : Addr} {fd : FuncData} {x : Str} {g : FD} {s1 : Shared} {us : List Value} {ns : List Int}
    (kin : K.In s1.heap) (gn : s1.heap.Ns mainGlobals mg) (bn : s1.heap.Ns builtinsNs mb) (bb : ∀ y : Str, y ≠ "__name__" → mb y = bootBuiltins y) (nl : s1.heap.NoLimit) (g0 : s1.gens = #[])
    (ha : s1.heap.get? a = some { cls := .type "list", data := .seq us.toArray }) (ui : IntsAre us ns) (hl : ns.length ≤ sizeLine) (room : Room k callerA)
    (F : ∀ base : Heap, K.In base → base.Ns mainGlobals mg → FnG P w K mg base CX0 k fa fd [x] (spD ⟨K, mg, P, w⟩ g)) (hb : ∀ (s : Shared) (u : Value), BindsTo s fd ⟨[u], []⟩ [(x, u)])
    (fact : g [.im (.lst (ns.map D.int))] = some (.im (.bl true), [])) :
    codeAny (model P w) callerA (.call (.ref fa) ⟨[.ref a], []⟩) (fun r s' => r = .ok (.ret (.bool true)) ∧ OldK s1.heap s'.heap ∧ s'.os = s1.os ∧ AllBare s'.gens) s1 := by
  have rv := vals_ints ui
  have lv := ui.length
  have main : ∀ H : Hp, (∀ b, H b = none ∨ (b = a ∧ K.lookup a = none ∧ ∃ o xs, H b = some (.frz o (.lst xs)))) → SqL K H a (ns.map V.int) → HOk P w H s1.heap →
      codeAny (model P w) callerA (.call (.ref fa) ⟨[.ref a], []⟩) (fun r s' => r = .ok (.ret (.bool true)) ∧ OldK s1.heap s'.heap ∧ s'.os = s1.os ∧ AllBare s'.gens) s1 := by
    intro H hH hS hok
    have at_a : ∀ b, H b ≠ none → b = a ∧ K.lookup a = none := fun b z => by
      rcases hH b with q | ⟨q1, q2, _⟩
      · exact absurd q z
      · exact ⟨q1, q2⟩
    have nodict : ∀ {b : Addr} {o : Obj} {es : Array DictEntry} {ep : Nat}, s1.heap.get? b = some o → o.data = .dict es ep → H b = none := by
      intro b o es ep e d
      cases q : H b with
      | none => rfl
      | some u =>
        obtain ⟨rfl, _⟩ := at_a b (by rw [q]; exact fun z => nomatch z)
        rw [ha] at e
        cases e
        cases d
    have ns_hid : ∀ {b : Addr} {m : Str → Option Value}, s1.heap.Ns b m → (hidT s1.heap H).Ns b m := by
      rintro b m ⟨o, es, ep, e, d, r⟩
      exact ⟨o, es, ep, hidT_get e (nodict e d), d, r⟩
    have kinH : K.In (hidT s1.heap H) := by
      intro b o e
      refine hidT_get (kin b o e) ?_
      cases q : H b with
      | none => rfl
      | some u =>
        obtain ⟨rfl, z⟩ := at_a b (by rw [q]; exact fun z => nomatch z)
        rw [z] at e
        cases e
    have lim : (hidT s1.heap H).NoLimit := by
      obtain ⟨mc, q1, q2⟩ := nl
      exact ⟨mc, ns_hid q1, q2⟩
    have md : Mod K mg (hidT s1.heap H) := ⟨kinH, ns_hid gn, ⟨mb, ns_hid bn, bb⟩, lim⟩
    have e0 : Env0 P w K mg (hidT s1.heap H) callerA [] s1 H := by
      refine ⟨rfl, md, fun b o e => of_hidT e, Nat.le_of_eq (hidT_size _ _), trivial, ?_, hok, .of_eq g0⟩
      intro b z
      cases z
    have sp : spD ⟨K, mg, P, w⟩ g [.ref a] H (fun v _ => v = .bl true) fun _ _ _ => False := by
      refine ⟨[], _, [], .im (.bl true), [], fun b z => (nomatch z), .im (k := 0) ?_ (.nil _), List.nodup_nil, fact, fun v H' _ _ r => ?_⟩
      · exact (ints_rd (G := ⟨K, mg, P, w⟩) hS).mono fun b o e => hid_of List.not_mem_nil e
      · cases r; rfl
    refine codeAny_mono ((F _ kinH (ns_hid gn)).go callerA [] s1 H ⟨[.ref a], []⟩ [.ref a] [.ref a] _ _ room rfl e0 (hb s1 (.ref a)) (.cons rfl .nil) sp) ?_
    intro r s' h
    cases r with
    | error e => exact False.elim h
    | ok fl =>
      cases fl with
      | ret u =>
        obtain ⟨v, H', os, bare, un, hok', rv', hv⟩ := h
        subst hv
        obtain rfl : u = Value.bool true := rv'
        refine ⟨rfl, OldK.of_keep ?_, os, bare⟩
        intro b o e
        rcases hH b with q | ⟨_, _, ob, xs, q⟩
        · exact un.keep b o e q (fun z => nomatch z) (fun z => nomatch z)
        · obtain ⟨e1, _⟩ := hok b _ q
          obtain ⟨e2, _⟩ := hok' b _ (un.frzs b ob _ q)
          rw [e] at e1
          cases e1
          exact e2
      | _ => exact False.elim h
  cases hk : K.lookup a with
  | some o =>
    have e := kin a o hk
    rw [ha] at e
    cases e
    refine main (fun _ => none) (fun _ => .inl rfl) (.inr ⟨_, us.toArray, _, hk, rfl, rfl, rfl, ?_, ?_⟩) fun b u z => ?_
    · rw [List.size_toArray, lv]; exact hl
    · simpa using rv
    · cases (show (none : Option HO) = some u from z)
  | none =>
    refine main (fun b => if b = a then some (.frz { cls := .type "list", data := .seq us.toArray } (.lst (ns.map V.int))) else none) (fun b => ?_) (.inl (.inr ⟨{ cls := .type "list", data := .seq us.toArray }, if_pos rfl⟩)) fun b u z => ?_
    · by_cases hb : b = a
      · exact .inr ⟨hb, hk, _, _, if_pos hb⟩
      · exact .inl (if_neg hb)
    · by_cases hb : b = a
      · have z' := (if_pos hb).symm.trans z
        cases z'
        subst hb
        exact ⟨ha, by rw [List.length_map]; exact hl, us, _, rv, ha⟩
      · have z' := (if_neg hb).symm.trans z
        cases z'
theorem walkG {l : PySem.W.OpenLaw} {n k : Nat} {q : Program} {loose : List Str} {XP : (Str → Option Value) → Heap → Prop} {YP : World → Heap → Prop} {d : DefRec} {x : Str} (hn : l.most = some n) (hn2 : n ≤ sizeLine) (hdf : d.params.defaults = []) (room : Room k callerA)
    (F : ∀ (w : World) (mg : Str → Option Value) (fa : Addr) (h : Heap), YP w h → h.Ns mainGlobals mg → mg d.name = some (.ref fa) →
      ∃ (K : PySem.W.Frag) (fd : FuncData) (g : FD), K.In h ∧ (∀ (s : Shared) (u : Value), BindsTo s fd ⟨[u], []⟩ [(x, u)]) ∧ (∀ ns : List Int, ns.length ≤ n → g [.im (.lst (ns.map D.int))] = some (.im (.bl true), [])) ∧
        ∀ base : Heap, K.In base → base.Ns mainGlobals mg → FnG l.prog w K mg base CX0 k fa fd [x] (spD ⟨K, mg, l.prog, w⟩ g)) : PySem.W.WalkO q loose XP YP l.row.toRowW d [] (fun f vs => PySem.call f vs) := by
  apply Att.attach_call hn hdf
  intro w s0 s1 mg mb fa o pm cd doc a us ns G Y ho hd hcd hmg hobj hints hlen hg
  obtain ⟨K, fd, g, kin, hb, fact, hF⟩ := F w mg fa _ Y G.T.g hmg
  exact law_run kin G.T.g G.T.b G.T.builtins G.T.nolimit hg hobj hints (Nat.le_trans hlen hn2) room hF hb (fact ns hlen)
end Dv
namespace Dv
open PySem PySem.Spec PyProof.Rows L2
section
variable {X : Cx}
theorem ret_int {G : Gp} {Z : List Addr} {H : Hp} {i : Int} {Q : VK} (q : ∀ v H', Same H H' → RD G (hid Z H') v (.int i) → Q v H') : Q (.int i) H := q _ H (Same.refl _) (.int i)
theorem ret_bl {G : Gp} {Z : List Addr} {H : Hp} {i : Bool} {Q : VK} (q : ∀ v H', Same H H' → RD G (hid Z H') v (.bl i) → Q v H') : Q (.bl i) H := q _ H (Same.refl _) (.bl i)
theorem ret_str {G : Gp} {Z : List Addr} {H : Hp} {i : Str} {Q : VK} (q : ∀ v H', Same H H' → RD G (hid Z H') v (.str i) → Q v H') : Q (.str i) H := q _ H (Same.refl _) (.str i)
def gI (c : Int → Int → Bool) (f : Int → Int → D) : D → D → Option D
  | .int i, .int j => if c i j = true then some (f i j) else none
  | _, _ => none
theorem opD_I {f : Value → Value → Sem Value} {C : Int → Int → Prop} {c : Int → Int → Bool} {h : Int → Int → Int} (ho : OpR X f (rI C fun i j => .int (h i j))) (hc : ∀ i j, c i j = true → C i j) : OpD X f (gI c fun i j => .int (h i j)) :=
  ⟨_, ho, fun Z H x y dx dy d Q z rx ry e q => by
    unfold gI at e
    split at e
    · rename_i i j
      by_cases k : c i j = true
      · rw [if_pos k] at e
        cases e
        exact ⟨i, j, rx.int, ry.int, hc i j k, ret_int q⟩
      · rw [if_neg k] at e; cases e
    · cases e⟩
def gI0 (f : Int → Int → D) : D → D → Option D
  | .int i, .int j => some (f i j)
  | _, _ => none
theorem opD_I0 {f : Value → Value → Sem Value} {h : Int → Int → Int} (ho : OpR X f (rI0 fun i j => .int (h i j))) : OpD X f (gI0 fun i j => .int (h i j)) :=
  ⟨_, ho, fun Z H x y dx dy d Q z rx ry e q => by
    unfold gI0 at e
    split at e
    · rename_i i j
      cases e
      exact ⟨i, j, rx.int, ry.int, ret_int q⟩
    · cases e⟩
theorem opD_B0 {f : Value → Value → Sem Value} {h : Int → Int → Bool} (ho : OpR X f (rI0 fun i j => .bl (h i j))) : OpD X f (gI0 fun i j => .bl (h i j)) :=
  ⟨_, ho, fun Z H x y dx dy d Q z rx ry e q => by
    unfold gI0 at e
    split at e
    · rename_i i j
      cases e
      exact ⟨i, j, rx.int, ry.int, ret_bl q⟩
    · cases e⟩
def gSub := gI0 fun i j => .int (i - j)
theorem od_sub : OpD X (binaryOp .Sub) gSub := opD_I0 op_sub
def cMul (i j : Int) : Bool := decide (i.natAbs < 2 ^ 64) || decide (j.natAbs < 2 ^ 64) || (decide (i.natAbs < 2 ^ 4000) && decide (j.natAbs < 2 ^ 4000))
theorem cMul_ok {i j : Int} (h : cMul i j = true) : CMulW i j ∨ CMul i j := by
  unfold cMul at h
  rw [Bool.or_eq_true, Bool.or_eq_true, Bool.and_eq_true] at h
  rcases h with (h | h) | ⟨h1, h2⟩
  · have h := of_decide_eq_true h
    exact .inr (.inl ⟨by omega, by omega⟩)
  · have h := of_decide_eq_true h
    exact .inr (.inr ⟨by omega, by omega⟩)
  · exact .inl (wide_mul (of_decide_eq_true h1) (of_decide_eq_true h2) (by decide) (by decide) (by decide))
def gMul := gI cMul fun i j => .int (i * j)
theorem od_mul : OpD X (binaryOp .Mult) gMul := ⟨_, op_mulW.or op_mul, fun Z H x y dx dy d Q z rx ry e q => by
  unfold gMul gI at e
  split at e
  · rename_i i j
    by_cases k : cMul i j = true
    · rw [if_pos k] at e
      cases e
      rcases cMul_ok k with k | k
      · exact .inl ⟨i, j, rx.int, ry.int, k, ret_int q⟩
      · exact .inr ⟨i, j, rx.int, ry.int, k, ret_int q⟩
    · rw [if_neg k] at e; cases e
  · cases e⟩
def cDiv (i j : Int) : Bool := decide (0 < j) && decide (j.natAbs < 2 ^ 4000)
def gDiv := gI cDiv fun i j => .int (i / j)
theorem od_div : OpD X (binaryOp .FloorDiv) gDiv := opD_I op_fdivW fun i j h => by
  unfold cDiv at h
  rw [Bool.and_eq_true] at h
  exact wide_div (of_decide_eq_true h.1) (of_decide_eq_true h.2) (by decide) (by decide)
def gMod := gI (fun _ j => decide (0 < j)) fun i j => .int (i % j)
theorem od_mod : OpD X (binaryOp .Mod) gMod := opD_I op_mod fun i j h => of_decide_eq_true h
def cPow (i j : Int) : Bool := decide (0 ≤ j) && decide (j ≤ 1000000) && decide (i.natAbs < 2 ^ 64)
theorem cPow_ok (i j : Int) (h : cPow i j = true) : CPow i j := by
  unfold cPow at h
  rw [Bool.and_eq_true, Bool.and_eq_true] at h
  exact ⟨of_decide_eq_true h.1.1, of_decide_eq_true h.1.2, of_decide_eq_true h.2⟩
def gPow := gI cPow fun i j => .int (i ^ j.toNat)
theorem od_pow : OpD X (binaryOp .Pow) gPow := opD_I op_pow cPow_ok
def gShl := gI cPow fun i j => .int (i * 2 ^ j.toNat)
theorem od_shl : OpD X (binaryOp .LShift) gShl := opD_I op_shl cPow_ok
def gShr := gI (fun _ j => decide (0 ≤ j)) fun i j => .int (i / 2 ^ j.toNat)
theorem od_shr : OpD X (binaryOp .RShift) gShr := opD_I op_shr fun i j h => of_decide_eq_true h
def gAnd := gI0 fun i j => .int (Builtin.bitAnd i j)
theorem od_and : OpD X (binaryOp .BitAnd) gAnd := opD_I0 op_and
def gOr := gI0 fun i j => .int (Builtin.bitOr i j)
theorem od_or : OpD X (binaryOp .BitOr) gOr := opD_I0 op_or
def gXor := gI0 fun i j => .int (Builtin.bitXor i j)
theorem od_xor : OpD X (binaryOp .BitXor) gXor := opD_I0 op_xor
def gLt := gI0 fun i j => .bl (decide (i < j))
theorem od_lt : OpD X (compareOp .Lt) gLt := opD_B0 op_lt
def gLe := gI0 fun i j => .bl (decide (i ≤ j))
theorem od_le : OpD X (compareOp .LtE) gLe := opD_B0 op_le
def gGt := gI0 fun i j => .bl (decide (j < i))
theorem od_gt : OpD X (compareOp .Gt) gGt := opD_B0 op_gt
def gGe := gI0 fun i j => .bl (decide (j ≤ i))
theorem od_ge : OpD X (compareOp .GtE) gGe := opD_B0 op_ge
def gNeg : D → Option D
  | .int i => some (.int (-i))
  | _ => none
theorem ud_neg : UnD X (unaryOp .USub) gNeg := ⟨_, un_neg, fun Z H x dx d Q z rx e q => by
  cases dx <;> cases e
  exact ⟨_, rx.int, ret_int q⟩⟩
def gInv : D → Option D
  | .int i => some (.int (Builtin.bitNot i))
  | _ => none
theorem ud_inv : UnD X (unaryOp .Invert) gInv := ⟨_, un_inv, fun Z H x dx d Q z rx e q => by
  cases dx <;> cases e
  exact ⟨_, rx.int, ret_int q⟩⟩
theorem id_sub : IpD X .Sub gSub := opD_I0 iop_sub
theorem id_and : IpD X .BitAnd gAnd := opD_I0 iop_and
theorem id_or : IpD X .BitOr gOr := opD_I0 iop_or
def cMulS (i j : Int) : Bool := decide (i.natAbs < 2 ^ 64) || decide (j.natAbs < 2 ^ 64)
def gMulS := gI cMulS fun i j => .int (i * j)
theorem id_mul : IpD X .Mult gMulS := opD_I iop_mul fun i j h => by
  unfold cMulS at h
  rw [Bool.or_eq_true] at h
  rcases h with h | h
  · have h := of_decide_eq_true h
    exact .inl ⟨by omega, by omega⟩
  · have h := of_decide_eq_true h
    exact .inr ⟨by omega, by omega⟩
def gAbs : List D → Option D
  | [.int i] => some (.int (if i < 0 then -i else i))
  | _ => none
theorem cd_abs : CallD X (.builtin "abs") gAbs := ⟨_, call_abs, fun Z H xs ds d Q z r e q => by
  unfold gAbs at e
  split at e
  · cases e
    obtain ⟨v, rfl, r1⟩ := r.one
    rw [r1.int]
    exact ⟨_, rfl, ret_int q⟩
  · cases e⟩
def gMax2 : List D → Option D
  | [.int i, .int j] => some (.int (if j > i then j else i))
  | _ => none
theorem cd_max2 (hc : X.calm = true) : CallD X (.builtin "max") gMax2 := ⟨_, call_max2 hc, fun Z H xs ds d Q z r e q => by
  unfold gMax2 at e
  split at e
  · cases e
    obtain ⟨v, u, rfl, r1, r2⟩ := r.two
    rw [r1.int, r2.int]
    exact ⟨_, _, rfl, ret_int q⟩
  · cases e⟩
def gMin2 : List D → Option D
  | [.int i, .int j] => some (.int (if j < i then j else i))
  | _ => none
theorem cd_min2 (hc : X.calm = true) : CallD X (.builtin "min") gMin2 := ⟨_, call_min2 hc, fun Z H xs ds d Q z r e q => by
  unfold gMin2 at e
  split at e
  · cases e
    obtain ⟨v, u, rfl, r1, r2⟩ := r.two
    rw [r1.int, r2.int]
    exact ⟨_, _, rfl, ret_int q⟩
  · cases e⟩
def gInt : List D → Option D
  | [.int i] => some (.int i)
  | [.bl k] => some (.int (if k then 1 else 0))
  | _ => none
theorem cd_int : CallD X (.type "int") gInt := ⟨_, call_int1, fun Z H xs ds d Q z r e q => by
  unfold gInt at e
  split at e
  · cases e
    obtain ⟨v, rfl, r1⟩ := r.one
    exact .inl ⟨_, by rw [r1.int], ret_int q⟩
  · cases e
    obtain ⟨v, rfl, r1⟩ := r.one
    exact .inr ⟨_, by rw [r1.bl], ret_int q⟩
  · cases e⟩
def gLen : List D → Option D
  | [.lst xs] => some (.int xs.length)
  | [.tup xs] => some (.int xs.length)
  | [.str x] => if x.length ≤ 1000000 then some (.int x.length) else none
  | _ => none
theorem cd_len : CallD X (.builtin "len") gLen := ⟨_, call_len, fun Z H xs ds d Q z r e q => by
  unfold gLen at e
  split at e
  · cases e
    obtain ⟨v, rfl, r1⟩ := r.one
    obtain ⟨a, vs, rfl, h1, h2⟩ := r1.lst
    exact ⟨_, vs.length, rfl, .inl ⟨vs, h1, rfl⟩, by rw [h2.len]; exact ret_int q⟩
  · cases e
    obtain ⟨v, rfl, r1⟩ := r.one
    obtain ⟨a, vs, rfl, h1, h2⟩ := r1.tup
    exact ⟨_, vs.length, rfl, .inr ⟨vs, h1.sq, rfl⟩, by rw [h2.len]; exact ret_int q⟩
  · rename_i x
    by_cases hx : x.length ≤ 1000000
    · rw [if_pos hx] at e
      cases e
      obtain ⟨v, rfl, r1⟩ := r.one
      rw [r1.str]
      exact ⟨_, x.length, rfl, ⟨len_line hx, rfl⟩, ret_int q⟩
    · rw [if_neg hx] at e; cases e
  · cases e⟩
end
end Dv
namespace Dv
open PySem PySem.Spec PyProof.Rows L2
mutual
def eqb : D → D → Bool
  | .non, .non => true
  | .bl a, .bl b => a == b
  | .bl a, .int j => (if a then 1 else 0) == j
  | .int i, .bl b => i == (if b then 1 else 0)
  | .int i, .int j => i == j
  | .str x, .str y => x == y
  | .lst xs, .lst ys => eqbs xs ys
  | .tup xs, .tup ys => eqbs xs ys
  | _, _ => false
def eqbs : List D → List D → Bool
  | [], [] => true
  | x :: xs, y :: ys => eqb x y && eqbs xs ys
  | _, _ => false
end
mutual
def pl : Nat → D → Bool
  | _, .non => true
  | _, .bl _ => true
  | _, .int _ => true
  | _, .str x => PyData.strOk x
  | n + 1, .lst xs => pls n xs
  | n + 1, .tup xs => pls n xs
  | _, _ => false
def pls : Nat → List D → Bool
  | _, [] => true
  | n, x :: xs => pl n x && pls n xs
end
mutual
def pd : D → PyData
  | .non => .none
  | .bl b => .bool b
  | .int i => .int i
  | .str x => .str x
  | .lst xs => .list (pds xs)
  | .tup xs => .tuple (pds xs)
  | _ => .none
def pds : List D → List PyData
  | [] => []
  | x :: xs => pd x :: pds xs
end
mutual
theorem pl_dp {G : Gp} {H : Hp} : ∀ (n : Nat) (d : D) (v : V), pl n d = true → RD G H v d → Dp G.K H v (pd d)
  | n, .non, v, e, r => by cases r; exact .non
  | n, .bl b, v, e, r => by cases r; exact .bl b
  | n, .int i, v, e, r => by cases r; exact .int i
  | n, .str x, v, e, r => by cases r; exact .str x
  | 0, .lst xs, v, e, r => by rw [pl.eq_def] at e; cases e
  | n + 1, .lst xs, v, e, r => by
    rw [pl.eq_def] at e
    cases r with
    | lst h1 h2 => exact .lst h1 (pls_dp n xs _ e h2)
  | 0, .tup xs, v, e, r => by rw [pl.eq_def] at e; cases e
  | n + 1, .tup xs, v, e, r => by
    rw [pl.eq_def] at e
    cases r with
    | tup h1 h2 => exact .tup h1.sq (pls_dp n xs _ e h2)
  | n, .dct _ _, v, e, r => by rw [pl.eq_def] at e; cases e
  | n, .set _, v, e, r => by rw [pl.eq_def] at e; cases e
  | n, .obj _ _ _, v, e, r => by rw [pl.eq_def] at e; cases e
  | n, .ref _, v, e, r => by rw [pl.eq_def] at e; cases e
theorem pls_dp {G : Gp} {H : Hp} : ∀ (n : Nat) (ds : List D) (vs : List V), pls n ds = true → RDs G H vs ds → DpAll G.K H vs (pds ds)
  | n, [], vs, e, r => by cases r; exact .nil
  | n, x :: xs, vs, e, r => by
    rw [pls.eq_def] at e
    obtain ⟨e1, e2⟩ := Bool.and_eq_true_iff.mp e
    cases r with
    | cons a b => exact .cons (pl_dp n x _ e1 a) (pls_dp n xs _ e2 b)
end
mutual
theorem pl_lay : ∀ (n : Nat) (d : D), pl n d = true → (pd d).canLay0 = true ∧ (pd d).depth ≤ n
  | n, .non, e => ⟨rfl, Nat.zero_le _⟩
  | n, .bl b, e => ⟨rfl, Nat.zero_le _⟩
  | n, .int i, e => ⟨rfl, Nat.zero_le _⟩
  | n, .str x, e => ⟨by rw [pl.eq_def] at e; exact e, Nat.zero_le _⟩
  | 0, .lst xs, e => by rw [pl.eq_def] at e; cases e
  | n + 1, .lst xs, e => by
    rw [pl.eq_def] at e
    obtain ⟨h1, h2⟩ := pls_lay n xs e
    exact ⟨h1, Nat.succ_le_succ h2⟩
  | 0, .tup xs, e => by rw [pl.eq_def] at e; cases e
  | n + 1, .tup xs, e => by
    rw [pl.eq_def] at e
    obtain ⟨h1, h2⟩ := pls_lay n xs e
    exact ⟨h1, Nat.succ_le_succ h2⟩
  | n, .dct _ _, e => by rw [pl.eq_def] at e; cases e
  | n, .set _, e => by rw [pl.eq_def] at e; cases e
  | n, .obj _ _ _, e => by rw [pl.eq_def] at e; cases e
  | n, .ref _, e => by rw [pl.eq_def] at e; cases e
theorem pls_lay : ∀ (n : Nat) (ds : List D), pls n ds = true → PyData.canLayAll0 (pds ds) = true ∧ PyData.depthAll (pds ds) ≤ n
  | n, [], e => ⟨rfl, Nat.zero_le _⟩
  | n, x :: xs, e => by
    rw [pls.eq_def] at e
    obtain ⟨e1, e2⟩ := Bool.and_eq_true_iff.mp e
    obtain ⟨h1, h2⟩ := pl_lay n x e1
    obtain ⟨h3, h4⟩ := pls_lay n xs e2
    exact ⟨Bool.and_eq_true_iff.mpr ⟨h1, h3⟩, Nat.max_le.mpr ⟨h2, h4⟩⟩
end
theorem pl_shaped {n : Nat} {d : D} (h : pl n d = true) (hn : n ≤ 60) : SeqAt.shaped (pd d) = true := by
  obtain ⟨h1, h2⟩ := pl_lay n d h
  exact Bool.and_eq_true_iff.mpr ⟨h1, decide_eq_true (by omega)⟩
mutual
theorem eqv_pd : ∀ (n m : Nat) (d e : D), pl n d = true → pl m e = true → PyData.eqv (pd d) (pd e) = eqb d e
  | n, m, .non, e, h, k => by cases e <;> first | rfl | (rw [pl.eq_def] at k; cases k) | (simp [pd, PyData.eqv, eqb])
  | n, m, .bl b, e, h, k => by cases e <;> first | rfl | (rw [pl.eq_def] at k; cases k) | (simp [pd, PyData.eqv, eqb])
  | n, m, .int i, e, h, k => by cases e <;> first | rfl | (rw [pl.eq_def] at k; cases k) | (simp [pd, PyData.eqv, eqb])
  | n, m, .str x, e, h, k => by cases e <;> first | rfl | (rw [pl.eq_def] at k; cases k) | (simp [pd, PyData.eqv, eqb])
  | 0, m, .lst xs, e, h, k => by rw [pl.eq_def] at h; cases h
  | n + 1, m, .lst xs, e, h, k => by
    cases e with
    | lst ys =>
      cases m with
      | zero => rw [pl.eq_def] at k; cases k
      | succ m =>
        rw [pl.eq_def] at h k
        simp only [pd, PyData.eqv, eqb]
        exact eqvs_pd n m xs ys h k
    | _ => first | rfl | (rw [pl.eq_def] at k; cases k) | (simp [pd, PyData.eqv, eqb])
  | 0, m, .tup xs, e, h, k => by rw [pl.eq_def] at h; cases h
  | n + 1, m, .tup xs, e, h, k => by
    cases e with
    | tup ys =>
      cases m with
      | zero => rw [pl.eq_def] at k; cases k
      | succ m =>
        rw [pl.eq_def] at h k
        simp only [pd, PyData.eqv, eqb]
        exact eqvs_pd n m xs ys h k
    | _ => first | rfl | (rw [pl.eq_def] at k; cases k) | (simp [pd, PyData.eqv, eqb])
  | n, m, .dct _ _, e, h, k => by rw [pl.eq_def] at h; cases h
  | n, m, .set _, e, h, k => by rw [pl.eq_def] at h; cases h
  | n, m, .obj _ _ _, e, h, k => by rw [pl.eq_def] at h; cases h
  | n, m, .ref _, e, h, k => by rw [pl.eq_def] at h; cases h
theorem eqvs_pd : ∀ (n m : Nat) (ds es : List D), pls n ds = true → pls m es = true → PyData.eqvAll (pds ds) (pds es) = eqbs ds es
  | n, m, [], [], h, k => rfl
  | n, m, [], e :: es, h, k => by simp [pds, PyData.eqvAll, eqbs]
  | n, m, d :: ds, [], h, k => by simp [pds, PyData.eqvAll, eqbs]
  | n, m, d :: ds, e :: es, h, k => by
    rw [pls.eq_def] at h k
    obtain ⟨h1, h2⟩ := Bool.and_eq_true_iff.mp h
    obtain ⟨k1, k2⟩ := Bool.and_eq_true_iff.mp k
    simp only [pds, PyData.eqvAll, eqbs]
    rw [eqv_pd n m d e h1 k1, eqvs_pd n m ds es h2 k2]
end
section
variable {X : Cx}
def twoS : D → D → Option Bool
  | .str a, .str b => some (a == b)
  | _, _ => none
theorem twoS_ok {x y : D} {k : Bool} (h : twoS x y = some k) : ∃ a b, x = .str a ∧ y = .str b ∧ k = (a == b) := by
  unfold twoS at h
  split at h
  · cases h; exact ⟨_, _, rfl, rfl, rfl⟩
  · cases h
theorem scal_str (a b : Str) : scal (.str a) (.str b) = true := rfl
theorem dec_strV {a b : Str} : decide (V.str a = V.str b) = (a == b) := by
  rw [Bool.eq_iff_iff]
  simp
def gEqP (x y : D) : Option D := match pl 50 x && pl 50 y with
  | true => some (.bl (eqb x y))
  | false => none
def gNeP (x y : D) : Option D := match pl 50 x && pl 50 y with
  | true => some (.bl (!eqb x y))
  | false => none
def gEq (x y : D) : Option D := match twoS x y with
  | some b => some (.bl b)
  | none => gEqP x y
def gNe (x y : D) : Option D := match twoS x y with
  | some b => some (.bl (!b))
  | none => gNeP x y
theorem od_eq (hu : X.A.units + 64 < cLine) : OpD X (compareOp .Eq) gEq := ⟨_, op_eq.or (op_eqD hu), fun Z H x y dx dy d Q z rx ry e q => by
  unfold gEq at e
  split at e
  · rename_i h
    cases e
    obtain ⟨a, b, rfl, rfl, rfl⟩ := twoS_ok h
    rw [rx.str, ry.str]
    exact .inl ⟨scal_str a b, by rw [dec_strV]; exact ret_bl q⟩
  · unfold gEqP at e
    split at e
    · rename_i h
      cases e
      obtain ⟨h1, h2⟩ := Bool.and_eq_true_iff.mp h
      exact .inr ⟨_, _, pl_dp 50 dx x h1 rx.full, pl_dp 50 dy y h2 ry.full, pl_shaped h1 (by decide), pl_shaped h2 (by decide), by rw [eqv_pd 50 50 dx dy h1 h2]; exact ret_bl q⟩
    · cases e⟩
theorem od_ne (hu : X.A.units + 64 < cLine) : OpD X (compareOp .NotEq) gNe := ⟨_, op_ne.or (op_neD hu), fun Z H x y dx dy d Q z rx ry e q => by
  unfold gNe at e
  split at e
  · rename_i h
    cases e
    obtain ⟨a, b, rfl, rfl, rfl⟩ := twoS_ok h
    rw [rx.str, ry.str]
    exact .inl ⟨scal_str a b, by rw [dec_strV]; exact ret_bl q⟩
  · unfold gNeP at e
    split at e
    · rename_i h
      cases e
      obtain ⟨h1, h2⟩ := Bool.and_eq_true_iff.mp h
      exact .inr ⟨_, _, pl_dp 50 dx x h1 rx.full, pl_dp 50 dy y h2 ry.full, pl_shaped h1 (by decide), pl_shaped h2 (by decide), by rw [eqv_pd 50 50 dx dy h1 h2]; exact ret_bl q⟩
    · cases e⟩
def rInT (K : PySem.W.Frag) (neg : Bool) : R2 := fun x y H Q => ∃ d ds, Dp K H x d ∧ Dp K H y (.tuple ds) ∧ SeqAt.shaped d = true ∧ SeqAt.shaped (.tuple ds) = true ∧ Q (.bl (if neg then !ds.any (fun z => PyData.eqv z d) else ds.any fun z => PyData.eqv z d)) H
theorem op_inT (hu : X.A.units + 65 < cLine) : OpR X (compareOp .In) (rInT X.K false) := by
  rintro pins s σ H x y v u Q I rx ry ⟨d, ds, hd, he, sd, se, q⟩
  obtain ⟨as, r1⟩ := Dp.reads I d x v hd rx
  obtain ⟨bs, r2⟩ := Dp.reads I (.tuple ds) y u he ry
  apply SeqAt.in_tuple_reads r2 r1 (SeqAt.canLay_of_shaped se) (SeqAt.canLay_of_shaped sd) (room_in_shaped sd hu)
  exact ⟨.bl _, H, I, rfl, q⟩
theorem op_notInT (hu : X.A.units + 65 < cLine) : OpR X (compareOp .NotIn) (rInT X.K true) := by
  rintro pins s σ H x y v u Q I rx ry ⟨d, ds, hd, he, sd, se, q⟩
  obtain ⟨as, r1⟩ := Dp.reads I d x v hd rx
  obtain ⟨bs, r2⟩ := Dp.reads I (.tuple ds) y u he ry
  apply SeqAt.notIn_tuple_reads r2 r1 (SeqAt.canLay_of_shaped se) (SeqAt.canLay_of_shaped sd) (room_in_shaped sd hu)
  exact ⟨.bl _, H, I, rfl, q⟩
theorem any_pds {d : D} {n m : Nat} (h : pl n d = true) : ∀ {ds : List D}, pls m ds = true → ((pds ds).any fun z => PyData.eqv z (pd d)) = ds.any fun z => eqb z d
  | [], _ => rfl
  | x :: xs, k => by
    rw [pls.eq_def] at k
    obtain ⟨k1, k2⟩ := Bool.and_eq_true_iff.mp k
    simp only [pds, List.any_cons]
    rw [eqv_pd m n x d k1 h, any_pds h k2]
def gIn (x y : D) : Option D := match pl 50 x && pl 50 y with
  | true => match y with
    | .lst xs => some (.bl (xs.any fun z => eqb z x))
    | .tup xs => some (.bl (xs.any fun z => eqb z x))
    | _ => none
  | false => none
def gNotIn (x y : D) : Option D := match pl 50 x && pl 50 y with
  | true => match y with
    | .lst xs => some (.bl (!xs.any fun z => eqb z x))
    | .tup xs => some (.bl (!xs.any fun z => eqb z x))
    | _ => none
  | false => none
theorem pl_lst {n : Nat} {xs : List D} (h : pl (n + 1) (.lst xs) = true) : pls n xs = true := by rw [pl.eq_def] at h; exact h
theorem pl_tup {n : Nat} {xs : List D} (h : pl (n + 1) (.tup xs) = true) : pls n xs = true := by rw [pl.eq_def] at h; exact h
theorem od_in (hu : X.A.units + 65 < cLine) : OpD X (compareOp .In) gIn := ⟨_, (op_inD hu).or (op_inT hu), fun Z H x y dx dy d Q z rx ry e q => by
  unfold gIn at e
  split at e
  · rename_i h
    obtain ⟨h1, h2⟩ := Bool.and_eq_true_iff.mp h
    split at e
    · rename_i xs
      cases e
      exact .inl ⟨_, pds xs, pl_dp 50 dx x h1 rx.full, pl_dp 50 _ y h2 ry.full, pl_shaped h1 (by decide), pl_shaped (d := .lst xs) h2 (by decide), by rw [any_pds h1 (pl_lst h2)]; exact ret_bl q⟩
    · rename_i xs
      cases e
      exact .inr ⟨_, pds xs, pl_dp 50 dx x h1 rx.full, pl_dp 50 _ y h2 ry.full, pl_shaped h1 (by decide), pl_shaped (d := .tup xs) h2 (by decide), by rw [if_neg Bool.false_ne_true, any_pds h1 (pl_tup h2)]; exact ret_bl q⟩
    · cases e
  · cases e⟩
theorem od_notIn (hu : X.A.units + 65 < cLine) : OpD X (compareOp .NotIn) gNotIn := ⟨_, (op_notInD hu).or (op_notInT hu), fun Z H x y dx dy d Q z rx ry e q => by
  unfold gNotIn at e
  split at e
  · rename_i h
    obtain ⟨h1, h2⟩ := Bool.and_eq_true_iff.mp h
    split at e
    · rename_i xs
      cases e
      exact .inl ⟨_, pds xs, pl_dp 50 dx x h1 rx.full, pl_dp 50 _ y h2 ry.full, pl_shaped h1 (by decide), pl_shaped (d := .lst xs) h2 (by decide), by rw [any_pds h1 (pl_lst h2)]; exact ret_bl q⟩
    · rename_i xs
      cases e
      exact .inr ⟨_, pds xs, pl_dp 50 dx x h1 rx.full, pl_dp 50 _ y h2 ry.full, pl_shaped h1 (by decide), pl_shaped (d := .tup xs) h2 (by decide), by rw [if_pos rfl, any_pds h1 (pl_tup h2)]; exact ret_bl q⟩
    · cases e
  · cases e⟩
def isNon : D → Bool
  | .non => true
  | _ => false
def gIsN (x y : D) : Option D := match y with
  | .non => some (.bl (isNon x))
  | _ => none
theorem rd_non {G : Gp} {Z : List Addr} {H : Hp} {v : V} {d : D} (h : RT G Z H v d) : decide (v = .non) = isNon d := by
  rcases h with h | ⟨a, vs, ds, rfl, rfl, _⟩
  · cases h <;> rfl
  · rfl
theorem od_isN : OpD X (compareOp .Is) gIsN := ⟨_, op_isN, fun Z H x y dx dy d Q z rx ry e q => by
  unfold gIsN at e
  split at e
  · cases e
    refine ⟨ry.non, ?_⟩
    rw [rd_non rx]
    exact ret_bl q
  · cases e⟩
def gNotN (x y : D) : Option D := match y with
  | .non => some (.bl (!isNon x))
  | _ => none
theorem od_notN : OpD X (compareOp .IsNot) gNotN := ⟨_, op_notN, fun Z H x y dx dy d Q z rx ry e q => by
  unfold gNotN at e
  split at e
  · cases e
    refine ⟨ry.non, ?_⟩
    rw [rd_non rx]
    exact ret_bl q
  · cases e⟩
def gIx (x y : D) : Option D := match x, y with
  | .lst xs, .int i => atI xs i
  | .tup xs, .int i => atI xs i
  | .str z, .int i => if z.length ≤ 1000000 then (match atI z.cps.toList i with
    | some c => some (.str ⟨#[c]⟩)
    | none => none) else none
  | _, _ => none
theorem atI_rd {G : Gp} {H : Hp} {vs : List V} {ds : List D} {i : Int} {d : D} (r : RDs G H vs ds) (e : atI ds i = some d) : ∃ v, atI vs i = some v ∧ RD G H v d := by
  unfold atI at e ⊢
  rw [r.len]
  cases q : ixN ds.length i with
  | none => rw [q] at e; cases e
  | some j =>
    rw [q] at e
    obtain ⟨v, h1, h2⟩ := r.get (i := j) (d := d) e
    exact ⟨v, h1, h2⟩
theorem ix_rd {G : Gp} {Z : List Addr} {H : Hp} {x y : V} {dx dy d : D} {Q : VK} (z : ZOk Z H) (rx : RT G Z H x dx) (ry : RT G Z H y dy) (e : gIx dx dy = some d) (q : ∀ v H', Same H H' → RD G (hid Z H') v d → Q v H') : rIx G.K x y H Q := by
  unfold gIx at e
  split at e
  · obtain ⟨a, vs, rfl, h1, h2⟩ := rx.lst
    obtain ⟨v, h3, h4⟩ := atI_rd h2 e
    exact .inl ⟨a, vs, _, v, rfl, ry.int, h1, h3, q v H (Same.refl _) h4⟩
  · obtain ⟨a, vs, rfl, h1, h2⟩ := rx.tup
    obtain ⟨v, h3, h4⟩ := atI_rd h2 e
    exact .inr (.inl ⟨a, vs, _, v, rfl, ry.int, h1.sq, h3, q v H (Same.refl _) h4⟩)
  · rename_i w i
    by_cases hw : w.length ≤ 1000000
    · rw [if_pos hw] at e
      split at e
      · rename_i c hc
        cases e
        exact .inr (.inr ⟨w, i, c, rx.str, ry.int, len_line hw, hc, ret_str q⟩)
      · cases e
    · rw [if_neg hw] at e; cases e
  · cases e
theorem de_ix {a b : Expr} {fa fb : ES} {pos : Pos} (ha : DE X a fa) (hb : DE X b fb) (hs : PlainIx b) : DE X (.Subscript a b pos) (eBin gIx fa fb) := ⟨fun F => pe_imp (pe_ix ix_seq (ha.run F) (hb.run F) hs) fun σ H Q h => tOp_of (fun Z H x y dx dy d Q z rx ry e q => ix_rd z rx ry e q) h⟩
structure DO (X : Cx) (e : Option Expr) (f : M (Option Int)) : Prop where
  run : ∀ F, PO X e (fun σ H Q => ∃ A ρ o ρ', Sts (Gx X) F A σ ρ H ∧ f ρ = .ok o ρ' ∧ ∀ H', Sts (Gx X) F A σ ρ' H' → Stp A H H' → Q o H')
theorem po_imp {X : Cx} {e : Option Expr} {t t' : TO} (h : PO X e t) (i : ∀ σ H Q, t' σ H Q → t σ H Q) : PO X e t' := ⟨fun pins s σ H Q I q => h.run pins s σ H Q I (i σ H Q q)⟩
def oNone : M (Option Int) := M.ret none
def oSome (fa : ES) : M (Option Int) := M.bind fa fun r => M.bind (val r) fun d => M.bind (M.opt (isInt d)) fun i => M.ret (some i)
theorem do_none : DO X none oNone := ⟨fun F => po_imp po_none fun σ H Q ⟨A, ρ, o, ρ', S, e, q⟩ => by
  obtain ⟨rfl, rfl⟩ := ret_ok e
  exact q H S (Stp.refl _ _)⟩
theorem do_some {e : Expr} {fa : ES} (ha : DE X e fa) : DO X (some e) (oSome fa) := ⟨fun F => po_imp (po_some (ha.run F)) fun σ H Q ⟨A, ρ, o, ρ', S, e, q⟩ => by
  obtain ⟨r, ρ1, e1, e⟩ := bind_ok e
  obtain ⟨d, ρ2, e2, e⟩ := bind_ok e
  obtain ⟨l2, rfl⟩ := val_ok e2
  obtain ⟨i, ρ3, e3, e⟩ := bind_ok e
  obtain ⟨l3, rfl⟩ := opt_ok e3
  obtain ⟨rfl, rfl⟩ := ret_ok e
  refine ⟨A, ρ, r, _, S, e1, fun v H1 S1 m1 r1 => ⟨i, ?_, q H1 S1 m1⟩⟩
  have rt := look_rt S1 r1 l2
  unfold isInt at l3
  split at l3
  · cases l3; exact rt.int
  · cases l3⟩
def cutD (xs : List D) (lo hi : Option Int) : List D := (xs.drop (HT.sIx xs.length 0 lo)).take (HT.sIx xs.length xs.length hi - HT.sIx xs.length 0 lo)
theorem cut_rd {G : Gp} {H : Hp} {vs : List V} {ds : List D} {lo hi : Option Int} (r : RDs G H vs ds) : RDs G H (cutV vs lo hi) (cutD ds lo hi) := by
  unfold cutV cutD
  rw [r.len]
  exact (r.drop _).take _
def rSlF (K : PySem.W.Frag) : V → Option Int → Option Int → Hp → VK → Prop := fun x lo hi H Q => ∃ a xs, x = .ref a ∧ SqT K H a xs ∧ (HT.sIx xs.length 0 lo = 0 ∧ HT.sIx xs.length xs.length hi = xs.length → Q (.ref a) H) ∧
  (¬ (HT.sIx xs.length 0 lo = 0 ∧ HT.sIx xs.length xs.length hi = xs.length) → ∀ p its, H p = none → Q (.ref p) (upd H p (tHO its (cutV xs lo hi))))
theorem sl_tupF : SlR X (rSlF X.K) := by
  rintro pins s σ H x v vl vu lo hi sl Q I rx hs pl pu ⟨a, xs, rfl, hx, q1, q2⟩
  cases rx
  obtain ⟨its, r, ht, hz⟩ := I.tuple hx
  have hl : its.toArray.size = xs.length := by rw [List.size_toArray]; exact r.length.symm
  refine ⟨"tuple", _, PyProof.Rows.slot_tuple_getitem.lookup, ht.typeIs, ?_⟩
  by_cases hw : HT.sIx xs.length 0 lo = 0 ∧ HT.sIx xs.length xs.length hi = xs.length
  · exact L2.getItem_tuple_whole ht hs pl pu (hl ▸ hw) ⟨.ref a, H, I, rfl, q1 hw⟩
  · apply HT.getItem_tuple_cut ht hs pl pu (hl ▸ hw) (hsz := hl ▸ hz)
    have rc : Vals (cutV xs lo hi) ((its.toArray.toList.drop (HT.sIx its.toArray.size 0 lo)).take (HT.sIx its.toArray.size its.toArray.size hi - HT.sIx its.toArray.size 0 lo)) := by
      rw [hl]
      exact (r.drop _).take _
    exact ⟨V.ref s.heap.objs.size, _, lay_tup I rc (Nat.le_trans (cutV_length xs lo hi) hz) s.toks, rfl, q2 hw _ _ (I.hok.fresh (Nat.le_refl _))⟩
def gSl (x : D) (lo hi : Option Int) : Option D := match x with
  | .lst xs => some (.lst (cutD xs lo hi))
  | .tup xs => some (.tup (cutD xs lo hi))
  | _ => none
def eSl (fa : ES) (fl fh : M (Option Int)) : ES := M.bind fa fun r => M.bind fl fun lo => M.bind fh fun hi => M.bind (val r) fun d => M.bind (M.opt (gSl d lo hi)) fun x => M.ret (.im x)
theorem cut_whole {α : Type} (xs : List α) {lo hi : Option Int} (h : HT.sIx xs.length 0 lo = 0 ∧ HT.sIx xs.length xs.length hi = xs.length) : (xs.drop (HT.sIx xs.length 0 lo)).take (HT.sIx xs.length xs.length hi - HT.sIx xs.length 0 lo) = xs := by
  rw [h.1, h.2, List.drop_zero, Nat.sub_zero, List.take_length]
theorem de_sl {e : Expr} {fa : ES} {lo hi : Option Expr} {fl fh : M (Option Int)} {p2 pos : Pos} (ha : DE X e fa) (hl : DO X lo fl) (hh : DO X hi fh) : DE X (.Subscript e (.Slice lo hi none p2) pos) (eSl fa fl fh) := ⟨fun F => pe_imp (pe_slice (sl_list.or sl_tupF) (ha.run F) (hl.run F) (hh.run F)) fun σ H Q ⟨A, ρ, rr, ρ', S, e, q⟩ => by
  obtain ⟨r, ρ1, e1, e⟩ := bind_ok e
  obtain ⟨lo, ρ2, e2, e⟩ := bind_ok e
  obtain ⟨hi, ρ3, e3, e⟩ := bind_ok e
  obtain ⟨d, ρ4, e4, e⟩ := bind_ok e
  obtain ⟨l4, rfl⟩ := val_ok e4
  obtain ⟨x, ρ5, e5, e⟩ := bind_ok e
  obtain ⟨l5, rfl⟩ := opt_ok e5
  obtain ⟨rfl, rfl⟩ := ret_ok e
  refine ⟨A, ρ, r, ρ1, S, e1, fun v H1 S1 m1 r1 => ⟨A, ρ1, lo, ρ2, S1, e2, fun H2 S2 m2 => ⟨A, ρ2, hi, _, S2, e3, fun H3 S3 m3 => ?_⟩⟩⟩
  have rt := look_rt S3 ((r1.same m2.hid).same m3.hid) l4
  have m := (m1.trans m2).trans m3
  unfold gSl at l5
  split at l5
  · cases l5
    obtain ⟨a, vs, rfl, h1, h2⟩ := rt.lst
    refine .inl ⟨a, vs, rfl, h1, fun p hp => ?_⟩
    have sm := Same.of_new (o := .lst (cutV vs lo hi)) hp
    exact q _ _ (S3.same sm) (m.trans (Stp.of sm)) (.lst (SqL.of (hid_new S3.zall hp)) ((cut_rd h2).mono (Same.hid sm)))
  · rename_i xs
    cases l5
    obtain ⟨a, vs, rfl, h1, h2⟩ := rt.tup
    refine .inr ⟨a, vs, rfl, h1.sq, fun hw => ?_, fun hw p its hp => ?_⟩
    · have ew : cutD xs lo hi = xs := cut_whole xs (by rw [← h2.len]; exact hw)
      rw [ew] at q
      rcases rt with rt | ⟨_, _, _, _, ee, _⟩
      · exact q _ H3 S3 m rt
      · cases ee
    · have sm := Same.of_new (o := tHO its (cutV vs lo hi)) hp
      exact q _ _ (S3.same sm) (m.trans (Stp.of sm)) (.tup (.inl ⟨_, hid_new S3.zall hp, rfl⟩) ((cut_rd h2).mono (Same.hid sm)))
  · cases l5⟩
end
end Dv
namespace Dv
open PySem PySem.Spec PyProof.Rows L2
section
variable {X : Cx}
def rTupF (K : PySem.W.Frag) : List V → Hp → VK → Prop := fun xs H Q => ∃ p ys, xs = [.ref p] ∧ ((SqL K H p ys ∧ ∀ l its, H l = none → Q (.ref l) (upd H l (tHO its ys))) ∨ (SqT K H p ys ∧ Q (.ref p) H))
theorem call_tupF : CallR X (.type "tuple") (rTupF X.K) := by
  rintro pins s σ H xs us Q I r ⟨p, ys, rfl, h⟩
  obtain ⟨u, rfl, rx⟩ := vals1 r
  cases rx
  rcases h with ⟨hq, q⟩ | ⟨hq, q⟩
  · obtain ⟨its, rv, pl, hz⟩ := I.list hq
    have hl := rv.length
    apply call_tuple_list pl.isList (hsz := by simp only [List.size_toArray]; omega)
    intro h' kp
    have I1 : Inv X pins σ H { s with heap := h' } := I.kept (t' := s.toks) kp
    exact ⟨V.ref h'.objs.size, _, lay_tup I1 rv hz s.toks, rfl, q _ its (I1.hok.fresh (Nat.le_refl _))⟩
  · obtain ⟨its, rv, pl, hz⟩ := I.tuple hq
    exact call_tuple_same pl ⟨.ref p, H, I, rfl, q⟩
def gTuple : List D → Option D
  | [.lst xs] => some (.tup xs)
  | [.tup xs] => some (.tup xs)
  | _ => none
theorem cd_tuple : CallD X (.type "tuple") gTuple := ⟨_, call_tupF, fun Z H xs ds d Q z r e q => by
  unfold gTuple at e
  split at e
  · cases e
    obtain ⟨v, rfl, r1⟩ := r.one
    obtain ⟨a, vs, rfl, h1, h2⟩ := r1.lst
    refine ⟨a, vs, rfl, .inl ⟨h1, fun p its hp => ?_⟩⟩
    have sm := Same.of_new (o := tHO its vs) hp
    exact q _ _ sm (.tup (.inl ⟨_, hid_new z hp, rfl⟩) (h2.mono (Same.hid sm)))
  · cases e
    obtain ⟨v, rfl, r1⟩ := r.one
    rcases r1 with r1 | ⟨_, _, _, _, ee, _⟩
    · cases r1 with
      | tup h1 h2 => exact ⟨_, _, rfl, .inr ⟨Same.tupq hid_full h1.sq, q _ _ (Same.refl _) (.tup h1 h2)⟩⟩
    · cases ee
  · cases e⟩
def gList : List D → Option (List D)
  | [.lst xs] => some xs
  | [.tup xs] => some xs
  | _ => none
theorem cn_list : CallN X (.type "list") gList := ⟨_, call_list_of, fun Z H xs ds es Q z r e q => by
  unfold gList at e
  split at e
  · cases e
    obtain ⟨v, rfl, r1⟩ := r.one
    obtain ⟨a, vs, rfl, h1, h2⟩ := r1.lst
    exact ⟨a, vs, rfl, .inl h1, fun p hp => q p vs hp h2⟩
  · cases e
    obtain ⟨v, rfl, r1⟩ := r.one
    obtain ⟨a, vs, rfl, h1, h2⟩ := r1.tup
    exact ⟨a, vs, rfl, .inr h1.sq, fun p hp => q p vs hp h2⟩
  · cases e⟩
def asInts : List D → Option (List Int)
  | [] => some []
  | .int i :: r => match asInts r with
    | some ns => some (i :: ns)
    | none => none
  | _ :: _ => none
theorem asInts_eq : ∀ {xs : List D} {ns : List Int}, asInts xs = some ns → xs = ns.map D.int
  | [], ns, e => by cases e; rfl
  | .int i :: r, ns, e => by
    simp only [asInts] at e
    split at e
    · rename_i ms q
      cases e
      rw [asInts_eq q]; rfl
    · cases e
  | .non :: _, _, e => by cases e
  | .bl _ :: _, _, e => by cases e
  | .str _ :: _, _, e => by cases e
  | .tup _ :: _, _, e => by cases e
  | .lst _ :: _, _, e => by cases e
  | .dct _ _ :: _, _, e => by cases e
  | .set _ :: _, _, e => by cases e
  | .obj _ _ _ :: _, _, e => by cases e
  | .ref _ :: _, _, e => by cases e
theorem asInts_map : ∀ (ns : List Int), asInts (ns.map D.int) = some ns
  | [] => rfl
  | n :: r => by simp only [List.map_cons, asInts, asInts_map r]
def bls : List D → Option (List Bool)
  | [] => some []
  | .bl i :: r => match bls r with
    | some ns => some (i :: ns)
    | none => none
  | _ :: _ => none
theorem bls_eq : ∀ {xs : List D} {ns : List Bool}, bls xs = some ns → xs = ns.map D.bl
  | [], ns, e => by cases e; rfl
  | .bl i :: r, ns, e => by
    simp only [bls] at e
    split at e
    · rename_i ms q
      cases e
      rw [bls_eq q]; rfl
    · cases e
  | .non :: _, _, e => by cases e
  | .int _ :: _, _, e => by cases e
  | .str _ :: _, _, e => by cases e
  | .tup _ :: _, _, e => by cases e
  | .lst _ :: _, _, e => by cases e
  | .dct _ _ :: _, _, e => by cases e
  | .set _ :: _, _, e => by cases e
  | .obj _ _ _ :: _, _, e => by cases e
  | .ref _ :: _, _, e => by cases e
theorem bls_map : ∀ (ns : List Bool), bls (ns.map D.bl) = some ns
  | [] => rfl
  | n :: r => by simp only [List.map_cons, bls, bls_map r]
def gSum : List D → Option D
  | [.lst xs] => match asInts xs with
    | some ns => some (.int ns.sum)
    | none => none
  | _ => none
theorem cd_sum (hc : X.calm = true) : CallD X (.builtin "sum") gSum := ⟨_, cr_sum hc, fun Z H xs ds d Q z r e q => by
  unfold gSum at e
  split at e
  · split at e
    · rename_i ns q1
      cases e
      obtain rfl := asInts_eq q1
      obtain ⟨v, rfl, r1⟩ := r.one
      obtain ⟨a, vs, rfl, h1, h2⟩ := r1.lst
      obtain rfl := h2.ints
      exact ⟨a, ns, rfl, h1, ret_int q⟩
    · cases e
  · cases e⟩
def gAll : List D → Option D
  | [.lst xs] => match bls xs with
    | some ns => some (.bl (ns.all id))
    | none => none
  | _ => none
theorem cd_all (hc : X.calm = true) : CallD X (.builtin "all") gAll := ⟨_, cr_all hc, fun Z H xs ds d Q z r e q => by
  unfold gAll at e
  split at e
  · split at e
    · rename_i ns q1
      cases e
      obtain rfl := bls_eq q1
      obtain ⟨v, rfl, r1⟩ := r.one
      obtain ⟨a, vs, rfl, h1, h2⟩ := r1.lst
      obtain rfl := h2.bls
      exact ⟨a, ns, rfl, h1, ret_bl q⟩
    · cases e
  · cases e⟩
def gAny : List D → Option D
  | [.lst xs] => match bls xs with
    | some ns => some (.bl (ns.any id))
    | none => none
  | _ => none
theorem cd_any (hc : X.calm = true) : CallD X (.builtin "any") gAny := ⟨_, cr_any hc, fun Z H xs ds d Q z r e q => by
  unfold gAny at e
  split at e
  · split at e
    · rename_i ns q1
      cases e
      obtain rfl := bls_eq q1
      obtain ⟨v, rfl, r1⟩ := r.one
      obtain ⟨a, vs, rfl, h1, h2⟩ := r1.lst
      obtain rfl := h2.bls
      exact ⟨a, ns, rfl, h1, ret_bl q⟩
    · cases e
  · cases e⟩
def insI (i : Int) : List Int → List Int
  | [] => [i]
  | j :: r => if i ≤ j then i :: j :: r else j :: insI i r
def sortI : List Int → List Int
  | [] => []
  | i :: r => insI i (sortI r)
theorem insI_perm (i : Int) : ∀ l, (insI i l).Perm (i :: l)
  | [] => .refl _
  | j :: r => by
    unfold insI
    split
    · exact .refl _
    · exact ((insI_perm i r).cons j).trans (.swap _ _ _)
theorem sortI_perm : ∀ l, (sortI l).Perm l
  | [] => .refl _
  | i :: r => (insI_perm i _).trans ((sortI_perm r).cons i)
theorem insI_sorted (i : Int) : ∀ l, l.Pairwise (· ≤ ·) → (insI i l).Pairwise (· ≤ ·)
  | [], _ => List.pairwise_singleton _ _
  | j :: r, h => by
    obtain ⟨h1, h2⟩ := List.pairwise_cons.mp h
    unfold insI
    split
    · rename_i hij
      refine List.pairwise_cons.mpr ⟨fun x hx => ?_, h⟩
      rcases List.mem_cons.mp hx with rfl | hx
      · exact hij
      · exact Int.le_trans hij (h1 x hx)
    · rename_i hij
      refine List.pairwise_cons.mpr ⟨fun x hx => ?_, insI_sorted i r h2⟩
      rcases List.mem_cons.mp ((insI_perm i r).mem_iff.mp hx) with rfl | hx
      · omega
      · exact h1 x hx
theorem sortI_sorted : ∀ l, (sortI l).Pairwise (· ≤ ·)
  | [] => .nil
  | i :: r => insI_sorted i _ (sortI_sorted r)
theorem sorted_uniq : ∀ {l m : List Int}, l.Perm m → l.Pairwise (· ≤ ·) → m.Pairwise (· ≤ ·) → l = m
  | [], m, p, _, _ => by rw [List.nil_perm.mp p]
  | i :: r, [], p, _, _ => by cases List.perm_nil.mp p
  | i :: r, j :: t, p, hl, hm => by
    obtain ⟨l1, l2⟩ := List.pairwise_cons.mp hl
    obtain ⟨m1, m2⟩ := List.pairwise_cons.mp hm
    have e : i = j := by
      have a1 : i ∈ j :: t := p.mem_iff.mp List.mem_cons_self
      have a2 : j ∈ i :: r := p.mem_iff.mpr List.mem_cons_self
      rcases List.mem_cons.mp a1 with a1 | a1
      · exact a1
      · rcases List.mem_cons.mp a2 with a2 | a2
        · exact a2.symm
        · exact Int.le_antisymm (l1 j a2) (m1 i a1)
    subst e
    rw [sorted_uniq (List.perm_cons _ |>.mp p) l2 m2]
def gSortedI : List D → Option (List D)
  | [.lst xs] => match asInts xs with
    | some ns => some ((sortI ns).map .int)
    | none => none
  | _ => none
theorem cn_sortedI : CallN X (.builtin "sorted") gSortedI := ⟨_, cr_sortedI, fun Z H xs ds es Q z r e q => by
  unfold gSortedI at e
  split at e
  · split at e
    · rename_i ns q1
      cases e
      obtain rfl := asInts_eq q1
      obtain ⟨v, rfl, r1⟩ := r.one
      obtain ⟨a, vs, rfl, h1, h2⟩ := r1.lst
      obtain rfl := h2.ints
      refine ⟨a, ns, rfl, h1, fun ns' p h3 h4 hp => ?_⟩
      rw [sorted_uniq (h3.trans (sortI_perm ns).symm) h4 (sortI_sorted ns)]
      exact q p _ hp (RDs.map_int _)
    · cases e
  · cases e⟩
def rCatL (K : PySem.W.Frag) : R2 := fun x y H Q => ∃ l b xs zs, x = .ref l ∧ y = .ref b ∧ SqL K H l xs ∧ SqL K H b zs ∧ xs.length + zs.length ≤ sizeLine ∧ ∀ p, H p = none → Q (.ref p) (upd H p (.lst (xs ++ zs)))
theorem op_catL : OpR X (binaryOp .Add) (rCatL X.K) := by
  rintro pins s σ H x y v u Q I rx ry ⟨l, b, xs, zs, rfl, rfl, hl, hb, hz, q⟩
  cases rx
  cases ry
  obtain ⟨its, r, ⟨⟨c1, d1, t1, s1⟩, n, ho, hc, _, hd⟩, _⟩ := I.list hl
  obtain ⟨its2, r2, ⟨⟨c2, d2, t2, s2⟩, n2, ho2, hc2, _, hd2⟩, _⟩ := I.list hb
  simp only at hc hd hc2 hd2
  subst hc hd hc2 hd2
  have len : (its ++ its2).length = xs.length + zs.length := by rw [List.length_append, r.length, r2.length]
  have ea : its.toArray ++ its2.toArray = (its ++ its2).toArray := by simp
  have big : its.toArray.size + its2.toArray.size ≤ sizeLine := by
    rw [List.size_toArray, List.size_toArray, ← List.length_append, len]
    exact hz
  refine concat_meets (s := s) (a := .ref l) (b := .ref b) ⟨_, ho, rfl⟩ ⟨_, ho2, rfl⟩ noFill_list_add seq_list_add PySem.F.slot_list_add PySem.F.entry_list_add (PySem.F.args_list_add_2 _ _) (list_addW l b _ _ n n2 d1 d2 s1 s2 big) ⟨ho, ho2, ?_⟩
  rw [ea]
  have hn := I.hok.fresh (Nat.le_refl s.heap.objs.size)
  refine ⟨V.ref s.heap.objs.size, _, I.laid (t' := s.toks) (o := .lst (xs ++ zs)) (fun _ _ k => Heap.get?_push_of_some _ k) (Nat.le_refl _) ⟨?_, its ++ its2, 0, r.append r2, Heap.get?_push_size _ rfl⟩, rfl, q _ hn⟩
  rw [List.length_append]; exact hz
def rCatF (K : PySem.W.Frag) : R2 := fun x y H Q => ∃ a b xs ys, x = .ref a ∧ y = .ref b ∧ SqT K H a xs ∧ SqT K H b ys ∧ xs.length + ys.length ≤ sizeLine ∧
  (xs = [] → Q (.ref b) H) ∧ (xs ≠ [] → ys = [] → Q (.ref a) H) ∧ (xs ≠ [] → ys ≠ [] → ∀ p its, H p = none → Q (.ref p) (upd H p (tHO its (xs ++ ys))))
theorem op_catF : OpR X (binaryOp .Add) (rCatF X.K) := by
  rintro pins s σ H x y v u Q I rx ry ⟨a, b, xs, ys, rfl, rfl, ha, hb, hz, q0, q1, q2⟩
  cases rx
  cases ry
  obtain ⟨its, r, p1, _⟩ := I.tuple ha
  obtain ⟨its2, r2, p2, _⟩ := I.tuple hb
  by_cases hx : xs = []
  · subst hx
    cases r
    exact cat_tup0 p1 p2 ⟨V.ref b, H, I, rfl, q0 rfl⟩
  · have nx : its ≠ [] := fun k => hx (r.nil_iff.mp k)
    have len : (its ++ its2).length = xs.length + ys.length := by rw [List.length_append, r.length, r2.length]
    apply HT.cat_tup p1 p2 nx (hsz := by rw [← List.length_append, len]; exact hz)
    · intro k
      exact ⟨V.ref a, H, I, rfl, q1 hx (r2.nil_iff.mp k)⟩
    · intro k
      exact ⟨V.ref s.heap.objs.size, _, lay_tup I (r.append r2) (by rw [List.length_append]; exact hz) s.toks, rfl, q2 hx (fun w => k (r2.nil_iff.mpr w)) _ _ (I.hok.fresh (Nat.le_refl _))⟩
def gAdd : D → D → Option D
  | .int i, .int j => some (.int (i + j))
  | .str x, .str y => if x.length + y.length ≤ 1000000 then some (.str (x ++ y)) else none
  | .lst xs, .lst ys => if xs.length + ys.length ≤ 1000000 then some (.lst (xs ++ ys)) else none
  | .tup xs, .tup ys => if xs.length + ys.length ≤ 1000000 then some (.tup (xs ++ ys)) else none
  | _, _ => none
theorem od_add : OpD X (binaryOp .Add) gAdd := ⟨_, (op_add.or op_add_str).or (op_catL.or op_catF), fun Z H x y dx dy d Q z rx ry e q => by
  unfold gAdd at e
  split at e
  · cases e
    exact .inl (.inl ⟨_, _, rx.int, ry.int, ret_int q⟩)
  · split at e
    · rename_i hz
      cases e
      exact .inl (.inr ⟨_, _, rx.str, ry.str, len_line hz, ret_str q⟩)
    · cases e
  · split at e
    · rename_i hz
      cases e
      obtain ⟨a, vs, rfl, h1, h2⟩ := rx.lst
      obtain ⟨b, ws, rfl, h3, h4⟩ := ry.lst
      refine .inr (.inl ⟨a, b, vs, ws, rfl, rfl, h1, h3, by rw [h2.len, h4.len]; exact len_line hz, fun p hp => ?_⟩)
      have sm := Same.of_new (o := .lst (vs ++ ws)) hp
      exact q _ _ sm (.lst (SqL.of (hid_new z hp)) ((h2.app h4).mono (Same.hid sm)))
    · cases e
  · rename_i xs ys
    split at e
    · rename_i hz
      cases e
      obtain ⟨a, vs, rfl, h1, h2⟩ := rx.tup
      obtain ⟨b, ws, rfl, h3, h4⟩ := ry.tup
      refine .inr (.inr ⟨a, b, vs, ws, rfl, rfl, h1.sq, h3.sq, by rw [h2.len, h4.len]; exact len_line hz, fun e1 => ?_, fun e1 e2 => ?_, fun e1 e2 p its hp => ?_⟩)
      · subst e1
        cases h2
        rcases ry with ry | ⟨_, _, _, _, ee, _⟩
        · exact q _ H (Same.refl _) ry
        · cases ee
      · subst e2
        cases h4
        rw [List.append_nil] at q
        rcases rx with rx | ⟨_, _, _, _, ee, _⟩
        · exact q _ H (Same.refl _) rx
        · cases ee
      · have sm := Same.of_new (o := tHO its (vs ++ ws)) hp
        exact q _ _ sm (.tup (.inl ⟨_, hid_new z hp, rfl⟩) ((h2.app h4).mono (Same.hid sm)))
    · cases e
  · cases e⟩
theorem id_add : IpD X .Add (gI0 fun i j => .int (i + j)) := opD_I0 iop_add
theorem rt_ty {G : Gp} {Z : List Addr} {H : Hp} {v : V} {d : D} (h : RT G Z H v d) : ∀ t, (match d with
    | .non => some "NoneType"
    | .bl _ => some "bool"
    | .int _ => some "int"
    | .str _ => some "str"
    | .lst _ => some "list"
    | .tup _ => some "tuple"
    | .dct _ _ => some "dict"
    | _ => none) = some t → TyX G.K H v (.type t) := by
  intro t e
  rcases h with h | ⟨a, vs, ds, rfl, rfl, h1, _⟩
  · cases h with
    | non => cases e; exact .base .non
    | bl b => cases e; exact .base (.bl b)
    | int b => cases e; exact .base (.int b)
    | str b => cases e; exact .base (.str b)
    | ref a => cases e
    | lst h1 h2 =>
      cases e
      rcases hid_full.seq h1 with (h1 | ⟨o, h1⟩) | ⟨o, its, n, k1, k2, _⟩
      · exact .base (.lst h1)
      · exact .base (.frz h1)
      · exact .kList k1 k2
    | tup h1 h2 =>
      cases e
      rcases h1 with ⟨o, h1, _⟩ | ⟨o, its, n, k1, k2, _⟩
      · exact .fTuple (hid_full _ _ h1)
      · exact .kTuple k1 k2
    | dct h1 _ => cases e; exact .base (.dK (hid_full _ _ h1))
    | dctT h1 _ => cases e; exact .base (.dT (hid_full _ _ h1))
    | set _ _ _ _ => cases e
    | obj _ _ _ => cases e
  · cases e; exact .base (.lst h1)
def tyN : D → Option String
  | .non => some "NoneType"
  | .bl _ => some "bool"
  | .int _ => some "int"
  | .str _ => some "str"
  | .lst _ => some "list"
  | .tup _ => some "tuple"
  | .dct _ _ => some "dict"
  | _ => none
def isiB (t n : String) : Bool := t == n || (t == "bool" && n == "int")
def tyKnown (n : String) : Bool := n == "int" || n == "bool" || n == "tuple" || n == "list" || n == "str" || n == "dict"
theorem kit_known {n : String} (hn : tyKnown n = true) : ∀ t ∈ ["NoneType", "bool", "int", "str", "list", "tuple", "dict"], kitB t n = some (isiB t n) := by
  unfold tyKnown at hn
  simp only [Bool.or_eq_true, beq_iff_eq] at hn
  rcases hn with ((((rfl | rfl) | rfl) | rfl) | rfl) | rfl <;> decide +kernel
def gIsi (n : String) (d : D) : Option D := match tyN d with
  | some t => some (.bl (isiB t n))
  | none => none
theorem tyN_mem {d : D} {t : String} (h : tyN d = some t) : t ∈ ["NoneType", "bool", "int", "str", "list", "tuple", "dict"] := by
  cases d <;> cases h <;> decide
theorem de_isi {a : Expr} {fa : ES} {x : Str} {n : String} {p p2 pos : Pos} (hn : tyKnown n = true) (hg : Gl X "isinstance") (hm : X.mg "isinstance" = none) (ha : DE X a fa) (hg2 : Gl X x) (hm2 : X.mg x = none) (hv : bootBuiltins x = some (.type n))
    (hv0 : bootBuiltins "isinstance" = some (.builtin "isinstance")) (hx : x ≠ "__name__" := by decide) (hxd : (x == ("__debug__" : Str)) = false := by decide)
    (h1 : starEach [a, .Name x p2] X.env = (false, eval a X.env) :: starEach [.Name x p2] X.env := by rfl) : DE X (.Call (.Name "isinstance" p) [a, .Name x p2] [] pos) (eUn (gIsi n) fa) := ⟨fun F => by
  refine pe_imp (pe_callB call_isi hg hm hv0 (pa_cons (ha.run F) (pa_cons (pe_bltn (v := .ty n) hg2 hm2 hv rfl hx hxd) pa_nil) h1) (by decide) (by decide) h1) fun σ H Q ⟨A, ρ, rr, ρ', S, e, q⟩ => ?_
  obtain ⟨ra, ρ1, e1, e⟩ := bind_ok e
  obtain ⟨d, ρ3, e3, e⟩ := bind_ok e
  obtain ⟨l3, rfl⟩ := val_ok e3
  obtain ⟨c, ρ5, e5, e⟩ := bind_ok e
  obtain ⟨l5, rfl⟩ := opt_ok e5
  obtain ⟨rfl, rfl⟩ := ret_ok e
  refine ⟨A, ρ, ra, _, S, e1, fun v H1 S1 m1 r1 => ?_⟩
  have rt := look_rt S1 r1 l3
  unfold gIsi at l5
  split at l5
  · rename_i t ht
    cases l5
    refine ⟨v, .ty n, .type t, .type n, isiB t n, rfl, .ty n, rt_ty rt t ?_, kit_ty (kit_known hn t (tyN_mem ht)), q _ H1 S1 m1 (.bl _)⟩
    unfold tyN at ht
    exact ht
  · cases l5⟩
end
mutual
def cost : D → Nat
  | .non => 4
  | .bl _ => 5
  | .int i => if i.natAbs < 10 ^ 18 then 20 else if i.natAbs < 2 ^ 1900 then 1922 else 100000000
  | .str x => if PyData.strOk x = true then 10 * x.length + 2 else 100000000
  | .lst xs => costs xs + 3
  | .tup xs => costs xs + 3
  | _ => 100000000
def costs : List D → Nat
  | [] => 0
  | x :: xs => cost x + 2 + costs xs
end
theorem strOk_of {x : Str} (h : PyData.strOk x = true) : ∀ c ∈ x.cps.toList, c < 16 ^ 8 := fun c hc => by
  have z := Array.all_eq_true_iff_forall_mem.mp h c (by simpa using hc)
  have z := of_decide_eq_true z
  exact Nat.lt_of_lt_of_le z (by decide)
theorem ofString_len (x : String) : (Str.ofString x).length = x.length :=
  PySem.ofString_length x
mutual
theorem cost_ok : ∀ (d : D), cost d ≤ 16000000 → (pd d).showable = true ∧ (pd d).shown.length ≤ cost d
  | .non, _ => ⟨rfl, by decide⟩
  | .bl b, _ => ⟨rfl, by cases b <;> decide⟩
  | .int i, h => by
    simp only [cost] at h ⊢
    by_cases z : i.natAbs < 10 ^ 18
    · rw [if_pos z]
      refine ⟨?_, ?_⟩
      · show decide (i.natAbs.log2 < 1920) = true
        have z2 : i.natAbs < 2 ^ 60 := Nat.lt_of_lt_of_le z (by decide)
        exact decide_eq_true (Nat.lt_trans (PySem.Flt.log2_lt_of (by decide) z2) (by decide))
      · show (Str.ofString (toString i)).length ≤ 20
        rw [ofString_len]
        exact Nat.le_trans (int_text_length_le10 (k := 18) (by decide) z) (by decide)
    · rw [if_neg z] at h ⊢
      by_cases z : i.natAbs < 2 ^ 1900
      · rw [if_pos z]
        have zl := PySem.Flt.log2_lt_of (by decide) z
        refine ⟨?_, ?_⟩
        · show decide (i.natAbs.log2 < 1920) = true
          exact decide_eq_true (Nat.lt_trans zl (by decide))
        · show (Str.ofString (toString i)).length ≤ 1922
          rw [ofString_len]
          exact Nat.le_trans (int_text_length_le (k := 1900) (by decide) zl) (by decide)
      · rw [if_neg z] at h
        exact absurd h (by decide)
  | .str x, h => by
    simp only [cost] at h ⊢
    by_cases z : PyData.strOk x = true
    · rw [if_pos z]
      exact ⟨rfl, StrLaws.reprText_len x (strOk_of z)⟩
    · rw [if_neg z] at h
      exact absurd h (by decide)
  | .lst xs, h => by
    simp only [cost] at h ⊢
    obtain ⟨h1, h2⟩ := costs_ok xs (by omega)
    refine ⟨h1, Nat.le_trans (listText_len_le _) ?_⟩
    omega
  | .tup xs, h => by
    simp only [cost] at h ⊢
    obtain ⟨h1, h2⟩ := costs_ok xs (by omega)
    refine ⟨h1, Nat.le_trans (tupleText_len_le _) ?_⟩
    omega
  | .dct _ _, h => absurd h (by simp [cost])
  | .set _, h => absurd h (by simp [cost])
  | .obj _ _ _, h => absurd h (by simp [cost])
  | .ref _, h => absurd h (by simp [cost])
theorem costs_ok : ∀ (ds : List D), costs ds ≤ 16000000 → PyData.showableAll (pds ds) = true ∧ ((PyData.shownAll (pds ds)).map (·.length)).sum + 2 * (PyData.shownAll (pds ds)).length ≤ costs ds
  | [], _ => ⟨rfl, Nat.le_refl _⟩
  | x :: xs, h => by
    simp only [costs] at h ⊢
    obtain ⟨h1, h2⟩ := cost_ok x (by omega)
    obtain ⟨h3, h4⟩ := costs_ok xs (by omega)
    refine ⟨Bool.and_eq_true_iff.mpr ⟨h1, h3⟩, ?_⟩
    simp only [pds, PyData.shownAll, List.map_cons, List.sum_cons, List.length_cons]
    omega
end
mutual
theorem pd_nodict : ∀ (d : D), (pd d).hasDict = false
  | .non => rfl
  | .bl _ => rfl
  | .int _ => rfl
  | .str _ => rfl
  | .lst xs => pds_nodict xs
  | .tup xs => pds_nodict xs
  | .dct _ _ => rfl
  | .set _ => rfl
  | .obj _ _ _ => rfl
  | .ref _ => rfl
theorem pds_nodict : ∀ (ds : List D), PyData.hasDictAll (pds ds) = false
  | [] => rfl
  | x :: xs => by
    simp only [pds, PyData.hasDictAll]
    rw [pd_nodict x, pds_nodict xs]; rfl
end
section
variable {X : Cx}
def shownD (d : D) : Str := (pd d).shown
def gRepr : List D → Option D
  | [d] => if (pl 50 d && decide (cost d ≤ 16000000)) = true then some (.str (shownD d)) else none
  | _ => none
def rReprD (K : PySem.W.Frag) : List V → Hp → VK → Prop := fun xs H Q => ∃ v d, xs = [v] ∧ pl 50 d = true ∧ cost d ≤ 16000000 ∧ Dp K H v (pd d) ∧ (match d with
  | .non => v = .non
  | .bl b => v = .bl b
  | .int i => v = .int i
  | .str x => v = .str x
  | _ => ∃ a, v = .ref a) ∧ Q (.str (shownD d)) H
theorem call_reprD (gd : X.A.guards = some []) (hu : X.A.units + 64 < cLine) : CallR X (.builtin "repr") (rReprD X.K) := by
  rintro pins s σ H xs us Q I r ⟨v, d, rfl, hp, hc, dp, hv, q⟩
  obtain ⟨u, rfl, ru⟩ := vals1 r
  obtain ⟨c1, c2⟩ := cost_ok d hc
  have len : (pd d).shown.length ≤ sizeLine := Nat.le_trans c2 (Nat.le_trans hc (by rw [sizeLine_eq]; decide))
  have dep : (pd d).depth ≤ 50 := (pl_lay 50 d hp).2
  have fin : ∀ (h' : Heap) (t : Tok) (tk : Nat), (∀ b o, s.heap.get? b = some o → h'.get? b = some o) → EP X pins σ Q (.str (pd d).shown t) { s with heap := h', toks := tk } := fun h' t tk k => ⟨.str (shownD d), H, I.kept k, ⟨t, rfl⟩, q⟩
  have big : (∃ a, v = .ref a) → wpAny (model X.prog X.w) X.A (call (.builtin "repr") [u]) (EP X pins σ Q) X.xe s := by
    rintro ⟨a, rfl⟩
    obtain ⟨as, rd⟩ := Dp.reads I _ _ u dp ru
    cases ru
    exact repr_of_reads' rd c1 (fun z => by rw [pd_nodict d] at z; cases z) gd (by omega) (fun _ _ z => z) (fun h' t tk k => fin h' t tk k) len
  cases d with
  | non =>
    subst hv; cases ru
    exact P.repr_of_none (fin s.heap _ _ fun _ _ z => z)
  | bl b =>
    subst hv; cases ru
    exact P.repr_of_bool (fin s.heap _ _ fun _ _ z => z)
  | int i =>
    subst hv
    obtain ⟨t, rfl⟩ := ru
    exact P.repr_of_int (of_decide_eq_true c1) (fin s.heap _ _ fun _ _ z => z)
  | str x =>
    subst hv
    obtain ⟨t, rfl⟩ := ru
    exact P.repr_of_str (fin s.heap _ _ fun _ _ z => z) len
  | _ => exact big hv
theorem cd_repr (gd : X.A.guards = some []) (hu : X.A.units + 64 < cLine) : CallD X (.builtin "repr") gRepr := ⟨_, call_reprD gd hu, fun Z H xs ds d Q z r e q => by
  unfold gRepr at e
  split at e
  · rename_i x
    split at e
    · rename_i h
      cases e
      obtain ⟨h1, h2⟩ := Bool.and_eq_true_iff.mp h
      obtain ⟨v, rfl, r1⟩ := r.one
      refine ⟨v, x, rfl, h1, of_decide_eq_true h2, pl_dp 50 x v h1 r1.full, ?_, ret_str q⟩
      have f := r1.full
      cases f <;> first | rfl | exact ⟨_, rfl⟩
    · cases e
  · cases e⟩
end
end Dv
namespace Dv
open PySem PySem.Spec PyProof.Rows L2
def lAt (ρ : Rho) (i : Nat) : Option (List D) := match ρ[i]? with
  | some (some (.ow xs)) => some xs
  | some (some (.bo xs)) => some xs
  | _ => none
def lPut (ρ : Rho) (i : Nat) (ys : List D) : Rho := match ρ[i]? with
  | some (some (.ow _)) => ρ.set i (some (.ow ys))
  | some (some (.bo _)) => ρ.set i (some (.bo ys))
  | _ => ρ
theorem lAt_own {G : Gp} {F : Fm} {A : Own} {σ : St} {ρ : Rho} {H : Hp} {i : Nat} {xs : List D} (S : Sts G F A σ ρ H) (h : lAt ρ i = some xs) : ∃ a vs, (i, a) ∈ A ∧ σ[i]? = some (some (.ref a)) ∧ H a = some (.lst vs) ∧ RDs G (hid (zs F A) H) vs xs := by
  unfold lAt at h
  split at h
  · rename_i ys q
    cases h
    obtain ⟨a, h1, _, _, h2, vs, h3, h4⟩ := S.ow i _ q
    exact ⟨a, vs, h1, h2, h3, h4⟩
  · rename_i ys q
    cases h
    obtain ⟨a, h1, _, h2, vs, h3, h4⟩ := S.bo i _ q
    exact ⟨a, vs, h1, h2, h3, h4⟩
  · cases h
theorem Sts.chg {G : Gp} {F : Fm} {A : Own} {σ : St} {ρ : Rho} {H : Hp} {i : Nat} {a : Addr} {xs ys : List D} {vs : List V} (S : Sts G F A σ ρ H) (h : lAt ρ i = some xs) (ha : (i, a) ∈ A) (r : RDs G (hid (zs F A) H) vs ys) :
    Sts G F A σ (lPut ρ i ys) (upd H a (.lst vs)) ∧ Stp A H (upd H a (.lst vs)) := by
  have hz : a ∈ zs F A := mem_zs.mpr (.inr ⟨i, ha⟩)
  have eh : hid (zs F A) (upd H a (.lst vs)) = hid (zs F A) H := hid_upd hz
  have st : Stp A H (upd H a (.lst vs)) := fun b o e n => by
    rw [upd_ne (fun z : b = a => n i (by rw [z]; exact ha))]; exact e
  obtain ⟨a', vs0, ha', hσ, h0, _⟩ := lAt_own S h
  obtain rfl := (S.uni i i a a' ha ha').mp rfl
  have other : ∀ {j b zs'}, (j, b) ∈ A → j ≠ i → OwAt G F A σ H j b zs' → OwAt G F A σ (upd H a (.lst vs)) j b zs' := fun {j b zs'} hb hj ⟨h1, ws, h2, h3⟩ => by
    have nb : b ≠ a := fun z => hj ((S.uni j i b a hb ha).mpr z)
    exact ⟨h1, ws, by rw [upd_ne nb]; exact h2, by rw [eh]; exact h3⟩
  have here : OwAt G F A σ (upd H a (.lst vs)) i a ys := ⟨hσ, vs, upd_same, by rw [eh]; exact r⟩
  have keep : ∀ b o, F.H0 b = some o → (∀ j, (j, b) ∉ F.B) → upd H a (.lst vs) b = some o := fun b o e n => by
    by_cases z : b = a
    · subst z
      unfold lAt at h
      split at h
      · rename_i q
        obtain ⟨c, h1, _, h3, _⟩ := S.ow i _ q
        obtain rfl := (S.uni i i b c ha h1).mp rfl
        rw [h3] at e; cases e
      · rename_i q
        obtain ⟨c, h1, h2, _⟩ := S.bo i _ q
        obtain rfl := (S.uni i i b c ha h1).mp rfl
        exact absurd h2 (n i)
      · cases h
    · rw [upd_ne z]; exact S.keep b o e n
  have zok : ZOk F.Z (upd H a (.lst vs)) := fun b hb q => by
    by_cases z : b = a
    · subst z; rw [upd_same] at q; cases q
    · rw [upd_ne z] at q; exact S.zok b hb q
  refine ⟨?_, st⟩
  unfold lAt at h
  split at h
  · rename_i zs0 q
    have e : lPut ρ i ys = ρ.set i (some (.ow ys)) := by unfold lPut; rw [q]
    rw [e]
    have hi : i < ρ.length := (List.getElem?_eq_some_iff.mp q).1
    refine ⟨by rw [List.length_set]; exact S.len, fun j d hj => ?_, fun j xs' hj => ?_, fun j xs' hj => ?_, fun j b hb => ?_, S.uni, fun j b hb => ?_, keep, zok⟩
    · by_cases z : j = i
      · subst z; rw [List.getElem?_set_self hi] at hj; cases hj
      · rw [List.getElem?_set_ne (Ne.symm z)] at hj
        obtain ⟨v, h1, h2⟩ := S.im j d hj
        exact ⟨v, h1, by rw [eh]; exact h2⟩
    · by_cases z : j = i
      · subst z
        rw [List.getElem?_set_self hi] at hj
        cases hj
        obtain ⟨c, h1, h2, h3, _⟩ := S.ow j _ q
        obtain rfl := (S.uni j j a c ha h1).mp rfl
        exact ⟨a, ha, h2, h3, here⟩
      · rw [List.getElem?_set_ne (Ne.symm z)] at hj
        obtain ⟨c, h1, h2, h3, h4⟩ := S.ow j _ hj
        exact ⟨c, h1, h2, h3, other h1 z h4⟩
    · by_cases z : j = i
      · subst z; rw [List.getElem?_set_self hi] at hj; cases hj
      · rw [List.getElem?_set_ne (Ne.symm z)] at hj
        obtain ⟨c, h1, h2, h4⟩ := S.bo j _ hj
        exact ⟨c, h1, h2, other h1 z h4⟩
    · by_cases z : j = i
      · subst z; exact ⟨ys, .inl (List.getElem?_set_self hi)⟩
      · rw [List.getElem?_set_ne (Ne.symm z)]; exact S.own j b hb
    · obtain ⟨h1, xs', h2⟩ := S.bor j b hb
      have z : j ≠ i := fun z => by subst z; rw [q] at h2; cases h2
      exact ⟨h1, xs', by rw [List.getElem?_set_ne (Ne.symm z)]; exact h2⟩
  · rename_i zs0 q
    have e : lPut ρ i ys = ρ.set i (some (.bo ys)) := by unfold lPut; rw [q]
    rw [e]
    have hi : i < ρ.length := (List.getElem?_eq_some_iff.mp q).1
    refine ⟨by rw [List.length_set]; exact S.len, fun j d hj => ?_, fun j xs' hj => ?_, fun j xs' hj => ?_, fun j b hb => ?_, S.uni, fun j b hb => ?_, keep, zok⟩
    · by_cases z : j = i
      · subst z; rw [List.getElem?_set_self hi] at hj; cases hj
      · rw [List.getElem?_set_ne (Ne.symm z)] at hj
        obtain ⟨v, h1, h2⟩ := S.im j d hj
        exact ⟨v, h1, by rw [eh]; exact h2⟩
    · by_cases z : j = i
      · subst z; rw [List.getElem?_set_self hi] at hj; cases hj
      · rw [List.getElem?_set_ne (Ne.symm z)] at hj
        obtain ⟨c, h1, h2, h3, h4⟩ := S.ow j _ hj
        exact ⟨c, h1, h2, h3, other h1 z h4⟩
    · by_cases z : j = i
      · subst z
        rw [List.getElem?_set_self hi] at hj
        cases hj
        obtain ⟨c, h1, h2, _⟩ := S.bo j _ q
        obtain rfl := (S.uni j j a c ha h1).mp rfl
        exact ⟨a, ha, h2, here⟩
      · rw [List.getElem?_set_ne (Ne.symm z)] at hj
        obtain ⟨c, h1, h2, h4⟩ := S.bo j _ hj
        exact ⟨c, h1, h2, other h1 z h4⟩
    · by_cases z : j = i
      · subst z; exact ⟨ys, .inr (List.getElem?_set_self hi)⟩
      · rw [List.getElem?_set_ne (Ne.symm z)]; exact S.own j b hb
    · obtain ⟨h1, xs', h2⟩ := S.bor j b hb
      by_cases z : j = i
      · subst z; exact ⟨h1, ys, List.getElem?_set_self hi⟩
      · exact ⟨h1, xs', by rw [List.getElem?_set_ne (Ne.symm z)]; exact h2⟩
  · cases h
abbrev Ch := List D → List D → Option (D × List D)
def MtD (X : Cx) (id : String) (ch : Ch) : Prop := ∃ r, MtR X id r ∧ ∀ (Z : List Addr) (H : Hp) (a : Addr) (vs ws : List V) (xs ds ys : List D) (d : D) (Q : VK), a ∈ Z → H a = some (.lst vs) → RDs (Gx X) (hid Z H) vs xs → RDs (Gx X) (hid Z H) ws ds → ch xs ds = some (d, ys) →
  (∀ v vs', RD (Gx X) (hid Z H) v d → RDs (Gx X) (hid Z H) vs' ys → Q v (upd H a (.lst vs'))) → r (.ref a) ws H Q
def eMt (i : Nat) (ch : Ch) (fs : M (List RV)) : ES := fun ρ0 => match lAt ρ0 i with
  | none => .no
  | some _ => (M.bind fs fun rs => fun ρ => match imms rs, lAt ρ i with
    | some ds, some xs => match ch xs ds with
      | some (d, ys) => .ok (.im d) (lPut ρ i ys)
      | none => .no
    | _, _ => .no) ρ0
section
variable {X : Cx} {e : Expr} {es : List Expr} {fs : M (List RV)} {name : Str} {apos cpos : Pos} {id : String} {ch : Ch} {i : Nat} {o : Expr} {pos : Pos} {fa fb : ES} {a b : Expr}
theorem de_mt (pa : PlainAttrs "list") (slot : Slot "list" name id) (hty : typeOf (.builtin id) = pure (.type "method_descriptor")) (hm : MtD X id ch) (ho : PE X o (tVar i)) (ha : DA X (e :: es) fs)
    (hbase : attributeBase o name X.env (eval o X.env) = eval o X.env := by rfl)
    (hfew : ((backTo cpos (starEach (e :: es) X.env)).all (fun x => !x.1) && (backToKw cpos (keywordEach [] X.env)).all (fun x => x.1.isSome)
      && decide ((e :: es).length + ([] : List Keyword).length + (if ([] : List Keyword).isEmpty then 0 else 1) < 30)) = true := by rfl)
    (hline : (apos.endLine == cpos.line) = true := by rfl) (hs : starEach (e :: es) X.env = (false, eval e X.env) :: starEach es X.env := by rfl) (hplain : (backTo cpos (starEach es X.env)).any (·.1) = false := by rfl) :
    DE X (.Call (.Attribute o name apos) (e :: es) [] cpos) (eMt i ch fs) := ⟨fun F => by
  obtain ⟨r, h1, h2⟩ := hm
  refine pe_imp (pe_bm pa slot hty h1 ho (ha.run F) hbase hfew hline hs hplain) fun σ H Q ⟨A, ρ, rr, ρ', S, e, q⟩ => ?_
  unfold eMt at e
  split at e
  · cases e
  · rename_i xs0 hl0
    obtain ⟨p, vs0, hp, hσ, hH, _⟩ := lAt_own S hl0
    refine ⟨.ref p, hσ, ⟨.inl ⟨rfl, vs0, SqL.of hH⟩, ?_⟩⟩
    obtain ⟨rs, ρ1, e1, e⟩ := bind_ok e
    refine ⟨A, ρ, rs, ρ1, S, e1, fun ws H1 S1 m1 r1 => ?_⟩
    split at e
    · rename_i ds xs e2 e3
      split at e
      · rename_i d ys e4
        cases e
        obtain ⟨p', vs, hp', hσ', hH', hr⟩ := lAt_own S1 e3
        obtain rfl := (S1.uni i i p p' hp hp').mp rfl
        refine h2 (zs F A) H1 p vs ws xs ds ys d Q (mem_zs.mpr (.inr ⟨i, hp⟩)) hH' hr (imms_rd r1 e2) e4 fun v vs' rv rvs => ?_
        obtain ⟨S2, m2⟩ := S1.chg e3 hp rvs
        refine q v _ S2 (m1.trans m2) ?_
        show RD _ _ _ _
        rw [hid_upd (mem_zs.mpr (.inr ⟨i, hp⟩))]
        exact rv
      · cases e
    · cases e⟩
theorem de_mt0 (pa : PlainAttrs "list") (slot : Slot "list" name id) (hty : typeOf (.builtin id) = pure (.type "method_descriptor")) (hm : MtD X id ch) (ho : PE X o (tVar i))
    (hbase : attributeBase o name X.env (eval o X.env) = eval o X.env := by rfl) (hline : (apos.endLine == cpos.line) = true := by rfl) :
    DE X (.Call (.Attribute o name apos) [] [] cpos) (eMt i ch aNil) := ⟨fun F => by
  obtain ⟨r, h1, h2⟩ := hm
  refine pe_imp (pe_bm0 pa slot hty h1 ho hbase hline) fun σ H Q ⟨A, ρ, rr, ρ', S, e, q⟩ => ?_
  unfold eMt at e
  split at e
  · cases e
  · rename_i xs0 hl0
    obtain ⟨p, vs0, hp, hσ, hH, _⟩ := lAt_own S hl0
    refine ⟨.ref p, hσ, ⟨.inl ⟨rfl, vs0, SqL.of hH⟩, ?_⟩⟩
    obtain ⟨rs, ρ1, e1, e⟩ := bind_ok e
    obtain ⟨rfl, rfl⟩ := ret_ok e1
    dsimp only [imms] at e
    split at e
    · rename_i ds xs e2 e3
      cases e2
      split at e
      · rename_i d ys e4
        cases e
        obtain ⟨p', vs, hp', hσ', hH', hr⟩ := lAt_own S e3
        obtain rfl := (S.uni i i p p' hp hp').mp rfl
        refine h2 (zs F A) H p vs [] xs [] ys d Q (mem_zs.mpr (.inr ⟨i, hp⟩)) hH' hr .nil e4 fun v vs' rv rvs => ?_
        obtain ⟨S2, m2⟩ := S.chg e3 hp rvs
        refine q v _ S2 m2 ?_
        show RD _ _ _ _
        rw [hid_upd (mem_zs.mpr (.inr ⟨i, hp⟩))]
        exact rv
      · cases e
    · cases e⟩
def cAppend : Ch
  | xs, [d] => if xs.length < 1000000 then some (.non, xs ++ [d]) else none
  | _, _ => none
theorem md_append : MtD X "list.append" cAppend := ⟨_, mt_append, fun Z H a vs ws xs ds ys d Q hz ha r rs e q => by
  unfold cAppend at e
  split at e
  · rename_i d0
    by_cases z : xs.length < 1000000
    · rw [if_pos z] at e
      cases e
      cases rs with
      | cons r1 r2 =>
        cases r2
        exact ⟨a, vs, _, rfl, rfl, ha, by rw [r.len]; exact len_lt z, q _ _ .non (r.app (.cons r1 .nil))⟩
    · rw [if_neg z] at e; cases e
  · cases e⟩
def cPop : Ch
  | xs, [] => match xs[xs.length - 1]? with
    | some d => some (d, xs.dropLast)
    | none => none
  | _, _ => none
theorem RDs.dl {G : Gp} {H : Hp} {vs : List V} {ds : List D} (r : RDs G H vs ds) : RDs G H vs.dropLast ds.dropLast := by
  rw [List.dropLast_eq_take, List.dropLast_eq_take, r.len]; exact r.take _
theorem md_pop : MtD X "list.pop" cPop := ⟨_, mt_pop, fun Z H a vs ws xs ds ys d Q hz ha r rs e q => by
  unfold cPop at e
  split at e
  · split at e
    · rename_i d0 e0
      cases e
      cases rs
      rw [← r.len] at e0
      obtain ⟨v, h1, h2⟩ := r.get e0
      exact ⟨a, vs, v, rfl, rfl, ha, h1, q v _ h2 r.dl⟩
    · cases e
  · cases e⟩
def ixD (n : Nat) (k : Int) : Option Nat := ixN n k
def sSetIx (i : Nat) (fa fx : ES) : SS := M.bind fa fun r => M.bind (imm r) fun d => M.bind (eVar i) fun _ => M.bind fx fun rx => M.bind (val rx) fun dx => M.bind (M.opt (isInt dx)) fun k => fun ρ => match lAt ρ i with
  | some xs => match ixN xs.length k with
    | some j => .ok .nx (lPut ρ i (xs.set j d))
    | none => .no
  | none => .no
theorem isInt_ok {d : D} {k : Int} (h : isInt d = some k) : d = .int k := by
  cases d <;> cases h; rfl
theorem eVar_al {i : Nat} {ρ ρ' : Rho} {r : RV} (h : eVar i ρ = .ok r ρ') : ρ = ρ' ∧ ((∃ d, ρ[i]? = some (some (.im d)) ∧ r = .im d) ∨ ∃ xs, lAt ρ i = some xs ∧ r = .al i) := by
  unfold eVar at h
  split at h
  · rename_i d q; cases h; exact ⟨rfl, .inl ⟨d, q, rfl⟩⟩
  · rename_i xs q; cases h; exact ⟨rfl, .inr ⟨xs, by unfold lAt; rw [q], rfl⟩⟩
  · rename_i xs q; cases h; exact ⟨rfl, .inr ⟨xs, by unfold lAt; rw [q], rfl⟩⟩
  · cases h
theorem ds_setIx {ix : Expr} {fx : ES} {tpos : Pos} (he : DE X e fa) (ho : PE X o (tVar i)) (hx : DE X ix fx)
    (ha : ∀ v, assign (.Subscript o ix tpos) X.env v = (do
      let ov ← holding [v] (eval o X.env)
      let iv ← holding [v, ov] (eval ix X.env)
      standAt tpos
      holding [v, ov, iv] (setItem ov iv v)
      release [v, ov, iv] []) := by intro _; rfl)
    (hs : swapsWithSole [.Subscript o ix tpos] e pos.line X.env = pure false := by rfl) (hw : swappedStores [.Subscript o ix tpos] e X.env = pure none := by rfl)
    (h1 : (assignEach [.Subscript o ix tpos] X.env).map (·.2) = [assign (.Subscript o ix tpos) X.env] := by rfl) :
    DS X (.Assign [.Subscript o ix tpos] e pos) (sSetIx i fa fx) := ⟨fun F => ps_imp (ps_asg (he.run F) (pg_sub ho (hx.run F) set_list ha) hs hw h1) fun D σ H ⟨A, ρ, S, out⟩ => by
  obtain ⟨r, ρ1, e1, out⟩ := out_bind out
  obtain ⟨d, ρ2, e2, out⟩ := out_bind out
  obtain ⟨rfl, rfl⟩ := imm_ok e2
  refine ⟨A, ρ, _, _, S, e1, fun v H1 S1 m1 r1 => ?_⟩
  obtain ⟨r0, ρ3, e3, out⟩ := out_bind out
  obtain ⟨rfl, k3⟩ := eVar_al e3
  have goL : ∃ v0, σ[i]? = some (some v0) ∧ (∀ xs, lAt ρ1 i = some xs → ∃ p, v0 = .ref p ∧ (i, p) ∈ A) := by
    rcases k3 with ⟨d0, q, _⟩ | ⟨xs, q, _⟩
    · obtain ⟨v0, h1, h2⟩ := S1.im i d0 q
      exact ⟨v0, h1, fun xs hx => by unfold lAt at hx; rw [q] at hx; cases hx⟩
    · obtain ⟨p, vs, h1, h2, h3, h4⟩ := lAt_own S1 q
      exact ⟨_, h2, fun _ _ => ⟨p, rfl, h1⟩⟩
  obtain ⟨v0, hv0, _⟩ := goL
  refine ⟨v0, hv0, ?_⟩
  obtain ⟨rx, ρ4, e4, out⟩ := out_bind out
  refine ⟨A, ρ1, rx, ρ4, S1, e4, fun vx H2 S2 m2 r2 => ?_⟩
  obtain ⟨dx, ρ5, e5, out⟩ := out_bind out
  obtain ⟨l5, rfl⟩ := val_ok e5
  obtain ⟨k, l6, o7⟩ := out_opt out
  obtain rfl := isInt_ok l6
  cases q : lAt ρ4 i with
  | none => rw [q] at o7; exact o7.elim
  | some xs =>
    rw [q] at o7
    dsimp only at o7
    cases q2 : ixN xs.length k with
    | none => rw [q2] at o7; exact o7.elim
    | some j =>
      rw [q2] at o7
      obtain ⟨p, vs, hp, hσ, hH, hr⟩ := lAt_own S2 q
      have ev : v0 = .ref p := by
        rw [hv0] at hσ
        exact Option.some.inj (Option.some.inj hσ)
      subst ev
      have rx' := (look_rt S2 r2 l5).int
      subst rx'
      refine ⟨p, vs, k, j, rfl, rfl, hH, by rw [hr.len]; exact q2, ?_⟩
      obtain ⟨S3, m3⟩ := S2.chg (ys := xs.set j d) q hp (hr.upd (RD.mono m2.hid r1) j)
      exact o7 _ _ _ S3 ((Sto.of ((m1.trans m2).trans m3)))⟩
theorem walk_zip {G : Gp} {Hv : Hp} {a b : Addr} {vs ws : List V} {ds es : List D} (h : SqL G.K Hv a vs) (h' : SqL G.K Hv b ws) (r : RDs G Hv vs ds) (r' : RDs G Hv ws es) : Walk G Hv (Itz G.K a b) ((ds.zip es).map fun p => .tw [p.1, p.2]) := fun i H Z z sm => by
  have hs : SqL G.K H a vs := hid_full.seq (sm.seq h)
  have hs' : SqL G.K H b ws := hid_full.seq (sm.seq h')
  refine ⟨fun d hd => ?_, fun hl => ⟨vs, ws, hs, hs', ?_⟩⟩
  · rw [List.getElem?_map] at hd
    obtain ⟨⟨x, y⟩, e1, e2⟩ := Option.map_eq_some_iff.mp hd
    subst e2
    obtain ⟨e3, e4⟩ := List.getElem?_zip_eq_some.mp e1
    obtain ⟨v, h1, h2⟩ := r.get e3
    obtain ⟨w, h3, h4⟩ := r'.get e4
    refine ⟨⟨vs, ws, v, w, hs, hs', h1, h3⟩, fun x' H' ⟨T, v', w', e5, e6, e7, y1, y2⟩ => ?_⟩
    subst e5 e7
    obtain rfl : v' = v := Option.some.inj ((y1 vs hs).symm.trans h1)
    obtain rfl : w' = w := Option.some.inj ((y2 ws hs').symm.trans h3)
    have sm2 := Same.of_new (o := .tup [v', w']) e6
    exact ⟨sm2, T, [v', w'], rfl, .inl (.inl upd_same), .cons ((h2.mono sm).mono (Same.hid sm2)) (.cons ((h4.mono sm).mono (Same.hid sm2)) .nil)⟩
  · rw [List.length_map, List.length_zip] at hl
    rw [r.len, r'.len]; omega
theorem walk_zipT {G : Gp} {Hv : Hp} {a b : Addr} {vs ws : List V} {ds es : List D} (h : SqT G.K Hv a vs) (h' : SqT G.K Hv b ws) (r : RDs G Hv vs ds) (r' : RDs G Hv ws es) : Walk G Hv (RZ.ItzT G.K a b) ((ds.zip es).map fun p => .tw [p.1, p.2]) := fun i H Z z sm => by
  have hs : SqT G.K H a vs := Same.tupq hid_full (Same.tupq sm h)
  have hs' : SqT G.K H b ws := Same.tupq hid_full (Same.tupq sm h')
  refine ⟨fun d hd => ?_, fun hl => ⟨vs, ws, hs, hs', ?_⟩⟩
  · rw [List.getElem?_map] at hd
    obtain ⟨⟨x, y⟩, e1, e2⟩ := Option.map_eq_some_iff.mp hd
    subst e2
    obtain ⟨e3, e4⟩ := List.getElem?_zip_eq_some.mp e1
    obtain ⟨v, h1, h2⟩ := r.get e3
    obtain ⟨w, h3, h4⟩ := r'.get e4
    refine ⟨⟨vs, ws, v, w, hs, hs', h1, h3⟩, fun x' H' ⟨T, v', w', e5, e6, e7, y1, y2⟩ => ?_⟩
    subst e5 e7
    obtain rfl : v' = v := Option.some.inj ((y1 vs hs).symm.trans h1)
    obtain rfl : w' = w := Option.some.inj ((y2 ws hs').symm.trans h3)
    have sm2 := Same.of_new (o := .tup [v', w']) e6
    exact ⟨sm2, T, [v', w'], rfl, .inl (.inl upd_same), .cons ((h2.mono sm).mono (Same.hid sm2)) (.cons ((h4.mono sm).mono (Same.hid sm2)) .nil)⟩
  · rw [List.length_map, List.length_zip] at hl
    rw [r.len, r'.len]; omega
def gZip : List D → Option (List IV)
  | [.lst xs, .lst ys] => some ((xs.zip ys).map fun p => .tw [p.1, p.2])
  | [.tup xs, .tup ys] => some ((xs.zip ys).map fun p => .tw [p.1, p.2])
  | _ => none
def iCallI (g : List D → Option (List IV)) (fs : M (List RV)) : M (List IV) := M.bind fs fun rs => M.bind (M.opt (imms rs)) fun ds => M.opt (g ds)
theorem RDs.one {G : Gp} {H : Hp} {vs : List V} {d : D} (h : RDs G H vs [d]) : ∃ v, vs = [v] ∧ RD G H v d := by
  cases h with
  | cons a b => cases b; exact ⟨_, rfl, a⟩
theorem RDs.two {G : Gp} {H : Hp} {vs : List V} {d e : D} (h : RDs G H vs [d, e]) : ∃ v u, vs = [v, u] ∧ RD G H v d ∧ RD G H u e := by
  cases h with
  | cons a b =>
    obtain ⟨u, rfl, c⟩ := b.one
    exact ⟨_, u, rfl, a, c⟩
theorem di_zip {elts : List Expr} {kk : Nat} {tpos p : Pos} (hg : Gl X "zip") (hm : X.mg "zip" = none) (ha : DA X [a, b] fs)
    (hs : starEach [a, b] X.env = (false, eval a X.env) :: starEach [b] X.env := by rfl) (hpl : (backTo pos (starEach [b] X.env)).any (·.1) = false := by rfl) :
    DI X (.Tuple elts kk tpos) (.Call (.Name "zip" p) [a, b] [] pos) (iCallI gZip fs) := ⟨fun F => pi_imp (RZ.pi_zipA hg hm (ha.run F) hs hpl) fun σ H R ⟨A, ρ, ds, ρ', S, e, q⟩ => by
  obtain ⟨rs, ρ1, e1, e⟩ := bind_ok e
  obtain ⟨xs, ρ2, e2, e⟩ := bind_ok e
  obtain ⟨l2, rfl⟩ := opt_ok e2
  obtain ⟨l3, rfl⟩ := opt_ok e
  refine ⟨A, ρ, rs, _, S, e1, fun vs H1 S1 m1 r1 => ?_⟩
  have rd := imms_rd r1 l2
  unfold gZip at l3
  split at l3
  · cases l3
    obtain ⟨v, u, rfl, c1, c2⟩ := rd.two
    cases c1 with
    | lst g1 g2 =>
      cases c2 with
      | lst g3 g4 => exact ⟨_, _, _, _, rfl, .inl ⟨hid_full.seq g1, hid_full.seq g3, q _ _ S1 m1 (walk_zip g1 g3 g2 g4)⟩⟩
  · cases l3
    obtain ⟨v, u, rfl, c1, c2⟩ := rd.two
    cases c1 with
    | tup g1 g2 =>
      cases c2 with
      | tup g3 g4 => exact ⟨_, _, _, _, rfl, .inr ⟨Same.tupq hid_full g1.sq, Same.tupq hid_full g3.sq, q _ _ S1 m1 (walk_zipT g1.sq g3.sq g2 g4)⟩⟩
  · cases l3⟩
theorem walk_enum {G : Gp} {Hv : Hp} {a : Addr} {vs : List V} {ds : List D} (h : SqL G.K Hv a vs) (r : RDs G Hv vs ds) : Walk G Hv (Ite G.K a) (ds.zipIdx.map fun p => .tw [.int (p.2 : Nat), p.1]) := fun i H Z z sm => by
  have hs : SqL G.K H a vs := hid_full.seq (sm.seq h)
  refine ⟨fun d hd => ?_, fun hl => ⟨vs, hs, by rw [List.length_map, List.length_zipIdx] at hl; rw [r.len]; exact hl⟩⟩
  rw [List.getElem?_map] at hd
  obtain ⟨⟨x, y⟩, e1, e2⟩ := Option.map_eq_some_iff.mp hd
  subst e2
  rw [List.getElem?_zipIdx] at e1
  obtain ⟨x', e3, e4⟩ := Option.map_eq_some_iff.mp e1
  rw [Nat.zero_add] at e4
  cases e4
  obtain ⟨v, h1, h2⟩ := r.get e3
  refine ⟨⟨vs, v, hs, h1⟩, fun x' H' ⟨T, v', e5, e6, e7, y1⟩ => ?_⟩
  subst e5 e7
  obtain rfl : v' = v := Option.some.inj ((y1 vs hs).symm.trans h1)
  have sm2 := Same.of_new (o := .tup [.int (i : Nat), v']) e6
  exact ⟨sm2, T, _, rfl, .inl (.inl upd_same), .cons (.int _) (.cons ((h2.mono sm).mono (Same.hid sm2)) .nil)⟩
def gEnum : List D → Option (List IV)
  | [.lst xs] => some (xs.zipIdx.map fun p => .tw [.int (p.2 : Nat), p.1])
  | _ => none
theorem di_enum {elts : List Expr} {kk : Nat} {tpos p : Pos} (hg : Gl X "enumerate") (hm : X.mg "enumerate" = none) (ha : DA X [a] fs) (hs : starEach [a] X.env = [(false, eval a X.env)] := by rfl) :
    DI X (.Tuple elts kk tpos) (.Call (.Name "enumerate" p) [a] [] pos) (iCallI gEnum fs) := ⟨fun F => pi_imp (pi_enum hg hm (ha.run F) hs) fun σ H R ⟨A, ρ, ds, ρ', S, e, q⟩ => by
  obtain ⟨rs, ρ1, e1, e⟩ := bind_ok e
  obtain ⟨xs, ρ2, e2, e⟩ := bind_ok e
  obtain ⟨l2, rfl⟩ := opt_ok e2
  obtain ⟨l3, rfl⟩ := opt_ok e
  refine ⟨A, ρ, rs, _, S, e1, fun vs H1 S1 m1 r1 => ?_⟩
  have rd := imms_rd r1 l2
  unfold gEnum at l3
  split at l3
  · cases l3
    obtain ⟨v, rfl, c1⟩ := rd.one
    cases c1 with
    | lst g1 g2 => exact ⟨_, _, rfl, hid_full.seq g1, q _ _ S1 m1 (walk_enum g1 g2)⟩
  · cases l3⟩
def eDict0 : ES := M.ret (.im (.dct [] []))
theorem de_dict0 : DE X (.Dict [] [] pos) eDict0 := ⟨fun F => pe_imp pe_dnewK fun σ H Q ⟨A, ρ, rr, ρ', S, e, q⟩ => by
  obtain ⟨rfl, rfl⟩ := ret_ok e
  intro p hp
  have sm := Same.of_new (o := .dK []) hp
  exact q _ _ (S.same sm) (Stp.of sm) (.dct (kvs := []) (hid_new S.zall hp) .nil)⟩
theorem vals_ok1 {r : RV} {ρ : Rho} {d : D} (h : look ρ r = some d) : looks ρ [r] = some [d] := by
  simp [looks, h]
end
end Dv
namespace Dv
open PySem PySem.Spec PyProof.Rows L2
section
variable {prog : Program} {w : World} {A : Around} {E : Value → Shared → Prop} {s : Shared}
theorem places_rev (n : Nat) : Builtin.Slice.slicePlaces ((n : Int) - 1) (-1) (-1) = n := by
  unfold Builtin.Slice.slicePlaces
  have h1 : ¬ ((-1 : Int) > 0) := by omega
  simp only [h1, if_false, Int.neg_neg, Int.ediv_one]
  split <;> omega
theorem fm_map {α β : Type} {f : α → Option β} {g : α → β} : ∀ (l : List α), (∀ m ∈ l, f m = some (g m)) → l.filterMap f = l.map g
  | [], _ => rfl
  | a :: l, h => by rw [List.filterMap_cons, h a List.mem_cons_self, List.map_cons, fm_map l fun m hm => h m (List.mem_cons_of_mem _ hm)]
theorem pick_rev (xs : Array Value) : ((List.range xs.size).filterMap fun (m : Nat) => xs[(((xs.size : Int) - 1) + (m : Int) * (-1)).toNat]?).toArray = xs.toList.reverse.toArray := by
  congr 1
  apply List.ext_getElem?
  intro i
  have key : (List.range xs.size).filterMap (fun (m : Nat) => xs[(((xs.size : Int) - 1) + (m : Int) * (-1)).toNat]?) = (List.range xs.size).map (fun m => xs.toList[xs.size - 1 - m]?.getD default) := by
    apply fm_map
    intro m hm
    rw [List.mem_range] at hm
    have e : (((xs.size : Int) - 1) + (m : Int) * (-1)).toNat = xs.size - 1 - m := by omega
    rw [e, ← Array.getElem?_toList, List.getElem?_eq_getElem (by rw [Array.length_toList]; omega)]
    rfl
  rw [key, List.getElem?_map]
  by_cases hi : i < xs.size
  · rw [List.getElem?_range hi, List.getElem?_reverse (by rw [Array.length_toList]; exact hi), Array.length_toList, Option.map_some, List.getElem?_eq_getElem (by rw [Array.length_toList]; omega)]
    rfl
  · rw [List.getElem?_eq_none (by rw [List.length_range]; omega), List.getElem?_eq_none (by rw [List.length_reverse, Array.length_toList]; omega)]
    rfl
theorem getItem_tuple_rev {t sl : Addr} {items : Array Value} {vs : Value} {Q : Value → Shared → Prop} (ht : IsTup s.heap t items) (hs : s.heap.IsSliceOf sl .none .none vs) (pv : IsPart vs (some (-1)))
    (h : Q (.ref s.heap.objs.size) { s with heap := s.heap.push { cls := .type "tuple", data := .seq items.toList.reverse.toArray } })
    (hsz : items.size ≤ sizeLine) : wpAny (model prog w) A (getItem (.ref t) (.ref sl)) Q E s := by
  have htake : sizeOk (.seq items.toList.reverse.toArray) := by
    show items.toList.reverse.toArray.size ≤ sizeLine
    rw [List.size_toArray, List.length_reverse, Array.length_toList]
    exact hsz
  obtain ⟨os, hos, hcs, hds⟩ := id hs
  have hTs : s.TypeIs (.ref sl) "slice" := ⟨os, hos, hcs⟩
  unfold getItem
  try with_reducible refine wpAny_holding ?_
  first | refine wpAny_bind (wpAny_pure ?_) | skip
  refine wpAny_bind (wpAny_sequenceKey ht.typeIs (by decide) ?_)
  refine wpAny_bind (wpAny_callSpecial?_slot (name := Str.ofString "__getitem__") ht.typeIs PyProof.Rows.slot_tuple_getitem
    (wpAny_call_entry PyProof.Rows.slot_tuple_getitem ht.typeIs entry_tuple_getitem ?_ (args_tuple_getitem _ _)))
  show wpAny _ _ (Builtin.Tuple.tupleItemsOf (.ref t) >>= _) _ _ s
  refine wpAny_bind (tupleItemsOf_ ht ?_)
  refine wpAny_bind (wpAny_typeOf hTs ?_)
  rw [if_pos (by decide)]
  have ap : ∀ {Q : Int × Int × Nat → Shared → Prop}, Q ((items.size : Int) - 1, -1, items.size) s → wpAny (model prog w) A.in1 (Builtin.Slice.sliceApplied (.ref sl) (pure (items.size : Int))) Q E s := fun {Q} q => by
    unfold Builtin.Slice.sliceApplied Builtin.Slice.sliceFields
    refine wpAny_bind (wpAny_bind (wpAny_field hos hds (x := .none) rfl (wpAny_bind (wpAny_field hos hds (x := .none) rfl (wpAny_bind (wpAny_field hos hds (x := vs) rfl (wpAny_pure ?_)))))))
    refine wpAny_bind (HT.slicePart_ pv ?_)
    show wpAny _ _ (if ((-1 : Int) == 0) = true then _ else _) _ _ s
    rw [if_neg (by decide)]
    refine wpAny_bind (HT.slicePart_ .none (wpAny_bind (HT.slicePart_ .none (wpAny_bind (wpAny_pure ?_)))))
    show wpAny _ _ (match Builtin.Slice.sliceAdjust none none (-1) (items.size : Int) with | (lo, hi) => pure (lo, (-1 : Int), Builtin.Slice.slicePlaces lo hi (-1))) _ _ s
    have e : Builtin.Slice.sliceAdjust none none (-1) (items.size : Int) = ((items.size : Int) - 1, -1) := rfl
    rw [e]
    show wpAny _ _ (pure ((items.size : Int) - 1, (-1 : Int), Builtin.Slice.slicePlaces ((items.size : Int) - 1) (-1) (-1))) _ _ s
    rw [places_rev]
    exact wpAny_pure q
  refine wpAny_bind (ap ?_)
  have hno : ¬ ((((items.size : Int) - 1) == 0 && (-1 : Int) == 1 && items.size == items.size) = true) := by
    intro q
    rw [Bool.and_eq_true, Bool.and_eq_true] at q
    exact absurd q.1.2 (by decide)
  show wpAny _ _ (if (((items.size : Int) - 1) == 0 && (-1 : Int) == 1 && items.size == items.size) = true then _ else _) _ _ s
  rw [if_neg hno, pick_rev]
  first
    | exact wpAny_bind (m := Builtin.Tuple.tupleExact _) (wpAny_newObj_type (wpAny_pure ⟨_, rfl, wpAny_pure h⟩) htake)
    | exact wpAny_bind (m := Builtin.Tuple.tupleExact _) (wpAny_newObj_type (wpAny_bind (wpAny_pure (wpAny_pure ⟨_, rfl, wpAny_pure h⟩))) htake)
    | exact wpAny_bind (wpAny_bind (m := Builtin.Tuple.tupleExact _) (wpAny_newObj_type (wpAny_pure (wpAny_pure ⟨_, rfl, wpAny_pure h⟩)) htake))
    | exact wpAny_bind (wpAny_bind (m := Builtin.Tuple.tupleExact _) (wpAny_newObj_type (wpAny_pure ⟨_, rfl, wpAny_pure h⟩) htake))
end
section
variable {X : Cx} {e a b : Expr} {fa fb : ES} {pos : Pos}
def tRevF (K : PySem.W.Frag) (te : TE) : TE := fun σ H Q => te σ H fun x H1 => ∃ a xs, x = .ref a ∧ SqT K H1 a xs ∧ ∀ p its, H1 p = none → Q (.ref p) (upd H1 p (tHO its xs.reverse))
theorem pe_revT {te : TE} {k : Nat} {p1 p2 p3 : Pos} (he : PE X e te) : PE X (.Subscript e (.Slice none none (some (.UnaryOp .USub (.Constant (.int 1) k p1) p2)) p3) pos) (tRevF X.K te) := by
  refine ⟨fun pins s σ H Q I h => ?_⟩
  refine Subscript_ (thn (he.run pins s σ H _ I h) fun v s1 ⟨x, H1, I1, r1, q1⟩ => ?_)
  obtain ⟨a, xs, ex, hx, q⟩ := q1
  subst ex
  cases r1
  have hst : PO X (some (.UnaryOp .USub (.Constant (.int 1) k p1) p2)) (tPart (tUn (rU fun i => .int (-i)) (tC (.int 1)))) := po_some (pe_un un_neg pe_int)
  refine wpAny_Slice (thn (po_none.run pins s1 σ H1 (fun o H2 => o = none ∧ H2 = H1) I1 ⟨rfl, rfl⟩) fun vl s2 ⟨l, H2, I2, pl, el, e2⟩ => ?_)
  subst el e2
  refine thn (po_none.run pins s2 σ H2 (fun o H3 => o = none ∧ H3 = H2) I2 ⟨rfl, rfl⟩) fun vu s3 ⟨u, H3, I3, pu, eu, e3⟩ => ?_
  subst eu e3
  refine thn (hst.run pins s3 σ H3 (fun o H4 => o = some (-1) ∧ H4 = H3) I3 ⟨1, rfl, -1, rfl, rfl, rfl⟩) fun vs s4 ⟨o, H4, I4, ps, eo, e4⟩ => ?_
  subst eo e4
  cases pl
  cases pu
  have I5 : Inv X pins σ H4 { s4 with heap := s4.heap.push { cls := .type "slice", data := .fields #[.none, .none, vs] } } := I4.kept (t' := s4.toks) fun b ob q => Heap.get?_push_of_some _ q
  obtain ⟨its, r, ht, hz⟩ := I5.tuple hx
  have hlen := r.length
  show wpAny (model X.prog X.w) X.A (subscriptTail e (.Slice none none (some (.UnaryOp .USub (.Constant (.int 1) k p1) p2)) p3) (.ref a) (.ref s4.heap.objs.size)) (EP X pins σ Q) X.xe { s4 with heap := s4.heap.push { cls := .type "slice", data := .fields #[.none, .none, vs] } }
  refine tail_any (ops := [.ref a, .ref s4.heap.objs.size]) ht.typeIs (PyProof.Rows.slot_tuple_getitem.lookup) ?_ (by with_unfolding_all rfl)
  refine getItem_tuple_rev ht (Heap.IsSliceOf.new _ .none .none vs) ps ?_ (by rw [List.size_toArray]; omega)
  have rr : Vals xs.reverse its.toArray.toList.reverse := r.reverse
  exact ⟨.ref _, _, lay_tup I5 rr (by rw [List.length_reverse]; exact hz) s4.toks, rfl, q _ _ (I5.hok.fresh (Nat.le_refl _))⟩
theorem pe_orE {t u : TE} (h : PE X e t) (k : PE X e u) : PE X e (fun σ H Q => t σ H Q ∨ u σ H Q) := ⟨fun pins s σ H Q I q => by
  rcases q with q | q
  · exact h.run pins s σ H Q I q
  · exact k.run pins s σ H Q I q⟩
def gRev : D → Option D
  | .lst xs => some (.lst xs.reverse)
  | .tup xs => some (.tup xs.reverse)
  | _ => none
theorem de_rev {k : Nat} {p1 p2 p3 : Pos} (ha : DE X e fa) : DE X (.Subscript e (.Slice none none (some (.UnaryOp .USub (.Constant (.int 1) k p1) p2)) p3) pos) (eUn gRev fa) := ⟨fun F => pe_imp (pe_orE (pe_revL (ha.run F)) (pe_revT (ha.run F))) fun σ H Q ⟨A, ρ, rr, ρ', S, e, q⟩ => by
  obtain ⟨r, ρ1, e1, e⟩ := bind_ok e
  obtain ⟨d, ρ4, e4, e⟩ := bind_ok e
  obtain ⟨l4, rfl⟩ := val_ok e4
  obtain ⟨x, ρ5, e5, e⟩ := bind_ok e
  obtain ⟨l5, rfl⟩ := opt_ok e5
  obtain ⟨rfl, rfl⟩ := ret_ok e
  unfold gRev at l5
  split at l5
  · cases l5
    refine .inl ⟨A, ρ, r, _, S, e1, fun v H3 S3 m r1 => ?_⟩
    obtain ⟨a, vs, rfl, h1, h2⟩ := (look_rt S3 r1 l4).lst
    refine ⟨a, vs, rfl, h1, fun p hp => ?_⟩
    have sm := Same.of_new (o := .lst vs.reverse) hp
    exact q _ _ (S3.same sm) (m.trans (Stp.of sm)) (.lst (SqL.of (hid_new S3.zall hp)) ((h2.rev).mono (Same.hid sm)))
  · cases l5
    refine .inr ⟨A, ρ, r, _, S, e1, fun v H3 S3 m r1 => ?_⟩
    obtain ⟨a, vs, rfl, h1, h2⟩ := (look_rt S3 r1 l4).tup
    refine ⟨a, vs, rfl, h1.sq, fun p its hp => ?_⟩
    have sm := Same.of_new (o := tHO its vs.reverse) hp
    exact q _ _ (S3.same sm) (m.trans (Stp.of sm)) (.tup (.inl ⟨_, hid_new S3.zall hp, rfl⟩) ((h2.rev).mono (Same.hid sm)))
  · cases l5⟩
def rgD (a b : Int) : List D := (List.range (b - a).toNat).map fun (i : Nat) => .int (a + (i : Int))
theorem rg_rd {G : Gp} {H : Hp} (a b : Int) : RDs G H (rgV a b) (rgD a b) := by
  unfold rgV rgD
  induction List.range (b - a).toNat with
  | nil => exact .nil
  | cons i l ih => exact .cons (.int _) ih
def rgOk (a b : Int) : Bool := rangeOk a && rangeOk b && decide ((b - a).toNat ≤ 1000000)
theorem rgOk_of {a b : Int} (h : rgOk a b = true) : RgOk a b := by
  unfold rgOk at h
  rw [Bool.and_eq_true, Bool.and_eq_true] at h
  obtain ⟨h1, h2⟩ := rangeOk_of h.1.1
  obtain ⟨h3, h4⟩ := rangeOk_of h.1.2
  have h5 := of_decide_eq_true h.2
  exact ⟨h1, h2, h3, h4, by omega⟩
def tRgD (G : Gp) (F : Fm) (f : M (Int × Int)) : St → Hp → (Int → Int → Hp → Prop) → Prop := fun σ H Q => ∃ A ρ p ρ', Sts G F A σ ρ H ∧ f ρ = .ok p ρ' ∧ ∀ H', Sts G F A σ ρ' H' → Stp A H H' → Q p.1 p.2 H'
structure DR (X : Cx) (e : Expr) (f : M (Int × Int)) : Prop where
  run : ∀ F, PRg X e (tRgD (Gx X) F f)
def rOne (fa : ES) : M (Int × Int) := M.bind fa fun r => M.bind (val r) fun d => M.bind (M.opt (isInt d)) fun i => M.ret (0, i)
def rTwo (fa fb : ES) : M (Int × Int) := M.bind fa fun ra => M.bind fb fun rb => M.bind (val ra) fun x => M.bind (val rb) fun y => M.bind (M.opt (isInt x)) fun i => M.bind (M.opt (isInt y)) fun j => M.ret (i, j)
theorem prg_imp {t t' : St → Hp → (Int → Int → Hp → Prop) → Prop} (h : PRg X e t) (i : ∀ σ H Q, t' σ H Q → t σ H Q) : PRg X e t' := fun pins s σ H Q I q => h pins s σ H Q I (i σ H Q q)
theorem dr_1 {p : Pos} (hg : Gl X "range") (hm : X.mg "range" = none) (ha : DE X a fa) (na : starEach [a] X.env = (false, eval a X.env) :: starEach [] X.env := by rfl) : DR X (.Call (.Name "range" p) [a] [] pos) (rOne fa) := ⟨fun F => prg_imp (prg_1 hg hm (ha.run F) na) fun σ H Q ⟨A, ρ, pr, ρ', S, e, q⟩ => by
  obtain ⟨r, ρ1, e1, e⟩ := bind_ok e
  obtain ⟨d, ρ2, e2, e⟩ := bind_ok e
  obtain ⟨l2, rfl⟩ := val_ok e2
  obtain ⟨i, ρ3, e3, e⟩ := bind_ok e
  obtain ⟨l3, rfl⟩ := opt_ok e3
  obtain ⟨rfl, rfl⟩ := ret_ok e
  have ei := isInt_ok l3
  subst ei
  exact ⟨A, ρ, r, _, S, e1, fun v H1 S1 m1 r1 => ⟨i, (look_rt S1 r1 l2).int, q H1 S1 m1⟩⟩⟩
theorem dr_2 {p : Pos} (hg : Gl X "range") (hm : X.mg "range" = none) (ha : DE X a fa) (hb : DE X b fb) (na : starEach [a, b] X.env = (false, eval a X.env) :: starEach [b] X.env := by rfl)
    (nb : starEach [b] X.env = (false, eval b X.env) :: starEach [] X.env := by rfl) (hp : (backTo pos (starEach [b] X.env)).any (·.1) = false := by rfl) : DR X (.Call (.Name "range" p) [a, b] [] pos) (rTwo fa fb) := ⟨fun F => prg_imp (prg_2 hg hm (ha.run F) (hb.run F) na nb hp) fun σ H Q ⟨A, ρ, pr, ρ', S, e, q⟩ => by
  obtain ⟨ra, ρ1, e1, e⟩ := bind_ok e
  obtain ⟨rb, ρ2, e2, e⟩ := bind_ok e
  obtain ⟨x, ρ3, e3, e⟩ := bind_ok e
  obtain ⟨l3, rfl⟩ := val_ok e3
  obtain ⟨y, ρ4, e4, e⟩ := bind_ok e
  obtain ⟨l4, rfl⟩ := val_ok e4
  obtain ⟨i, ρ5, e5, e⟩ := bind_ok e
  obtain ⟨l5, rfl⟩ := opt_ok e5
  obtain ⟨j, ρ6, e6, e⟩ := bind_ok e
  obtain ⟨l6, rfl⟩ := opt_ok e6
  obtain ⟨rfl, rfl⟩ := ret_ok e
  have ei := isInt_ok l5
  subst ei
  have ej := isInt_ok l6
  subst ej
  exact ⟨A, ρ, ra, ρ1, S, e1, fun v H1 S1 m1 r1 => ⟨A, ρ1, rb, _, S1, e2, fun u H2 S2 m2 r2 => ⟨i, j, (look_rt S2 (r1.same m2.hid) l3).int, (look_rt S2 r2 l4).int, q H2 S2 (m1.trans m2)⟩⟩⟩⟩
def rgC (p : Int × Int) : Option (List D) := match rgOk p.1 p.2 with
  | true => some (rgD p.1 p.2)
  | false => none
theorem rgC_ok {p : Int × Int} {xs : List D} (h : rgC p = some xs) : RgOk p.1 p.2 ∧ xs = rgD p.1 p.2 := by
  unfold rgC at h
  split at h
  · rename_i q; cases h; exact ⟨rgOk_of q, rfl⟩
  · cases h
def eTupRg (f : M (Int × Int)) : ES := M.bind f fun p => M.bind (M.opt (rgC p)) fun xs => M.ret (.im (.tup xs))
def nLstRg (f : M (Int × Int)) : M (List D) := M.bind f fun p => M.opt (rgC p)
theorem dn_listRg {f : M (Int × Int)} {p : Pos} (hc : X.calm = true) (hg : Gl X "list") (hm : X.mg "list" = none) (he : DR X e f) (na : starEach [e] X.env = (false, eval e X.env) :: starEach [] X.env := by rfl) : DN X (.Call (.Name "list" p) [e] [] pos) (nLstRg f) := ⟨fun F => pe_imp (pe_listRg hc hg hm (he.run F) na) fun σ H Q ⟨A, ρ, xs, ρ', S, e, q⟩ => by
  obtain ⟨pr, ρ1, e1, e⟩ := bind_ok e
  obtain ⟨l2, rfl⟩ := opt_ok e
  obtain ⟨ok, rfl⟩ := rgC_ok l2
  refine ⟨A, ρ, pr, _, S, e1, fun H1 S1 m1 => ⟨ok, fun p hp => ?_⟩⟩
  have sm := Same.of_new (o := .lst (rgV pr.1 pr.2)) hp
  refine q p _ _ (S1.hide hp sm (by rw [upd_same]; exact fun z => nomatch z)) (S1.h0 hp) (S1.zall.out hp) (m1.trans (Stp.of sm)) (back_none S m1 S1 hp) upd_same (rg_rd _ _)⟩
def tTupRgF (te : St → Hp → (Int → Int → Hp → Prop) → Prop) : TE := fun σ H Q => te σ H fun a b H1 => RgOk a b ∧ ∀ q its, H1 q = none → Q (.ref q) (upd H1 q (tHO its (rgV a b)))
theorem pe_tupRgF {te : St → Hp → (Int → Int → Hp → Prop) → Prop} {p : Pos} (hc : X.calm = true) (hg : Gl X "tuple") (hm : X.mg "tuple" = none) (he : PRg X e te) (na : starEach [e] X.env = (false, eval e X.env) :: starEach [] X.env := by rfl) : PE X (.Call (.Name "tuple" p) [e] [] pos) (tTupRgF te) := by
  refine ⟨fun pins s σ H Q I h => ?_⟩
  refine Call_ (ld_blt I hg hm boot_tuple (PyProof.Rows.callWith_type1 (args_cons (thn (he pins s σ H _ I h) fun x s1 ⟨r, a, b, t, u, v, H1, ex, hr, I1, ok, q⟩ => args_nil ?_) na) na))
  subst ex
  obtain ⟨b1, b2, b3, b4, b5⟩ := ok
  refine call_tuple_range (n := (b - a).toNat) (I1.ok.hd hc) hr (small_one b1 b2 b3 b4) (rangeSize_nat a b) b5 fun h' tk acc hk hi => ?_
  have I2 : Inv X pins σ H1 { s1 with heap := h', toks := tk } := I1.kept hk
  have rv := vals_rg hi
  exact ⟨V.ref h'.objs.size, _, lay_tup I2 rv (by rw [rgV_length, sizeLine_eq]; omega) tk, rfl, q _ _ (I2.hok.fresh (Nat.le_refl _))⟩
theorem de_tupRg {f : M (Int × Int)} {p : Pos} (hc : X.calm = true) (hg : Gl X "tuple") (hm : X.mg "tuple" = none) (he : DR X e f) (na : starEach [e] X.env = (false, eval e X.env) :: starEach [] X.env := by rfl) : DE X (.Call (.Name "tuple" p) [e] [] pos) (eTupRg f) := ⟨fun F => pe_imp (pe_tupRgF hc hg hm (he.run F) na) fun σ H Q ⟨A, ρ, rr, ρ', S, e, q⟩ => by
  obtain ⟨pr, ρ1, e1, e⟩ := bind_ok e
  obtain ⟨xs, ρ2, e2, e⟩ := bind_ok e
  obtain ⟨l2, rfl⟩ := opt_ok e2
  obtain ⟨rfl, rfl⟩ := ret_ok e
  obtain ⟨ok, rfl⟩ := rgC_ok l2
  refine ⟨A, ρ, pr, _, S, e1, fun H1 S1 m1 => ⟨ok, fun p its hp => ?_⟩⟩
  have sm := Same.of_new (o := tHO its (rgV pr.1 pr.2)) hp
  exact q _ _ (S1.same sm) (m1.trans (Stp.of sm)) (.tup (.inl ⟨_, hid_new S1.zall hp, rfl⟩) (rg_rd _ _))⟩
def insU (i : Int) : List Int → List Int
  | [] => [i]
  | j :: r => if i < j then i :: j :: r else if i = j then j :: r else j :: insU i r
def sortU : List Int → List Int
  | [] => []
  | i :: r => insU i (sortU r)
theorem mem_insU {i k : Int} : ∀ {l : List Int}, k ∈ insU i l ↔ k = i ∨ k ∈ l
  | [] => by simp [insU]
  | j :: r => by
    unfold insU
    by_cases h1 : i < j
    · rw [if_pos h1]; simp
    · rw [if_neg h1]
      by_cases h2 : i = j
      · rw [if_pos h2]; subst h2; simp
      · rw [if_neg h2, List.mem_cons, mem_insU, List.mem_cons]
        constructor
        · rintro (h | h | h)
          · exact .inr (.inl h)
          · exact .inl h
          · exact .inr (.inr h)
        · rintro (h | h | h)
          · exact .inr (.inl h)
          · exact .inl h
          · exact .inr (.inr h)
theorem insU_sorted {i : Int} : ∀ {l : List Int}, l.Pairwise (· < ·) → (insU i l).Pairwise (· < ·)
  | [], _ => by simp [insU]
  | j :: r, h => by
    unfold insU
    obtain ⟨h1, h2⟩ := List.pairwise_cons.mp h
    by_cases z : i < j
    · rw [if_pos z]
      refine List.pairwise_cons.mpr ⟨fun k hk => ?_, h⟩
      rcases List.mem_cons.mp hk with rfl | hk
      · exact z
      · have := h1 k hk; omega
    · rw [if_neg z]
      by_cases z2 : i = j
      · rw [if_pos z2]; exact h
      · rw [if_neg z2]
        refine List.pairwise_cons.mpr ⟨fun k hk => ?_, insU_sorted h2⟩
        rcases mem_insU.mp hk with rfl | hk
        · omega
        · exact h1 k hk
theorem mem_sortU {k : Int} : ∀ {l : List Int}, k ∈ sortU l ↔ k ∈ l
  | [] => by simp [sortU]
  | i :: r => by rw [sortU, mem_insU, mem_sortU, List.mem_cons]
theorem sortU_sorted : ∀ (l : List Int), (sortU l).Pairwise (· < ·)
  | [] => .nil
  | i :: r => insU_sorted (sortU_sorted r)
theorem lt_nodup {l : List Int} (h : l.Pairwise (· < ·)) : l.Nodup := h.imp fun h => Int.ne_of_lt h
theorem card_eq {l m : List Int} (h1 : l.Nodup) (h2 : m.Nodup) (h : ∀ k, k ∈ l ↔ k ∈ m) : l.length = m.length := ((List.perm_ext_iff_of_nodup h1 h2).mpr h).length_eq
theorem lt_uniq {l m : List Int} (h1 : l.Pairwise (· < ·)) (h2 : m.Pairwise (· < ·)) (h : ∀ k, k ∈ l ↔ k ∈ m) : l = m :=
  sorted_uniq ((List.perm_ext_iff_of_nodup (lt_nodup h1) (lt_nodup h2)).mpr h) (h1.imp fun h => Int.le_of_lt h) (h2.imp fun h => Int.le_of_lt h)
def rSetT (w : World) (K : PySem.W.Frag) : List V → Hp → VK → Prop := fun xs H Q => ∃ p ns, xs = [.ref p] ∧ SqT K H p (ns.map V.int) ∧ ns.length ≤ 1000 ∧ ∀ q, H q = none → Q (.ref q) (upd H q (SetO w q (fun j => decide (j ∈ ns)) (sortU ns).length))
theorem call_setT (hc : X.calm = true) : CallR X (.type "set") (rSetT X.w X.K) := by
  intro pins s σ H xs us Q I r h
  obtain ⟨p, ns, rfl, hq, hl, q⟩ := h
  rw [Vals.ref1 r]
  obtain ⟨its, rv, pt, hz⟩ := I.tuple hq
  refine call_set_tupI ns (I.ok.hd hc) (show s.heap.IsTuple p its.toArray from pt) (ints_of_vals rv) (by unfold scanBound; omega) fun h' tk c R1 hcn k => ?_
  have ec : c = (sortU ns).length := by
    obtain ⟨o, es, ep, t, ho, hex, hdt, g, nd, hm2, hb, hf, hn, hr, hl2⟩ := R1
    have e1 : (es.toList.map keyOf).length = (sortU ns).length := card_eq nd (lt_nodup (sortU_sorted ns)) fun k => by
      rw [← hm2 k, mem_sortU]; simp
    rw [List.length_map, Array.length_toList] at e1
    rw [← hn]; exact e1
  subst ec
  have I2 : Inv X pins σ (upd H s.heap.objs.size (SetO X.w s.heap.objs.size (fun j => decide (j ∈ ns)) (sortU ns).length)) { s with heap := h', toks := tk } :=
    I.laid k (Nat.le_refl _) (setO_new R1)
  exact ⟨.ref s.heap.objs.size, _, I2, rfl, q _ (I.hok.fresh (Nat.le_refl _))⟩
def gSetI : List D → Option D
  | [.tup xs] => match asInts xs with
    | some ns => if ns.length ≤ 1000 then some (.set ((sortU ns).map .int)) else none
    | none => none
  | _ => none
theorem cd_set (hc : X.calm = true) : CallD X (.type "set") gSetI := ⟨_, call_setT hc, fun Z H xs ds d Q z r e q => by
  unfold gSetI at e
  split at e
  · split at e
    · rename_i xs0 ns e1
      by_cases hl : ns.length ≤ 1000
      · rw [if_pos hl] at e
        cases e
        obtain ⟨v, rfl, r1⟩ := r.one
        obtain ⟨a, vs, rfl, h1, h2⟩ := r1.tup
        have ex := asInts_eq e1
        subst ex
        have ev := h2.ints
        subst ev
        refine ⟨a, ns, rfl, h1.sq, hl, fun p hp => ?_⟩
        have sm := Same.of_new (o := SetO X.w p (fun j => decide (j ∈ ns)) (sortU ns).length) hp
        exact q _ _ sm (.set (hid_new z hp) (sortU_sorted ns) (fun k => by rw [mem_sortU]; simp) rfl)
      · rw [if_neg hl] at e; cases e
    · cases e
  · cases e⟩
def gSortedS : List D → Option (List D)
  | [.set xs] => if xs.length < 64 then some xs else none
  | _ => none
theorem RT.set {G : Gp} {Z : List Addr} {H : Hp} {v : V} {xs : List D} (h : RT G Z H v (.set xs)) : ∃ (a : Addr) (S : Int → Bool) (n : Nat) (ns : List Int), v = .ref a ∧ xs = ns.map D.int ∧ hid Z H a = some (SetO G.w a S n) ∧ ns.Pairwise (· < ·) ∧ (∀ k, S k = true ↔ k ∈ ns) ∧ ns.length = n := by
  rcases h with h | ⟨a, vs, es, rfl, e, h, r⟩
  · cases h with
    | set h1 h2 h3 h4 => exact ⟨_, _, _, _, rfl, rfl, h1, h2, h3, h4⟩
  · cases e
theorem cn_sortedS (hc : X.calm = true) : CallN X (.builtin "sorted") gSortedS := ⟨_, cr_sortedSet hc, fun Z H xs ds es Q z r e q => by
  unfold gSortedS at e
  split at e
  · rename_i xs0
    by_cases hl : xs0.length < 64
    · rw [if_pos hl] at e
      cases e
      obtain ⟨v, rfl, r1⟩ := r.one
      obtain ⟨a, S, n, ns, rfl, rfl, h1, h2, h3, h4⟩ := r1.set
      rw [List.length_map] at hl
      refine ⟨a, S, n, rfl, hid_full _ _ h1, by omega, fun ms p k1 k2 k3 hp => ?_⟩
      have em : ms = ns := lt_uniq k1 h2 fun k => (k2 k).trans (h3 k)
      subst em
      exact q p _ hp (RDs.map_int ms)
    · rw [if_neg hl] at e; cases e
  · cases e⟩
end
end Dv
namespace Dv
open PySem PySem.Spec PyProof.Rows L2
theorem ru {A : Around} {k : Nat} (hr : Room k A) : A.units + 64 < cLine := hr.units
theorem ru5 {A : Around} {k : Nat} (hr : Room k A) : A.units + 65 < cLine := by have := hr.un; omega
theorem de_gint {X : Cx} {x : Str} {pos : Pos} {i : Int} (hg : Gl X x) (hm : ∃ t, X.mg x = some (.int i t)) (hd : (x == ("__debug__" : Str)) = false := by decide) : DE X (.Name x pos) (eC (.int i)) := by
  obtain ⟨t, h⟩ := hm
  exact de_c (v := .int i) (pe_glob hg h ⟨t, rfl⟩ hd) fun _ => .int i
def blkB (N : List Str) (sc scope : Scope) (own : List (Str × Nat)) : Bool :=
  decide (scope.kind = .function) && (scope.names.all (fun y => decide (scope.names.lookup y.1 = some y.2)) && (own.all (fun p => decide (N[p.2]? = some p.1)) &&
    (scope.names.all (fun y => !decide (y.2 = .free) || (decide (sc.names.lookup y.1 = some .cell) || decide (sc.names.lookup y.1 = some .free))) &&
      scope.names.all (fun y => !(decide (y.2 = .local) || decide (y.2 = .cell)) || ((own.map (·.1)).contains y.1 || !N.contains y.1)))))
theorem blkO {N : List Str} {sc scope : Scope} {own : List (Str × Nat)} (h : blkB N sc scope own = true) : BlkOk N sc scope own := by
  unfold blkB at h
  rw [Bool.and_eq_true, Bool.and_eq_true, Bool.and_eq_true, Bool.and_eq_true] at h
  obtain ⟨h1, h2, h3, h4, h5⟩ := h
  rw [List.all_eq_true] at h2 h3 h4 h5
  refine ⟨of_decide_eq_true h1, fun y hy => of_decide_eq_true (h2 y hy), fun p hp => of_decide_eq_true (h3 p hp), fun y hy e => ?_, fun y hy e => ?_⟩
  · have z := h4 y hy
    rw [e] at z
    rw [Bool.or_eq_true, Bool.or_eq_true] at z
    rcases z with z | z | z
    · cases z
    · exact .inl (of_decide_eq_true z)
    · exact .inr (of_decide_eq_true z)
  · have z := h5 y hy
    rw [Bool.or_eq_true, Bool.or_eq_true] at z
    rcases z with z | z | z
    · exfalso
      rcases e with e | e
      · rw [e] at z; revert z; decide
      · rw [e] at z; revert z; decide
    · exact .inl (by simpa using z)
    · exact .inr (by simpa using z)
end Dv
namespace Dv
open PySem PySem.Spec PyProof.Rows L2
theorem putB_wipe {ρ : Rho} {vs : List Nat} : putB ρ vs (wipeR ρ vs) = ρ := by
  apply List.ext_getElem?
  intro i
  by_cases z : i ∈ vs
  · by_cases hi : i < ρ.length
    · rw [putB_in z (by rw [wipeR_len]; exact hi), List.getElem?_eq_getElem hi]
      rfl
    · rw [List.getElem?_eq_none (by rw [putB_len, wipeR_len]; omega), List.getElem?_eq_none (by omega)]
  · rw [putB_out z, wipeR_out z]
theorem lc_pure {vs : List Nat} {g : IV → M Unit} {gt : M Bool} {fe : ES} {ρ : Rho} (p : IV → Bool) (h : IV → D) : ∀ (ds : List IV) (acc : List D), ds.length + acc.length ≤ 1000000 →
    (∀ d ∈ ds, ∃ ρ1, g d ρ = .ok () ρ1 ∧ gt ρ1 = .ok (p d) ρ1 ∧ (p d = true → fe ρ1 = .ok (.im (h d)) ρ1) ∧ wipeR ρ1 vs = ρ) → lcLoop vs g gt fe ds acc ρ = .ok (acc ++ (ds.filter p).map h) ρ
  | [], acc, _, _ => by simp [lcLoop, M.ret]
  | d :: ds, acc, hl, hd => by
    obtain ⟨ρ1, h1, h2, h3, h4⟩ := hd d List.mem_cons_self
    rw [List.length_cons] at hl
    have ih := fun acc hl => lc_pure p h ds acc hl fun d hd' => hd d (List.mem_cons_of_mem _ hd')
    unfold lcLoop
    simp only [M.bind, h1, h2]
    cases e : p d with
    | false =>
      simp only [M.bind, wipeM, h4]
      rw [ih acc (by omega), List.filter_cons_of_neg (by rw [e]; exact Bool.false_ne_true)]
    | true =>
      have r : acc.length < 1000000 := by omega
      simp only [M.bind, h3 e, imm, M.opt, room, if_pos r, wipeM, h4]
      rw [ih (acc ++ [h d]) (by simp; omega), List.filter_cons_of_pos e, List.map_cons, List.append_assoc]
      rfl
theorem nLc_pure {vs : List Nat} {fi : M (List IV)} {g : IV → M Unit} {gt : M Bool} {fe : ES} {ρ : Rho} {ds : List IV} (p : IV → Bool) (h : IV → D) (hi : fi ρ = .ok ds ρ) (hw : okw vs ρ = true) (hl : ds.length ≤ 1000000)
    (hd : ∀ d ∈ ds, ∃ ρ1, g d (wipeR ρ vs) = .ok () ρ1 ∧ gt ρ1 = .ok (p d) ρ1 ∧ (p d = true → fe ρ1 = .ok (.im (h d)) ρ1) ∧ wipeR ρ1 vs = wipeR ρ vs) : nLc vs fi g gt fe ρ = .ok ((ds.filter p).map h) ρ := by
  unfold nLc
  simp only [M.bind, hi, hw]
  rw [lc_pure p h ds [] (by simpa using hl) hd]
  simp only [List.nil_append, putB_wipe]
inductive F2 {α β : Type} (R : α → β → Prop) : List α → List β → Prop
  | nil : F2 R [] []
  | cons {a : α} {b : β} {l : List α} {m : List β} : R a b → F2 R l m → F2 R (a :: l) (b :: m)
theorem lc_inv {vs : List Nat} {g : IV → M Unit} {gt : M Bool} {fe : ES} (I : Rho → Prop) (R : IV → D → Prop) : ∀ (ds : List IV) (acc : List D) (ρ : Rho), ds.length + acc.length ≤ 1000000 → I ρ →
    (∀ d ∈ ds, ∀ ρ, I ρ → ∃ ρ1 b ρ2, g d ρ = .ok () ρ1 ∧ gt ρ1 = .ok b ρ2 ∧ (b = true → ∃ x ρ3, fe ρ2 = .ok (.im x) ρ3 ∧ R d x ∧ I (wipeR ρ3 vs)) ∧ (b = false → I (wipeR ρ2 vs))) →
    ∃ (sel : List IV) (xs : List D) (ρ' : Rho), lcLoop vs g gt fe ds acc ρ = .ok (acc ++ xs) ρ' ∧ I ρ' ∧ sel.Sublist ds ∧ F2 R sel xs
  | [], acc, ρ, _, i, _ => ⟨[], [], ρ, by simp [lcLoop, M.ret], i, .slnil, .nil⟩
  | d :: ds, acc, ρ, hl, i, hd => by
    obtain ⟨ρ1, b, ρ2, h1, h2, h3, h4⟩ := hd d List.mem_cons_self ρ i
    rw [List.length_cons] at hl
    have ih := fun acc ρ hl i => lc_inv I R ds acc ρ hl i fun d hd' => hd d (List.mem_cons_of_mem _ hd')
    unfold lcLoop
    simp only [M.bind, h1, h2]
    cases b with
    | false =>
      obtain ⟨sel, xs, ρ', e1, e2, e3, e4⟩ := ih acc (wipeR ρ2 vs) (by omega) (h4 rfl)
      exact ⟨sel, xs, ρ', by simp only [M.bind, wipeM]; exact e1, e2, .cons _ e3, e4⟩
    | true =>
      obtain ⟨x, ρ3, h5, h6, h7⟩ := h3 rfl
      have r : acc.length < 1000000 := by omega
      obtain ⟨sel, xs, ρ', e1, e2, e3, e4⟩ := ih (acc ++ [x]) (wipeR ρ3 vs) (by simp; omega) h7
      exact ⟨d :: sel, x :: xs, ρ', by simp only [M.bind, h5, imm, M.opt, room, if_pos r, wipeM]; rw [e1, List.append_assoc]; rfl, e2, .cons_cons _ e3, .cons h6 e4⟩
theorem nLc_inv {vs : List Nat} {fi : M (List IV)} {g : IV → M Unit} {gt : M Bool} {fe : ES} {ρ : Rho} {ds : List IV} (I : Rho → Prop) (R : IV → D → Prop) (hi : fi ρ = .ok ds ρ) (hw : okw vs ρ = true) (hl : ds.length ≤ 1000000) (i : I (wipeR ρ vs))
    (hd : ∀ d ∈ ds, ∀ ρ, I ρ → ∃ ρ1 b ρ2, g d ρ = .ok () ρ1 ∧ gt ρ1 = .ok b ρ2 ∧ (b = true → ∃ x ρ3, fe ρ2 = .ok (.im x) ρ3 ∧ R d x ∧ I (wipeR ρ3 vs)) ∧ (b = false → I (wipeR ρ2 vs))) :
    ∃ (sel : List IV) (xs : List D) (ρ' : Rho), nLc vs fi g gt fe ρ = .ok xs (putB ρ vs ρ') ∧ I ρ' ∧ sel.Sublist ds ∧ F2 R sel xs := by
  obtain ⟨sel, xs, ρ', e1, e2, e3, e4⟩ := lc_inv I R ds [] (wipeR ρ vs) (by simpa using hl) i hd
  refine ⟨sel, xs, ρ', ?_, e2, e3, e4⟩
  unfold nLc
  simp only [M.bind, hi, hw, e1, List.nil_append]
theorem for_inv {gg : IV → M Unit} {f : SS} (I : Rho → Prop) : ∀ (ds : List IV) (ρ : Rho), I ρ →
    (∀ d ∈ ds, ∀ ρ, I ρ → ∃ ρ1 fl ρ2, gg d ρ = .ok () ρ1 ∧ f ρ1 = .ok fl ρ2 ∧ (fl = .nx ∨ fl = .ct) ∧ I ρ2) → ∃ ρ', forL gg f ds ρ = .ok .nx ρ' ∧ I ρ'
  | [], ρ, i, _ => ⟨ρ, rfl, i⟩
  | d :: ds, ρ, i, h => by
    obtain ⟨ρ1, fl, ρ2, h1, h2, h3, h4⟩ := h d List.mem_cons_self ρ i
    obtain ⟨ρ', e1, e2⟩ := for_inv I ds ρ2 h4 fun d hd => h d (List.mem_cons_of_mem _ hd)
    refine ⟨ρ', ?_, e2⟩
    unfold forL
    simp only [M.bind, h1, h2]
    rcases h3 with rfl | rfl <;> exact e1
abbrev iD (l : List Int) : List D := l.map D.int
theorem iD_cons {a : Int} {r : List Int} : iD (a :: r) = .int a :: iD r := rfl
theorem pls_ints (n : Nat) : ∀ l : List Int, pls n (iD l) = true
  | [] => by rw [pls.eq_def]; rfl
  | a :: r => by
    have ih := pls_ints n r
    rw [iD_cons, pls.eq_def]
    simp only [Bool.and_eq_true]
    exact ⟨by cases n <;> simp [pl], ih⟩
theorem pl_tupI (n : Nat) (l : List Int) : pl (n + 1) (.tup (iD l)) = true := by rw [pl.eq_def]; exact pls_ints n l
theorem pl_lstI (n : Nat) (l : List Int) : pl (n + 1) (.lst (iD l)) = true := by rw [pl.eq_def]; exact pls_ints n l
theorem pl_int (n : Nat) (i : Int) : pl n (.int i) = true := by cases n <;> simp [pl]
theorem pl_bl (n : Nat) (i : Bool) : pl n (.bl i) = true := by cases n <;> simp [pl]
theorem eqbs_ints : ∀ (l m : List Int), eqbs (iD l) (iD m) = decide (l = m)
  | [], [] => by simp [eqbs]
  | [], b :: m => by simp [eqbs]
  | a :: l, [] => by simp [eqbs]
  | a :: l, b :: m => by
    simp only [iD_cons, eqbs, eqb, eqbs_ints l m]
    by_cases h : a = b
    · subst h; by_cases h2 : l = m <;> simp [h2]
    · simp [h]
theorem cost_int {i : Int} (h : i.natAbs < 10 ^ 18) : cost (.int i) = 20 := by rw [cost, if_pos h]
theorem costs_ints : ∀ l : List Int, (∀ i ∈ l, i.natAbs < 10 ^ 18) → costs (iD l) = 22 * l.length
  | [], _ => by simp [costs]
  | a :: l, h => by
    rw [iD_cons, costs, cost_int (h a List.mem_cons_self), costs_ints l fun i hi => h i (List.mem_cons_of_mem _ hi), List.length_cons]
    omega
theorem mem_ints {i : Int} {l : List Int} : ((iD l).any fun z => eqb z (.int i)) = decide (i ∈ l) := by
  induction l with
  | nil => simp
  | cons a r ih =>
    simp only [iD_cons, List.any_cons, ih, eqb, List.mem_cons]
    by_cases h : a = i
    · subst h; simp
    · have h2 : ¬ i = a := fun e => h e.symm
      simp [h, h2]
def BagOk (xs : List D) : Prop := ∃ g b : Int, xs = [.int g, .int b] ∧ 0 ≤ g ∧ g < 1000000000000000000000000000000000000000000000000000000000000000000000000000000000000000000000000000000000000000000000000 ∧ 0 ≤ b ∧ b < 2305843009213693951
def s_bag : SS := (sSeq (sSet 2 (eIf (bCmp gLt (eVar 1) (eCall gLen (aCons (eVar 0) aNil))) (eCall gInt (aCons (eBin gIx (eVar 0) (eVar 1)) aNil)) (eBin gAdd (eBin gMul (eC (.int 89)) (eVar 1)) (eC (.int 41)))))
    (sSeq (sSet 3 (eBin gMod (eCall gMax2 (aCons (eC (.int 0)) (aCons (eBin gSub (eCall gAbs (aCons (eVar 2) aNil)) (eBin gPow (eC (.int 10)) (eC (.int 18)))) aNil))) (eBin gMul (eBin gPow (eC (.int 10)) (eC (.int 60))) (eBin gPow (eC (.int 10)) (eC (.int 60))))))
    (sSeq (sSet 4 (eBin gAdd (eBin gAdd (eBin gAdd (eBin gMul (eBin gMod (eCall gInt (aCons (eCall gAbs (aCons (eVar 2) aNil)) aNil)) (eBin gAdd (eBin gPow (eC (.int 10)) (eC (.int 12))) (eC (.int 39)))) (eC (.int 10007))) (eBin gMul (eC (.int 509)) (eVar 1))) (eBin gMul (eC (.int 17)) (eCall gInt (aCons (eBin gLt (eVar 2) (eC (.int 0))) aNil)))) (eC (.int 1))))
    (sRetL (nLst (aCons (eVar 3) (aCons (eBin gMod (eCall gInt (aCons (eVar 4) aNil)) (eBin gSub (eBin gPow (eC (.int 2)) (eC (.int 61))) (eC (.int 1)))) aNil)))))))
def F_bag : FD := defF 2 5 s_bag
def s_draw : SS := (sSeq (sIf (bCmp gGt (eBin gIx (eVar 0) (eC (.int 0))) (eC (.int 0)))
    (sSeq (sSet 2 (eBin gMod (eCall gInt (aCons (eBin gIx (eVar 0) (eC (.int 0))) aNil)) (eVar 1)))
    (sSeq (sSetIx 0 (eBin gDiv (eBin gIx (eVar 0) (eC (.int 0))) (eVar 1)) (eC (.int 0)))
    (sRet (eVar 2))))
    sNil)
    (sSeq (sSetIx 0 (eBin gMod (eCall gInt (aCons (eBin gAdd (eBin gMul (eBin gIx (eVar 0) (eC (.int 1))) (eC (.int 6364136223))) (eC (.int 1442695041))) aNil)) (eBin gSub (eBin gPow (eC (.int 2)) (eC (.int 61))) (eC (.int 1)))) (eC (.int 1)))
    (sRet (eBin gMod (eCall gInt (aCons (eBin gDiv (eBin gIx (eVar 0) (eC (.int 1))) (eC (.int 65537))) aNil)) (eVar 1)))))
def F_draw : FD := defF 2 3 s_draw
theorem e_pow61 : gPow (.int 2) (.int 61) = some (.int 2305843009213693952) := by kernel_rfl
theorem e_sub61 : gSub (.int 2305843009213693952) (.int 1) = some (.int 2305843009213693951) := by kernel_rfl
theorem e_sub (i j : Int) : gSub (.int i) (.int j) = some (.int (i - j)) := rfl
theorem e_addI (i j : Int) : gAdd (.int i) (.int j) = some (.int (i + j)) := rfl
theorem e_gt (i j : Int) : gGt (.int i) (.int j) = some (.bl (decide (j < i))) := rfl
theorem e_lt (i j : Int) : gLt (.int i) (.int j) = some (.bl (decide (i < j))) := rfl
theorem e_le (i j : Int) : gLe (.int i) (.int j) = some (.bl (decide (i ≤ j))) := rfl
theorem e_ge (i j : Int) : gGe (.int i) (.int j) = some (.bl (decide (j ≤ i))) := rfl
theorem e_mod {i j : Int} (h : 0 < j) : gMod (.int i) (.int j) = some (.int (i % j)) := by simp [gMod, gI, h]
theorem e_div {i j : Int} (h : 0 < j) (h2 : j < 2 ^ 64) : gDiv (.int i) (.int j) = some (.int (i / j)) := by
  have hd : cDiv i j = true := by
    unfold cDiv
    rw [Bool.and_eq_true]
    refine ⟨decide_eq_true h, decide_eq_true ?_⟩
    have : j.natAbs < 2 ^ 64 := by omega
    exact Nat.lt_of_lt_of_le this (Nat.pow_le_pow_right (by decide) (by decide))
  unfold gDiv gI
  simp only [hd, if_true]
theorem e_mul {i j : Int} (h : i.natAbs < 2 ^ 64 ∨ j.natAbs < 2 ^ 64) : gMul (.int i) (.int j) = some (.int (i * j)) := by
  have hd : cMul i j = true := by
    unfold cMul
    rw [Bool.or_eq_true, Bool.or_eq_true]
    rcases h with h | h
    · exact .inl (.inl (decide_eq_true h))
    · exact .inl (.inr (decide_eq_true h))
  unfold gMul gI
  simp only [hd, if_true]
theorem e_mod61 (i : Int) : gMod (.int i) (.int 2305843009213693951) = some (.int (i % 2305843009213693951)) := e_mod (by decide)
theorem e_mulA (i : Int) : gMul (.int i) (.int 6364136223) = some (.int (i * 6364136223)) := e_mul (.inr (by decide))
theorem e_divA (i : Int) : gDiv (.int i) (.int 65537) = some (.int (i / 65537)) := e_div (by decide) (by decide)
theorem e_ix0 (a : D) (r : List D) : gIx (.lst (a :: r)) (.int 0) = some a := by simp [gIx, atI, ixN]
theorem e_ix1 (a b : D) (r : List D) : gIx (.lst (a :: b :: r)) (.int 1) = some b := by
  have h : (1 : Int) < (r.length : Int) + 1 + 1 := by omega
  simp [gIx, atI, ixN, h]
theorem ixN0 (n : Nat) : ixN (n + 1) 0 = some 0 := by simp [ixN]
theorem ixN1 (n : Nat) : ixN (n + 2) 1 = some 1 := by
  have h : (1 : Int) < (n : Int) + 2 := by omega
  simp [ixN, h]
theorem c_61 : eBin gSub (eBin gPow (eC (.int 2)) (eC (.int 61))) (eC (.int 1)) = eC (.int 2305843009213693951) := by
  funext ρ
  simp only [eBin, M.bind, eC, M.ret, val, look, M.opt, e_pow61, e_sub61]
def s_drawG (Mm A C Q : Int) : SS := (sSeq (sIf (bCmp gGt (eBin gIx (eVar 0) (eC (.int 0))) (eC (.int 0)))
    (sSeq (sSet 2 (eBin gMod (eCall gInt (aCons (eBin gIx (eVar 0) (eC (.int 0))) aNil)) (eVar 1)))
    (sSeq (sSetIx 0 (eBin gDiv (eBin gIx (eVar 0) (eC (.int 0))) (eVar 1)) (eC (.int 0)))
    (sRet (eVar 2))))
    sNil)
    (sSeq (sSetIx 0 (eBin gMod (eCall gInt (aCons (eBin gAdd (eBin gMul (eBin gIx (eVar 0) (eC (.int 1))) (eC (.int A))) (eC (.int C))) aNil)) (eC (.int Mm))) (eC (.int 1)))
    (sRet (eBin gMod (eCall gInt (aCons (eBin gDiv (eBin gIx (eVar 0) (eC (.int 1))) (eC (.int Q))) aNil)) (eVar 1)))))
theorem draw_core {Mm A C Q g b many : Int} (hM : 0 < Mm) (hA : A.natAbs < 2 ^ 64) (hQ : 0 < Q) (hQ2 : Q < 2 ^ 64) (hm : 0 < many) (h2 : many < 2 ^ 64) :
    (0 < g → defF 2 3 (s_drawG Mm A C Q) [.bo [.int g, .int b], .im (.int many)] = some (.im (.int (g % many)), [some [.int (g / many), .int b]])) ∧
    (¬ 0 < g → defF 2 3 (s_drawG Mm A C Q) [.bo [.int g, .int b], .im (.int many)] = some (.im (.int ((b * A + C) % Mm / Q % many)), [some [.int g, .int ((b * A + C) % Mm)]])) := by
  have x1 : ∀ i, gMod (.int i) (.int many) = some (.int (i % many)) := fun i => e_mod hm
  have x2 : ∀ i, gMod (.int i) (.int Mm) = some (.int (i % Mm)) := fun i => e_mod hM
  have x3 : ∀ i, gDiv (.int i) (.int Q) = some (.int (i / Q)) := fun i => e_div hQ hQ2
  have x4 : ∀ i, gDiv (.int i) (.int many) = some (.int (i / many)) := fun i => e_div hm h2
  have x5 : ∀ i, gMul (.int i) (.int A) = some (.int (i * A)) := fun i => e_mul (.inr hA)
  have x0 : ∀ n, ixN (n + 2) 0 = some 0 := fun n => ixN0 (n + 1)
  constructor
  · intro hg
    conv => lhs; simp only [s_drawG, defF, runF, entry, sSeq, sIf, bCmp, eBin, M.bind, eVar, eC, M.ret, val, look, M.opt, e_ix0, e_ix1, e_gt, isBl, hg, x0, x1, x2, x3, x4, x5, e_addI, eCall, aCons, aNil, vals, looks, gInt, imm, setIm, sSet, sSetIx, isInt, lAt, lPut, ixN1, sRet, bos, sNil, List.length_cons, List.length_nil, List.map_cons, List.map_nil, List.cons_append, List.nil_append, List.getElem?_cons_zero, List.getElem?_cons_succ, List.replicate, List.set_cons_zero, List.set_cons_succ, decide_true, decide_false, Nat.sub_self, Nat.reduceAdd, Nat.reduceSub]
  · intro hg
    conv => lhs; simp only [s_drawG, defF, runF, entry, sSeq, sIf, bCmp, eBin, M.bind, eVar, eC, M.ret, val, look, M.opt, e_ix0, e_ix1, e_gt, isBl, hg, x0, x1, x2, x3, x4, x5, e_addI, eCall, aCons, aNil, vals, looks, gInt, imm, setIm, sSet, sSetIx, isInt, lAt, lPut, ixN1, sRet, bos, sNil, List.length_cons, List.length_nil, List.map_cons, List.map_nil, List.cons_append, List.nil_append, List.getElem?_cons_zero, List.getElem?_cons_succ, List.replicate, List.set_cons_zero, List.set_cons_succ, decide_true, decide_false, Nat.sub_self, Nat.reduceAdd, Nat.reduceSub]
theorem F_draw_eq : F_draw = defF 2 3 (s_drawG 2305843009213693951 6364136223 1442695041 65537) := by
  unfold F_draw s_draw s_drawG
  rw [c_61]
theorem draw_ok {xs : List D} {many : Int} (hb : BagOk xs) (h1 : 1 ≤ many) (h2 : many < 2 ^ 64) : ∃ r ys, F_draw [.bo xs, .im (.int many)] = some (.im (.int r), [some ys]) ∧ 0 ≤ r ∧ r < many ∧ BagOk ys := by
  obtain ⟨g, b, rfl, g0, g1, b0, b1⟩ := hb
  have hm : 0 < many := by omega
  rw [F_draw_eq]
  obtain ⟨c1, c2⟩ := draw_core (Mm := 2305843009213693951) (A := 6364136223) (C := 1442695041) (Q := 65537) (g := g) (b := b) (many := many) (by decide) (by decide) (by decide) (by decide) hm h2
  by_cases hg : 0 < g
  · exact ⟨_, _, c1 hg, Int.emod_nonneg _ (by omega), Int.emod_lt_of_pos _ hm, g / many, b, rfl, Int.ediv_nonneg g0 (by omega), Int.lt_of_le_of_lt (Int.ediv_le_self _ g0) g1, b0, b1⟩
  · exact ⟨_, _, c2 hg, Int.emod_nonneg _ (by omega), Int.emod_lt_of_pos _ hm, g, _, rfl, g0, g1, Int.emod_nonneg _ (by decide), Int.emod_lt_of_pos _ (by decide)⟩
theorem c_18 : eBin gPow (eC (.int 10)) (eC (.int 18)) = eC (.int 1000000000000000000) := by
  have p : gPow (.int 10) (.int 18) = some (.int 1000000000000000000) := by kernel_rfl
  funext ρ
  simp only [eBin, M.bind, eC, M.ret, val, look, M.opt, p]
theorem c_39 : eBin gAdd (eBin gPow (eC (.int 10)) (eC (.int 12))) (eC (.int 39)) = eC (.int 1000000000039) := by
  have p : gPow (.int 10) (.int 12) = some (.int 1000000000000) := by kernel_rfl
  have q : gAdd (.int 1000000000000) (.int 39) = some (.int 1000000000039) := by kernel_rfl
  funext ρ
  simp only [eBin, M.bind, eC, M.ret, val, look, M.opt, p, q]
theorem e_mulW {i j : Int} (h : i.natAbs < 2 ^ 250) (h2 : j.natAbs < 2 ^ 250) : gMul (.int i) (.int j) = some (.int (i * j)) := by
  have l : 2 ^ 250 ≤ 2 ^ 4000 := Nat.pow_le_pow_right (by decide) (by decide)
  have hd : cMul i j = true := by
    unfold cMul
    rw [Bool.or_eq_true, Bool.and_eq_true]
    exact .inr ⟨decide_eq_true (Nat.lt_of_lt_of_le h l), decide_eq_true (Nat.lt_of_lt_of_le h2 l)⟩
  unfold gMul gI
  simp only [hd, if_true]
theorem c_const {g : D → D → Option D} {x y z : D} (h : g x y = some z) : eBin g (eC x) (eC y) = eC z := by
  funext ρ
  simp only [eBin, M.bind, eC, M.ret, val, look, M.opt, h]
theorem c_60 : eBin gPow (eC (.int 10)) (eC (.int 60)) = eC (.int 1000000000000000000000000000000000000000000000000000000000000) := c_const (by kernel_rfl)
theorem c_120 : eBin gMul (eBin gPow (eC (.int 10)) (eC (.int 60))) (eBin gPow (eC (.int 10)) (eC (.int 60))) = eC (.int (1000000000000000000000000000000000000000000000000000000000000 * 1000000000000000000000000000000000000000000000000000000000000)) := by
  rw [c_60]
  exact c_const (e_mulW (by decide +kernel) (by decide +kernel))
def s_bagG (f : ES) (E18 G M39 Mm : Int) : SS := (sSeq (sSet 2 f)
    (sSeq (sSet 3 (eBin gMod (eCall gMax2 (aCons (eC (.int 0)) (aCons (eBin gSub (eCall gAbs (aCons (eVar 2) aNil)) (eC (.int E18))) aNil))) (eC (.int G))))
    (sSeq (sSet 4 (eBin gAdd (eBin gAdd (eBin gAdd (eBin gMul (eBin gMod (eCall gInt (aCons (eCall gAbs (aCons (eVar 2) aNil)) aNil)) (eC (.int M39))) (eC (.int 10007))) (eBin gMul (eC (.int 509)) (eVar 1))) (eBin gMul (eC (.int 17)) (eCall gInt (aCons (eBin gLt (eVar 2) (eC (.int 0))) aNil)))) (eC (.int 1))))
    (sRetL (nLst (aCons (eVar 3) (aCons (eBin gMod (eCall gInt (aCons (eVar 4) aNil)) (eC (.int Mm))) aNil)))))))
theorem F_bag_eq : F_bag = defF 2 5 (s_bagG (eIf (bCmp gLt (eVar 1) (eCall gLen (aCons (eVar 0) aNil))) (eCall gInt (aCons (eBin gIx (eVar 0) (eVar 1)) aNil)) (eBin gAdd (eBin gMul (eC (.int 89)) (eVar 1)) (eC (.int 41)))) 1000000000000000000 (1000000000000000000000000000000000000000000000000000000000000 * 1000000000000000000000000000000000000000000000000000000000000) 1000000000039 2305843009213693951) := by
  unfold F_bag s_bag s_bagG
  rw [c_18, c_39, c_120, c_61]
theorem e_mulL (i j : Int) (h : i.natAbs < 2 ^ 64) : gMul (.int i) (.int j) = some (.int (i * j)) := e_mul (.inl h)
theorem bag_cell {ns : List Int} {a : Int} (h0 : 0 ≤ a) : ∃ c : Int, (eIf (bCmp gLt (eVar 1) (eCall gLen (aCons (eVar 0) aNil))) (eCall gInt (aCons (eBin gIx (eVar 0) (eVar 1)) aNil)) (eBin gAdd (eBin gMul (eC (.int 89)) (eVar 1)) (eC (.int 41)))) [some (.im (.lst (iD ns))), some (.im (.int a)), none, none, none] = .ok (.im (.int c)) [some (.im (.lst (iD ns))), some (.im (.int a)), none, none, none] := by
  by_cases h : a < ((iD ns).length : Int)
  · obtain ⟨k, rfl⟩ : ∃ k : Nat, a = k := ⟨a.toNat, by omega⟩
    have hk : k < ns.length := by have := h; simp at this; exact this
    refine ⟨ns[k], ?_⟩
    have e : gIx (.lst (iD ns)) (.int k) = some (.int ns[k]) := by simp [gIx, atI, ixN, hk]
    conv => lhs; simp only [eIf, bCmp, eBin, M.bind, eVar, M.ret, val, look, M.opt, eCall, aCons, aNil, vals, looks, gLen, e_lt, h, isBl, decide_true, e, gInt, List.getElem?_cons_zero, List.getElem?_cons_succ]
  · refine ⟨89 * a + 41, ?_⟩
    have e : gMul (.int 89) (.int a) = some (.int (89 * a)) := e_mul (.inl (by decide))
    conv => lhs; simp only [eIf, bCmp, eBin, M.bind, eVar, eC, M.ret, val, look, M.opt, eCall, aCons, aNil, vals, looks, gLen, e_lt, h, isBl, decide_false, e, e_addI, List.getElem?_cons_zero, List.getElem?_cons_succ]
theorem bag_core {E18 G M39 Mm a : Int} {ns : List Int} {f : ES} {c : Int} (hc : f [some (.im (.lst (iD ns))), some (.im (.int a)), none, none, none] = .ok (.im (.int c)) [some (.im (.lst (iD ns))), some (.im (.int a)), none, none, none]) (hG : 0 < G) (h39 : 0 < M39) (hM : 0 < Mm) : ∃ g b : Int, defF 2 5 (s_bagG f E18 G M39 Mm) [.im (.lst (iD ns)), .im (.int a)] = some (.nw [.int (g % G), .int (b % Mm)], []) := by
  have x1 : ∀ i, gMod (.int i) (.int G) = some (.int (i % G)) := fun i => e_mod hG
  have x2 : ∀ i, gMod (.int i) (.int M39) = some (.int (i % M39)) := fun i => e_mod h39
  have x3 : ∀ i, gMod (.int i) (.int Mm) = some (.int (i % Mm)) := fun i => e_mod hM
  have mu1 : ∀ i, gMul (.int i) (.int 10007) = some (.int (i * 10007)) := fun i => e_mul (.inr (by decide))
  have mu2 : ∀ i, gMul (.int 509) (.int i) = some (.int (509 * i)) := fun i => e_mul (.inl (by decide))
  have mu3 : ∀ i, gMul (.int 17) (.int i) = some (.int (17 * i)) := fun i => e_mul (.inl (by decide))
  have f2 : ∀ a b : D, few [a, b] = some [a, b] := fun a b => rfl
  have key := Eq.refl (defF 2 5 (s_bagG f E18 G M39 Mm) [.im (.lst (iD ns)), .im (.int a)])
  conv at key => rhs; simp only [s_bagG, defF, runF, entry, sSeq, sSet, M.bind, hc, imm, setIm, eBin, eVar, eC, M.ret, val, look, M.opt, eCall, aCons, aNil, vals, looks, gAbs, gMax2, gInt, e_lt, x1, x2, x3, mu1, mu2, mu3, e_sub, e_addI, sRetL, nLst, imms, f2, bos,
      List.length_cons, List.length_nil, List.map_cons, List.map_nil, List.cons_append, List.nil_append, List.getElem?_cons_zero, List.getElem?_cons_succ, List.replicate, List.set_cons_zero, List.set_cons_succ, decide_true, Nat.sub_self, Nat.reduceAdd, Nat.reduceSub]
  exact ⟨_, _, key⟩
theorem bag_ok {ns : List Int} {a : Int} (h0 : 0 ≤ a) : ∃ xs, F_bag [.im (.lst (iD ns)), .im (.int a)] = some (.nw xs, []) ∧ BagOk xs := by
  rw [F_bag_eq]
  obtain ⟨c, hc⟩ := bag_cell (ns := ns) h0
  obtain ⟨g, b, e⟩ := bag_core (E18 := 1000000000000000000) (G := 1000000000000000000000000000000000000000000000000000000000000 * 1000000000000000000000000000000000000000000000000000000000000) (M39 := 1000000000039) (Mm := 2305843009213693951) (ns := ns) (a := a) hc (by decide +kernel) (by decide) (by decide)
  have eg : (1000000000000000000000000000000000000000000000000000000000000 : Int) * 1000000000000000000000000000000000000000000000000000000000000 = 1000000000000000000000000000000000000000000000000000000000000000000000000000000000000000000000000000000000000000000000000 := by decide +kernel
  rw [eg] at e
  exact ⟨_, e, _, _, rfl, Int.emod_nonneg _ (by decide), Int.emod_lt_of_pos _ (by decide), Int.emod_nonneg _ (by decide), Int.emod_lt_of_pos _ (by decide)⟩
end Dv
namespace Dv
open PySem PySem.Spec PyProof.Rows L2
theorem nLc_im {v : Nat} {fi : M (List IV)} {gt : M Bool} {fe : ES} {ρ : Rho} {xs : List D} (p : D → Bool) (h : D → D) (hi : fi ρ = .ok (xs.map .im) ρ) (hw : okw [v] ρ = true) (hv : v < ρ.length) (hl : xs.length ≤ 1000000)
    (hd : ∀ d ∈ xs, gt (ρ.set v (some (.im d))) = .ok (p d) (ρ.set v (some (.im d))) ∧ (p d = true → fe (ρ.set v (some (.im d))) = .ok (.im (h d)) (ρ.set v (some (.im d))))) : nLc [v] fi (gSet v) gt fe ρ = .ok ((xs.filter p).map h) ρ := by
  have e := nLc_pure (vs := [v]) (g := gSet v) (gt := gt) (fe := fe) (ds := xs.map .im) (fun d => match d with
    | .im d => p d
    | .tw _ => false) (fun d => match d with
    | .im d => h d
    | .tw _ => .non) hi hw (by simpa using hl) (fun d hd' => by
      obtain ⟨x, hx, rfl⟩ := List.mem_map.mp hd'
      obtain ⟨h1, h2⟩ := hd x hx
      refine ⟨ρ.set v (some (.im x)), ?_, h1, h2, ?_⟩
      · simp [gSet, setIm, wipeR, hv]
      · simp [wipeR])
  rw [e, List.filter_map, List.map_map]
  rfl
theorem bls_of {α : Type} (f : α → Bool) (l : List α) : bls (l.map fun x => D.bl (f x)) = some (l.map f) := by
  have e : (l.map fun x => D.bl (f x)) = (l.map f).map D.bl := by rw [List.map_map]; rfl
  rw [e, bls_map]
theorem asInts_of {α : Type} (f : α → Int) (l : List α) : asInts (l.map fun x => D.int (f x)) = some (l.map f) := by
  have e : (l.map fun x => D.int (f x)) = (l.map f).map D.int := by rw [List.map_map]; rfl
  rw [e, asInts_map]
theorem gAll_of {α : Type} (f : α → Bool) (l : List α) : gAll [.lst (l.map fun x => D.bl (f x))] = some (.bl (l.all f)) := by
  unfold gAll
  simp only [bls_of, List.all_map]
  rfl
theorem cut1 (xs : List D) : cutD xs (some 1) none = xs.drop 1 := by
  unfold cutD HT.sIx
  cases xs with
  | nil => rfl
  | cons a r => simp
end Dv
namespace Dv
open PySem PySem.Spec PyProof.Rows L2
def Lot (n : Int) (l : List Int) : Prop := l.Pairwise (· < ·) ∧ ∀ x ∈ l, 0 ≤ x ∧ x < n
def bN (l : List Int) : Nat := (l.map fun x => 2 ^ x.toNat).sum
theorem bN_dvd (m : Nat) : ∀ l : List Int, (∀ x ∈ l, (m : Int) ≤ x) → 2 ^ m ∣ bN l
  | [], _ => ⟨0, rfl⟩
  | x :: r, h => by
    obtain ⟨q, hq⟩ := bN_dvd m r fun y hy => h y (List.mem_cons_of_mem _ hy)
    have hx := h x List.mem_cons_self
    have e : bN (x :: r) = 2 ^ x.toNat + bN r := by unfold bN; rw [List.map_cons, List.sum_cons]
    rw [e]
    exact Nat.dvd_add (Nat.pow_dvd_pow 2 (by omega)) ⟨q, hq⟩
theorem bN_testBit (k : Nat) : ∀ l : List Int, l.Pairwise (· < ·) → (∀ x ∈ l, 0 ≤ x) → (bN l).testBit k = decide ((k : Int) ∈ l)
  | [], _, _ => by simp [bN]
  | x :: r, hp, h => by
    obtain ⟨h1, h2⟩ := List.pairwise_cons.mp hp
    have ih := bN_testBit k r h2 fun y hy => h y (List.mem_cons_of_mem _ hy)
    have hx := h x List.mem_cons_self
    have e : bN (x :: r) = 2 ^ x.toNat + bN r := by unfold bN; rw [List.map_cons, List.sum_cons]
    obtain ⟨q, hq⟩ := bN_dvd (x.toNat + 1) r fun y hy => by have := h1 y hy; omega
    have e2 : 2 ^ x.toNat + bN r = bN r ||| 2 ^ x.toNat := by
      rw [hq, Nat.add_comm, Nat.two_pow_add_eq_or_of_lt (Nat.pow_lt_pow_right (by decide) (Nat.lt_succ_self _))]
    rw [e, e2, Nat.testBit_or, ih, Nat.testBit_two_pow]
    by_cases hk : x.toNat = k
    · have : (k : Int) = x := by omega
      simp [hk, this]
    · have : ¬ (k : Int) = x := by omega
      simp [hk, this]
theorem Lot.nn {n : Int} {l : List Int} (h : Lot n l) : ∀ x ∈ l, 0 ≤ x := fun x hx => (h.2 x hx).1
theorem Lot.bit {n : Int} {l : List Int} (h : Lot n l) (k : Nat) : (bN l).testBit k = decide ((k : Int) ∈ l) := bN_testBit k l h.1 h.nn
theorem Lot.filter {n : Int} {l : List Int} (h : Lot n l) (p : Int → Bool) : Lot n (l.filter p) := ⟨h.1.filter p, fun x hx => h.2 x (List.mem_filter.mp hx).1⟩
theorem Lot.uniq {n m : Int} {a b : List Int} (ha : Lot n a) (hb : Lot m b) (h : ∀ k, k ∈ a ↔ k ∈ b) : a = b := lt_uniq ha.1 hb.1 h
def meet (a b : List Int) : List Int := a.filter fun x => decide (x ∈ b)
theorem mem_meet {a b : List Int} {k : Int} : k ∈ meet a b ↔ k ∈ a ∧ k ∈ b := by unfold meet; rw [List.mem_filter]; simp
theorem Lot.mt {n : Int} {a : List Int} (ha : Lot n a) (b : List Int) : Lot n (meet a b) := ha.filter _
theorem Lot.bits_and {n m : Int} {a b : List Int} (ha : Lot n a) (hb : Lot m b) : bN a &&& bN b = bN (meet a b) := by
  apply Nat.eq_of_testBit_eq
  intro k
  rw [Nat.testBit_and, ha.bit, hb.bit, (ha.mt b).bit]
  have := @mem_meet a b k
  by_cases h1 : (k : Int) ∈ a <;> by_cases h2 : (k : Int) ∈ b <;> simp [h1, h2, this]
theorem Lot.bits_inj {n m : Int} {a b : List Int} (ha : Lot n a) (hb : Lot m b) (h : bN a = bN b) : a = b := by
  refine ha.uniq hb fun k => ?_
  by_cases hk : 0 ≤ k
  · obtain ⟨j, rfl⟩ : ∃ j : Nat, k = j := ⟨k.toNat, by omega⟩
    have e := congrArg (fun z => Nat.testBit z j) h
    simp only [ha.bit, hb.bit] at e
    simpa using e
  · exact ⟨fun q => absurd (ha.nn _ q) hk, fun q => absurd (hb.nn _ q) hk⟩
theorem bN_nil : bN [] = 0 := rfl
theorem Lot.bits_zero {n : Int} {a : List Int} (ha : Lot n a) : bN a = 0 ↔ a = [] := by
  constructor
  · intro h
    exact ha.bits_inj (b := []) (m := 0) ⟨.nil, fun _ h => nomatch h⟩ (h.trans bN_nil.symm)
  · rintro rfl; rfl
theorem meet_comm {n m : Int} {a b : List Int} (ha : Lot n a) (hb : Lot m b) : meet a b = meet b a := (ha.mt b).uniq (hb.mt a) fun k => by
  rw [mem_meet, mem_meet, and_comm]
theorem filter_len {p : Int → Bool} {l : List Int} (h : (l.filter p).length = l.length) : l.filter p = l := List.filter_eq_self.mpr (List.length_filter_eq_length_iff.mp h)
theorem asI_and (a b : Nat) : Builtin.bitAnd (a : Int) (b : Int) = ((a &&& b : Nat) : Int) := by
  unfold Builtin.bitAnd
  rw [decide_eq_true (Int.natCast_nonneg a), decide_eq_true (Int.natCast_nonneg b)]
  rfl
theorem asI_or (a b : Nat) : Builtin.bitOr (a : Int) (b : Int) = ((a ||| b : Nat) : Int) := by
  rw [L2.bitOr_nn (Int.natCast_nonneg a) (Int.natCast_nonneg b)]; rfl
def picks (n : Nat) (p : Nat → Bool) : List Int := ((List.range n).filter p).map fun (i : Nat) => (i : Int)
theorem picks_lot (n : Nat) (p : Nat → Bool) : Lot n (picks n p) := by
  constructor
  · unfold picks
    rw [List.pairwise_map]
    exact (List.pairwise_lt_range.filter p).imp fun h => by omega
  · intro x hx
    obtain ⟨i, hi, rfl⟩ := List.mem_map.mp hx
    have := List.mem_range.mp (List.mem_filter.mp hi).1
    omega
theorem mem_picks {n : Nat} {p : Nat → Bool} {k : Int} : k ∈ picks n p ↔ ∃ i : Nat, k = i ∧ i < n ∧ p i = true := by
  unfold picks
  rw [List.mem_map]
  constructor
  · rintro ⟨i, hi, rfl⟩
    obtain ⟨h1, h2⟩ := List.mem_filter.mp hi
    exact ⟨i, rfl, List.mem_range.mp h1, h2⟩
  · rintro ⟨i, rfl, h1, h2⟩
    exact ⟨i, List.mem_filter.mpr ⟨List.mem_range.mpr h1, h2⟩, rfl⟩
theorem for_idx {gg : IV → M Unit} {f : SS} {N : Nat} (I : List IV → Rho → Prop) : ∀ (ds pre : List IV) (ρ : Rho), pre.length + ds.length ≤ N → I pre ρ →
    (∀ pre d ρ, d ∈ ds → pre.length < N → I pre ρ → ∃ ρ1 fl ρ2, gg d ρ = .ok () ρ1 ∧ f ρ1 = .ok fl ρ2 ∧ (fl = .nx ∨ fl = .ct) ∧ I (pre ++ [d]) ρ2) → ∃ ρ', forL gg f ds ρ = .ok .nx ρ' ∧ I (pre ++ ds) ρ'
  | [], pre, ρ, _, i, _ => ⟨ρ, rfl, by rw [List.append_nil]; exact i⟩
  | d :: ds, pre, ρ, hl, i, h => by
    rw [List.length_cons] at hl
    obtain ⟨ρ1, fl, ρ2, h1, h2, h3, h4⟩ := h pre d ρ List.mem_cons_self (by omega) i
    obtain ⟨ρ', e1, e2⟩ := for_idx I ds (pre ++ [d]) ρ2 (by rw [List.length_append, List.length_singleton]; omega) h4 fun pre d ρ hd => h pre d ρ (List.mem_cons_of_mem _ hd)
    rw [List.append_assoc] at e2
    refine ⟨ρ', ?_, e2⟩
    unfold forL
    simp only [M.bind, h1, h2]
    rcases h3 with rfl | rfl <;> exact e1
theorem sFor_ok {fi : M (List IV)} {gg : IV → M Unit} {f : SS} {ρ ρ1 : Rho} {ds : List IV} {r : Res Fl} (h : fi ρ = .ok ds ρ1) (h2 : forL gg f ds ρ1 = r) : sFor fi gg f ρ = r := by
  unfold sFor M.bind
  rw [h]
  exact h2
theorem repr_ok {d : D} (h1 : pl 50 d = true) (h2 : cost d ≤ 16000000) : gRepr [d] = some (.str (shownD d)) := by
  show (if (pl 50 d && decide (cost d ≤ 16000000)) = true then _ else _) = _
  rw [if_pos (by rw [h1, decide_eq_true h2]; rfl)]
theorem ne_self (x : Str) : gNe (.str x) (.str x) = some (.bl false) := by simp [gNe, twoS]
theorem eq_self_ (x : Str) : gEq (.str x) (.str x) = some (.bl true) := by simp [gEq, twoS]
theorem bls_fine {α : Type} (f : α → Bool) : ∀ (l : List α), pls 49 (l.map fun x => D.bl (f x)) = true ∧ costs (l.map fun x => D.bl (f x)) = 7 * l.length
  | [] => ⟨by rw [List.map_nil, pls.eq_def], by simp [costs]⟩
  | a :: l => by
    obtain ⟨h1, h2⟩ := bls_fine f l
    constructor
    · rw [List.map_cons, pls.eq_def]
      simp only [Bool.and_eq_true]
      exact ⟨pl_bl _ _, h1⟩
    · rw [List.map_cons, costs, h2, cost, List.length_cons]; omega
theorem rng1_ok {n : Int} (h0 : 0 ≤ n) (h1 : n < 1000000) : rng1 [.int n] = some (((List.range n.toNat).map fun (i : Nat) => D.int (i : Int)).map .im) := by
  have e : rangeOk n = true := by
    unfold rangeOk
    rw [Bool.and_eq_true]
    exact ⟨decide_eq_true (by omega), decide_eq_true (by omega)⟩
  show (if rangeOk n = true then _ else _) = _
  rw [if_pos e, List.map_map]
  rfl
theorem ix_nat {xs : List D} {r : Int} (h0 : 0 ≤ r) (h1 : r < xs.length) : ∃ d, d ∈ xs ∧ gIx (.lst xs) (.int r) = some d := by
  obtain ⟨k, rfl⟩ : ∃ k : Nat, r = k := ⟨r.toNat, by omega⟩
  have hk : k < xs.length := by omega
  exact ⟨xs[k], List.getElem_mem hk, by simp [gIx, atI, ixN, hk]⟩
theorem sub_ints {L : List Int} {xs : List D} (h : (xs.map IV.im).Sublist ((L.map D.int).map IV.im)) : ∃ l, xs = iD l ∧ l.Sublist L := by
  have inj : ∀ {a b : List D}, a.map IV.im = b.map IV.im → a = b := fun {a b} e => by
    have q := congrArg (List.map fun z => match z with
      | IV.im d => d
      | IV.tw _ => D.non) e
    simpa [List.map_map, Function.comp_def] using q
  obtain ⟨l', h1, h2⟩ := List.sublist_map_iff.mp h
  obtain ⟨l, h3, h4⟩ := List.sublist_map_iff.mp h1
  exact ⟨l, by rw [inj h2, h4], h3⟩
theorem F2_im : ∀ {sel : List IV} {xs : List D}, F2 (fun d x => d = IV.im x) sel xs → sel = xs.map IV.im
  | _, _, .nil => rfl
  | _, _, .cons h r => by rw [h, F2_im r]; rfl
end Dv
namespace K01
open PySem PySem.Spec PyProof.Rows L2 Dv
def top (i : Nat) : Stmt := PySem.Challenge.pw_oneaxis_k01_whole_two_lots.main.body.getD i (.Pass ⟨0, 0, 0, 0⟩)
abbrev st__law_bag : Stmt := top 22
abbrev st_is_whole : Stmt := top 7
abbrev st_is_within : Stmt := top 8
abbrev st_require_size : Stmt := top 13
abbrev st_is_option : Stmt := top 9
abbrev st_is_lot_of : Stmt := top 10
abbrev st_require_any_lot : Stmt := top 14
abbrev st_require_two : Stmt := top 15
abbrev st_bits : Stmt := top 11
abbrev st_standing : Stmt := top 17
abbrev st_left_out : Stmt := top 20
abbrev st_is_lot : Stmt := top 16
abbrev st__law_draw : Stmt := top 23
abbrev st__law_one_of : Stmt := top 24
abbrev st__law_lot : Stmt := top 25
abbrev st_lot_of : Stmt := top 12
abbrev st_together : Stmt := top 18
abbrev st_common : Stmt := top 19
abbrev st__law_word : Stmt := top 26
abbrev st__law_right : Stmt := top 27
abbrev st_law : Stmt := top 28
abbrev FnP (K : PySem.W.Frag) (x : Str) (st : Stmt) (f : Addr) (fd : FuncData) : Prop := FunD K x x (defArgs st) (defBody st) (defScope st) [] [] f fd
def s__law_bag : SS := (sSeq (sSet 2 (eIf (bCmp gLt (eVar 1) (eCall gLen (aCons (eVar 0) aNil))) (eCall gInt (aCons (eBin gIx (eVar 0) (eVar 1)) aNil)) (eBin gAdd (eBin gMul (eC (.int 89)) (eVar 1)) (eC (.int 41)))))
    (sSeq (sSet 3 (eBin gMod (eCall gMax2 (aCons (eC (.int 0)) (aCons (eBin gSub (eCall gAbs (aCons (eVar 2) aNil)) (eBin gPow (eC (.int 10)) (eC (.int 18)))) aNil))) (eBin gMul (eBin gPow (eC (.int 10)) (eC (.int 60))) (eBin gPow (eC (.int 10)) (eC (.int 60))))))
    (sSeq (sSet 4 (eBin gAdd (eBin gAdd (eBin gAdd (eBin gMul (eBin gMod (eCall gInt (aCons (eCall gAbs (aCons (eVar 2) aNil)) aNil)) (eBin gAdd (eBin gPow (eC (.int 10)) (eC (.int 12))) (eC (.int 39)))) (eC (.int 10007))) (eBin gMul (eC (.int 509)) (eVar 1))) (eBin gMul (eC (.int 17)) (eCall gInt (aCons (eBin gLt (eVar 2) (eC (.int 0))) aNil)))) (eC (.int 1))))
    (sRetL (nLst (aCons (eVar 3) (aCons (eBin gMod (eCall gInt (aCons (eVar 4) aNil)) (eBin gSub (eBin gPow (eC (.int 2)) (eC (.int 61))) (eC (.int 1)))) aNil)))))))
def F__law_bag : FD := defF 2 5 s__law_bag
def s_is_whole : SS := (sRet (eAnd (eUn (gIsi "int") (eVar 0)) (eAnd (eNot (eUn (gIsi "bool") (eVar 0))) (eChain gLt gLt (eUn gNeg (eC (.int (1000000000000000000000000000000000000000000000000000000000000)))) (eVar 0) (eC (.int (1000000000000000000000000000000000000000000000000000000000000)))))))
def F_is_whole : FD := defF 1 1 s_is_whole
def s_is_within : SS := (sRet (eAnd (eUser F_is_whole (aCons (eVar 0) aNil)) (eChain gLe gLe (eVar 1) (eVar 0) (eVar 2))))
def F_is_within : FD := defF 3 3 s_is_within
def s_require_size : SS := (sIf (bNot (bVal (eUser F_is_within (aCons (eVar 0) (aCons (eC (.int 1)) (aCons (eC (.int (9))) aNil))))))
    sNever
    sNil)
def F_require_size : FD := defF 1 1 s_require_size
def s_is_option : SS := (sRet (eUser F_is_within (aCons (eVar 1) (aCons (eC (.int 0)) (aCons (eBin gSub (eVar 0) (eC (.int 1))) aNil)))))
def F_is_option : FD := defF 2 2 s_is_option
def c_is_lot_of_1 : M (List D) := nLc [2, 3] (iCallI gZip (aCons (eVar 1) (aCons (eSl (eVar 1) (oSome (eC (.int 1))) oNone) aNil))) (gTupD 2 (gsCons (gSet 2) (gsCons (gSet 3) gsNil))) bYes (eBin gLt (eVar 2) (eVar 3))
def c_is_lot_of_2 : M (List D) := nLc [2] (iSeq (eVar 1)) (gSet 2) bYes (eUser F_is_option (aCons (eVar 0) (aCons (eVar 2) aNil)))
def s_is_lot_of : SS := (sSeq (sIf (bOr (bNot (bVal (eUn (gIsi "tuple") (eVar 1)))) (bNot (bVal (eCall gAll (aCons (eN c_is_lot_of_2) aNil)))))
    (sRet (eC (.bl false)))
    sNil)
    (sRet (eCall gAll (aCons (eN c_is_lot_of_1) aNil))))
def F_is_lot_of : FD := defF 2 4 s_is_lot_of
def s_require_any_lot : SS := (sIf (bNot (bVal (eUser F_is_lot_of (aCons (eVar 0) (aCons (eVar 1) aNil)))))
    sNever
    sNil)
def F_require_any_lot : FD := defF 2 2 s_require_any_lot
def s_require_two : SS := (sSeq (sExpr (eUser F_require_size (aCons (eVar 0) aNil)))
    (sSeq (sExpr (eUser F_require_any_lot (aCons (eVar 0) (aCons (eVar 1) aNil))))
    (sExpr (eUser F_require_any_lot (aCons (eVar 0) (aCons (eVar 2) aNil))))))
def F_require_two : FD := defF 3 3 s_require_two
def c_bits_1 : M (List D) := nLc [1] (iSeq (eVar 0)) (gSet 1) bYes (eBin gShl (eC (.int 1)) (eVar 1))
def s_bits : SS := (sRet (eCall gSum (aCons (eN c_bits_1) aNil)))
def F_bits : FD := defF 1 2 s_bits
def s_standing : SS := (sSeq (sExpr (eUser F_require_two (aCons (eVar 0) (aCons (eVar 1) (aCons (eVar 2) aNil)))))
    (sSeq (sIf (bCmp gEq (eVar 1) (eVar 2))
    (sRet (eC (.str "equal")))
    sNil)
    (sSeq (sPar 3 4 (aCons (eUser F_bits (aCons (eVar 1) aNil)) (aCons (eUser F_bits (aCons (eVar 2) aNil)) aNil)))
    (sSeq (sIf (bCmp gEq (eBin gAnd (eVar 3) (eVar 4)) (eC (.int 0)))
    (sRet (eC (.str "apart")))
    sNil)
    (sSeq (sIf (bCmp gEq (eBin gAnd (eVar 3) (eVar 4)) (eVar 3))
    (sRet (eC (.str "within")))
    sNil)
    (sRet (eIf (bCmp gEq (eBin gAnd (eVar 3) (eVar 4)) (eVar 4)) (eC (.str "around")) (eC (.str "across")))))))))
def F_standing : FD := defF 3 5 s_standing
def c_left_out_1 : M (List D) := nLc [2] (iCall rng1 (aCons (eVar 0) aNil)) (gSet 2) (bCmp gNotIn (eVar 2) (eVar 1)) (eVar 2)
def s_left_out : SS := (sSeq (sExpr (eUser F_require_size (aCons (eVar 0) aNil)))
    (sSeq (sExpr (eUser F_require_any_lot (aCons (eVar 0) (aCons (eVar 1) aNil))))
    (sRet (eCall gTuple (aCons (eN c_left_out_1) aNil)))))
def F_left_out : FD := defF 2 3 s_left_out
def s_is_lot : SS := (sSeq (sExpr (eUser F_require_size (aCons (eVar 0) aNil)))
    (sRet (eUser F_is_lot_of (aCons (eVar 0) (aCons (eVar 1) aNil)))))
def F_is_lot : FD := defF 2 2 s_is_lot
def s__law_draw : SS := (sSeq (sIf (bCmp gGt (eBin gIx (eVar 0) (eC (.int 0))) (eC (.int 0)))
    (sSeq (sSet 2 (eBin gMod (eCall gInt (aCons (eBin gIx (eVar 0) (eC (.int 0))) aNil)) (eVar 1)))
    (sSeq (sSetIx 0 (eBin gDiv (eBin gIx (eVar 0) (eC (.int 0))) (eVar 1)) (eC (.int 0)))
    (sRet (eVar 2))))
    sNil)
    (sSeq (sSetIx 0 (eBin gMod (eCall gInt (aCons (eBin gAdd (eBin gMul (eBin gIx (eVar 0) (eC (.int 1))) (eC (.int 6364136223))) (eC (.int 1442695041))) aNil)) (eBin gSub (eBin gPow (eC (.int 2)) (eC (.int 61))) (eC (.int 1)))) (eC (.int 1)))
    (sRet (eBin gMod (eCall gInt (aCons (eBin gDiv (eBin gIx (eVar 0) (eC (.int 1))) (eC (.int 65537))) aNil)) (eVar 1)))))
def F__law_draw : FD := defF 2 3 s__law_draw
def s__law_one_of : SS := (sRet (eBin gIx (eVar 1) (eUser F__law_draw (aCons (eVar 0) (aCons (eCall gLen (aCons (eVar 1) aNil)) aNil)))))
def F__law_one_of : FD := defF 2 2 s__law_one_of
def c__law_lot_1 : M (List D) := nLc [3] (iCall rng1 (aCons (eVar 1) aNil)) (gSet 3) (bAnd (bCmp gEq (eUser F__law_draw (aCons (eVar 0) (aCons (eVar 2) aNil))) (eC (.int 0))) (bCmp gGt (eUser F__law_draw (aCons (eVar 0) (aCons (eC (.int 9)) aNil))) (eC (.int 0)))) (eVar 3)
def s__law_lot : SS := (sSeq (sSet 2 (eUser F__law_one_of (aCons (eVar 0) (aCons (eN (nLst (aCons (eC (.int 1)) (aCons (eC (.int 2)) (aCons (eC (.int 2)) (aCons (eC (.int 5)) aNil)))))) aNil))))
    (sRet (eCall gTuple (aCons (eN c__law_lot_1) aNil))))
def F__law_lot : FD := defF 2 4 s__law_lot
def c_lot_of_1 : M (List D) := nLc [2] (iCall rng1 (aCons (eVar 1) aNil)) (gSet 2) (bVal (eBin gAnd (eBin gShr (eVar 0) (eVar 2)) (eC (.int 1)))) (eVar 2)
def s_lot_of : SS := (sRet (eCall gTuple (aCons (eN c_lot_of_1) aNil)))
def F_lot_of : FD := defF 2 3 s_lot_of
def s_together : SS := (sSeq (sExpr (eUser F_require_two (aCons (eVar 0) (aCons (eVar 1) (aCons (eVar 2) aNil)))))
    (sRet (eUser F_lot_of (aCons (eBin gOr (eUser F_bits (aCons (eVar 1) aNil)) (eUser F_bits (aCons (eVar 2) aNil))) (aCons (eVar 0) aNil)))))
def F_together : FD := defF 3 3 s_together
def s_common : SS := (sSeq (sExpr (eUser F_require_two (aCons (eVar 0) (aCons (eVar 1) (aCons (eVar 2) aNil)))))
    (sRet (eUser F_lot_of (aCons (eBin gAnd (eUser F_bits (aCons (eVar 1) aNil)) (eUser F_bits (aCons (eVar 2) aNil))) (aCons (eVar 0) aNil)))))
def F_common : FD := defF 3 3 s_common
def c__law_word_1 : M (List D) := nLc [3] (iSeq (eVar 0)) (gSet 3) (bCmp gIn (eVar 3) (eVar 1)) (eVar 3)
def s__law_word : SS := (sSeq (sSetL 2 c__law_word_1)
    (sSeq (sIf (bCmp gEq (eVar 0) (eVar 1))
    (sRet (eC (.str "equal")))
    sNil)
    (sSeq (sIf (bCmp gEq (eVar 2) (eN (nLst aNil)))
    (sRet (eC (.str "apart")))
    sNil)
    (sSeq (sIf (bCmp gEq (eCall gLen (aCons (eVar 2) aNil)) (eCall gLen (aCons (eVar 0) aNil)))
    (sRet (eC (.str "within")))
    sNil)
    (sRet (eIf (bCmp gEq (eCall gLen (aCons (eVar 2) aNil)) (eCall gLen (aCons (eVar 1) aNil))) (eC (.str "around")) (eC (.str "across"))))))))
def F__law_word : FD := defF 2 4 s__law_word
def c__law_right_1 : M (List D) := nLc [8] (iSeq (eVar 6)) (gSet 8) bYes (eUser F_is_lot (aCons (eVar 1) (aCons (eVar 8) aNil)))
def c__law_right_2 : M (List D) := nLc [2] (iSeq (eVar 8)) (gSet 2) (bNot (bBl (eChain gLe gLt (eC (.int 0)) (eVar 2) (eVar 1)))) (eVar 2)
def c__law_right_3 : M (List D) := nLc [2] (iSeq (eVar 8)) (gSet 2) (bOr (bNot (bVal (eUn (gIsi "int") (eVar 2)))) (bVal (eUn (gIsi "bool") (eVar 2)))) (eVar 2)
def l__law_right_4 : SS := sFor (iSeq (eVar 6)) (gSet 8)
    (sSeq (sSet 9 (eAnd (eUn (gIsi "tuple") (eVar 8)) (eBin gEq (eN c__law_right_3) (eN (nLst aNil)))))
    (sExpr (eMt 7 cAppend (aCons (eAnd (eVar 9) (eAnd (eBin gEq (eN c__law_right_2) (eN (nLst aNil))) (eBin gEq (eN (nCall gList (aCons (eVar 8) aNil))) (eN (nCall gSortedS (aCons (eCall gSetI (aCons (eVar 8) aNil)) aNil)))))) aNil))))
def c__law_right_5 : M (List D) := nLc [10] (iCall rng1 (aCons (eVar 1) aNil)) (gSet 10) (bCmp gNotIn (eVar 10) (eVar 2)) (eVar 10)
def c__law_right_6 : M (List D) := nLc [10] (iSeq (eVar 2)) (gSet 10) (bCmp gIn (eVar 10) (eVar 3)) (eVar 10)
def c__law_right_7 : M (List D) := nLc [10] (iCall rng1 (aCons (eVar 1) aNil)) (gSet 10) (bCmp gNotIn (eVar 10) (eVar 2)) (eVar 10)
def s__law_right : SS := (sSeq (sSet 1 (eUser F__law_one_of (aCons (eVar 0) (aCons (eN (nLst (aCons (eC (.int 1)) (aCons (eC (.int 2)) (aCons (eC (.int 4)) (aCons (eC (.int 7)) (aCons (eC (.int 9)) aNil))))))) aNil))))
    (sSeq (sSet 2 (eUser F__law_lot (aCons (eVar 0) (aCons (eVar 1) aNil))))
    (sSeq (sSet 3 (eUser F__law_one_of (aCons (eVar 0) (aCons (eN (nLst (aCons (eUser F__law_lot (aCons (eVar 0) (aCons (eVar 1) aNil))) (aCons (eSl (eVar 2) (oSome (eC (.int 1))) oNone) (aCons (eVar 2) (aCons (eTupRg (rOne (eVar 1))) (aCons (eCall gTuple (aCons (eN c__law_right_7) aNil)) aNil))))))) aNil))))
    (sSeq (sSet 4 (eN (nLst (aCons (eUser F_standing (aCons (eVar 1) (aCons (eVar 2) (aCons (eVar 3) aNil)))) (aCons (eUser F_standing (aCons (eVar 1) (aCons (eVar 3) (aCons (eVar 2) aNil)))) (aCons (eUser F_together (aCons (eVar 1) (aCons (eVar 2) (aCons (eVar 3) aNil)))) (aCons (eUser F_common (aCons (eVar 1) (aCons (eVar 2) (aCons (eVar 3) aNil)))) (aCons (eUser F_left_out (aCons (eVar 1) (aCons (eVar 2) aNil))) aNil))))))))
    (sSeq (sSet 5 (eN (nLst (aCons (eUser F__law_word (aCons (eVar 2) (aCons (eVar 3) aNil))) (aCons (eUser F__law_word (aCons (eVar 3) (aCons (eVar 2) aNil))) (aCons (eCall gTuple (aCons (eN (nCall gSortedS (aCons (eCall gSetI (aCons (eBin gAdd (eVar 2) (eVar 3)) aNil)) aNil))) aNil)) (aCons (eCall gTuple (aCons (eN c__law_right_6) aNil)) aNil)))))))
    (sSeq (sIf (bCmp gNe (eCall gRepr (aCons (eVar 4) aNil)) (eCall gRepr (aCons (eBin gAdd (eVar 5) (eN (nLst (aCons (eCall gTuple (aCons (eN c__law_right_5) aNil)) aNil)))) aNil)))
    (sRet (eC (.bl false)))
    sNil)
    (sSeq (sSet 6 (eN (nLst (aCons (eVar 2) (aCons (eN (nCall gList (aCons (eVar 2) aNil))) (aCons (eUn gRev (eVar 2)) (aCons (eBin gAdd (eVar 2) (eSl (eVar 2) (oSome (eUn gNeg (eC (.int 1)))) oNone)) (aCons (eBin gAdd (eVar 2) (eTup (aCons (eVar 1) aNil))) (aCons (eBin gAdd (eTup (aCons (eUn gNeg (eC (.int 1))) aNil)) (eVar 2)) (aCons (eBin gAdd (eVar 2) (eTup (aCons (eC (.bl true)) aNil))) (aCons (eC .non) (aCons (eC (.int 0)) (aCons (eC (.str "0")) (aCons eDict0 (aCons (eBin gAdd (eVar 2) (eTup (aCons (eC (.str "0")) aNil))) (aCons (eTup (aCons (eC .non) aNil)) (aCons (eTup (aCons (eBin gPow (eC (.int 10)) (eC (.int 60))) aNil)) aNil)))))))))))))))))
    (sSeq (sOwn 7 (nLst aNil))
    (sSeq l__law_right_4
    (sRet (eBin gEq (eCall gRepr (aCons (eN c__law_right_1) aNil)) (eCall gRepr (aCons (eVar 7) aNil)))))))))))))
def F__law_right : FD := defF 1 11 s__law_right
def c_law_1 : M (List D) := nLc [4] (iCall rng1 (aCons (eC (.int 8)) aNil)) (gSet 4) (bNot (bVal (eUser F__law_right (aCons (eVar 2) aNil)))) (eC (.int 1))
def l_law_2 : SS := sFor (iCall rng1 (aCons (eCall gMax2 (aCons (eC (.int 1)) (aCons (eCall gMin2 (aCons (eC (.int 3)) (aCons (eCall gLen (aCons (eVar 0) aNil)) aNil))) aNil))) aNil)) (gSet 1)
    (sSeq (sOwn 2 (nUser F__law_bag (aCons (eVar 0) (aCons (eVar 1) aNil))))
    (sIf (bCmp gNe (eN c_law_1) (eN (nLst aNil)))
    (sRet (eC (.bl false)))
    sNil))
def s_law : SS := (sSeq l_law_2
    (sSeq (sSet 3 (eN (nLst (aCons (eUser F_standing (aCons (eC (.int 5)) (aCons (eTup aNil) (aCons (eTup (aCons (eC (.int 1)) aNil)) aNil)))) (aCons (eUser F_standing (aCons (eC (.int 5)) (aCons (eTup aNil) (aCons (eTup aNil) aNil)))) (aCons (eUser F_standing (aCons (eC (.int 5)) (aCons (eTup (aCons (eC (.int 0)) (aCons (eC (.int 1)) aNil))) (aCons (eTup (aCons (eC (.int 1)) (aCons (eC (.int 2)) aNil))) aNil)))) (aCons (eUser F_left_out (aCons (eC (.int 1)) (aCons (eTup aNil) aNil))) (aCons (eUser F_is_lot (aCons (eC (.int 3)) (aCons (eTup aNil) aNil))) aNil))))))))
    (sRet (eBin gEq (eCall gRepr (aCons (eVar 3) aNil)) (eCall gRepr (aCons (eN (nLst (aCons (eC (.str "apart")) (aCons (eC (.str "equal")) (aCons (eC (.str "across")) (aCons (eTup (aCons (eC (.int 0)) aNil)) (aCons (eC (.bl true)) aNil))))))) aNil))))))
def F_law : FD := defF 1 5 s_law
structure W (K : PySem.W.Frag) (mg : Str → Option Value) where
  f__law_bag : Addr
  d__law_bag : FuncData
  F__law_bag : FnP K "_law_bag" st__law_bag f__law_bag d__law_bag
  g__law_bag : mg "_law_bag" = some (.ref f__law_bag)
  f_is_whole : Addr
  d_is_whole : FuncData
  F_is_whole : FnP K "is_whole" st_is_whole f_is_whole d_is_whole
  g_is_whole : mg "is_whole" = some (.ref f_is_whole)
  f_is_within : Addr
  d_is_within : FuncData
  F_is_within : FnP K "is_within" st_is_within f_is_within d_is_within
  g_is_within : mg "is_within" = some (.ref f_is_within)
  f_require_size : Addr
  d_require_size : FuncData
  F_require_size : FnP K "require_size" st_require_size f_require_size d_require_size
  g_require_size : mg "require_size" = some (.ref f_require_size)
  f_is_option : Addr
  d_is_option : FuncData
  F_is_option : FnP K "is_option" st_is_option f_is_option d_is_option
  g_is_option : mg "is_option" = some (.ref f_is_option)
  f_is_lot_of : Addr
  d_is_lot_of : FuncData
  F_is_lot_of : FnP K "is_lot_of" st_is_lot_of f_is_lot_of d_is_lot_of
  g_is_lot_of : mg "is_lot_of" = some (.ref f_is_lot_of)
  f_require_any_lot : Addr
  d_require_any_lot : FuncData
  F_require_any_lot : FnP K "require_any_lot" st_require_any_lot f_require_any_lot d_require_any_lot
  g_require_any_lot : mg "require_any_lot" = some (.ref f_require_any_lot)
  f_require_two : Addr
  d_require_two : FuncData
  F_require_two : FnP K "require_two" st_require_two f_require_two d_require_two
  g_require_two : mg "require_two" = some (.ref f_require_two)
  f_bits : Addr
  d_bits : FuncData
  F_bits : FnP K "bits" st_bits f_bits d_bits
  g_bits : mg "bits" = some (.ref f_bits)
  f_standing : Addr
  d_standing : FuncData
  F_standing : FnP K "standing" st_standing f_standing d_standing
  g_standing : mg "standing" = some (.ref f_standing)
  f_left_out : Addr
  d_left_out : FuncData
  F_left_out : FnP K "left_out" st_left_out f_left_out d_left_out
  g_left_out : mg "left_out" = some (.ref f_left_out)
  f_is_lot : Addr
  d_is_lot : FuncData
  F_is_lot : FnP K "is_lot" st_is_lot f_is_lot d_is_lot
  g_is_lot : mg "is_lot" = some (.ref f_is_lot)
  f__law_draw : Addr
  d__law_draw : FuncData
  F__law_draw : FnP K "_law_draw" st__law_draw f__law_draw d__law_draw
  g__law_draw : mg "_law_draw" = some (.ref f__law_draw)
  f__law_one_of : Addr
  d__law_one_of : FuncData
  F__law_one_of : FnP K "_law_one_of" st__law_one_of f__law_one_of d__law_one_of
  g__law_one_of : mg "_law_one_of" = some (.ref f__law_one_of)
  f__law_lot : Addr
  d__law_lot : FuncData
  F__law_lot : FnP K "_law_lot" st__law_lot f__law_lot d__law_lot
  g__law_lot : mg "_law_lot" = some (.ref f__law_lot)
  f_lot_of : Addr
  d_lot_of : FuncData
  F_lot_of : FnP K "lot_of" st_lot_of f_lot_of d_lot_of
  g_lot_of : mg "lot_of" = some (.ref f_lot_of)
  f_together : Addr
  d_together : FuncData
  F_together : FnP K "together" st_together f_together d_together
  g_together : mg "together" = some (.ref f_together)
  f_common : Addr
  d_common : FuncData
  F_common : FnP K "common" st_common f_common d_common
  g_common : mg "common" = some (.ref f_common)
  f__law_word : Addr
  d__law_word : FuncData
  F__law_word : FnP K "_law_word" st__law_word f__law_word d__law_word
  g__law_word : mg "_law_word" = some (.ref f__law_word)
  f__law_right : Addr
  d__law_right : FuncData
  F__law_right : FnP K "_law_right" st__law_right f__law_right d__law_right
  g__law_right : mg "_law_right" = some (.ref f__law_right)
  f_law : Addr
  d_law : FuncData
  F_law : FnP K "law" st_law f_law d_law
  g_law : mg "law" = some (.ref f_law)
  n_abs : mg "abs" = none
  n_all : mg "all" = none
  n_bool : mg "bool" = none
  n_int : mg "int" = none
  n_isinstance : mg "isinstance" = none
  n_len : mg "len" = none
  n_list : mg "list" = none
  n_max : mg "max" = none
  n_min : mg "min" = none
  n_range : mg "range" = none
  n_repr : mg "repr" = none
  n_set : mg "set" = none
  n_sorted : mg "sorted" = none
  n_sum : mg "sum" = none
  n_tuple : mg "tuple" = none
  n_zip : mg "zip" = none
  c_GREAT : ∃ t, mg "GREAT" = some (.int 1000000000000000000000000000000000000000000000000000000000000 t)
  c_MAX_OPTIONS : ∃ t, mg "MAX_OPTIONS" = some (.int 9 t)
section
variable {P : Program} {w : World} {K : PySem.W.Frag} {mg : Str → Option Value} {base : Heap}
theorem sc__law_bag : FnScope ["script", "at", "cell", "great", "blend"] ["script", "at"] (defScope st__law_bag) := ⟨rfl, rfl, rfl, by decide +kernel, rfl, by decide +kernel, by decide +kernel⟩
theorem b__law_bag (Z : W K mg) : Binds K Z.d__law_bag ["script", "at"] [] := Z.F__law_bag.bindsN fun _ _ _ _ _ _ us hl => match us, hl with | [_, _], _ => rfl
theorem ok__law_bag (Z : W K mg) : FnG P w K mg base CX0 1 Z.f__law_bag Z.d__law_bag ["script", "at"] (spD ⟨K, mg, P, w⟩ F__law_bag) :=
  fnG_ok Z.F__law_bag sc__law_bag fun cdv A outer s H E hr gd =>
    (dss_cons (ds_set (i := 2) sc__law_bag.nd rfl (by first | exact Or.inl rfl | exact Or.inr rfl) (de_if (dt_cmp od_lt (de_var (pv 1)) (de_callB cd_len rfl Z.n_len (by decide +kernel) (da_cons (de_var (pv 0)) da_nil)) (nomark _)) (de_callTy cd_int rfl Z.n_int (by decide +kernel) (da_cons (de_ix (de_var (pv 0)) (de_var (pv 1)) (fun _ _ => rfl)) da_nil)) (de_bin od_add (de_bin od_mul de_int (de_var (pv 1))) de_int)))
    (dss_cons (ds_set (i := 3) sc__law_bag.nd rfl (by first | exact Or.inl rfl | exact Or.inr rfl) (de_bin od_mod (de_callB (cd_max2 rfl) rfl Z.n_max (by decide +kernel) (da_cons de_int (da_cons (de_bin od_sub (de_callB cd_abs rfl Z.n_abs (by decide +kernel) (da_cons (de_var (pv 2)) da_nil)) (de_bin od_pow de_int de_int)) da_nil))) (de_bin od_mul (de_bin od_pow de_int de_int) (de_bin od_pow de_int de_int))))
    (dss_cons (ds_set (i := 4) sc__law_bag.nd rfl (by first | exact Or.inl rfl | exact Or.inr rfl) (de_bin od_add (de_bin od_add (de_bin od_add (de_bin od_mul (de_bin od_mod (de_callTy cd_int rfl Z.n_int (by decide +kernel) (da_cons (de_callB cd_abs rfl Z.n_abs (by decide +kernel) (da_cons (de_var (pv 2)) da_nil)) da_nil)) (de_bin od_add (de_bin od_pow de_int de_int) de_int)) de_int) (de_bin od_mul de_int (de_var (pv 1)))) (de_bin od_mul de_int (de_callTy cd_int rfl Z.n_int (by decide +kernel) (da_cons (de_cmp od_lt (de_var (pv 2)) de_int (nomark _)) da_nil)))) de_int))
    (dss_one (ds_retL (dn_lst (da_cons (de_var (pv 3)) (da_cons (de_bin od_mod (de_callTy cd_int rfl Z.n_int (by decide +kernel) (da_cons (de_var (pv 4)) da_nil)) (de_bin od_sub (de_bin od_pow de_int de_int) de_int)) da_nil))))))))
theorem sc_is_whole : FnScope ["value"] ["value"] (defScope st_is_whole) := ⟨rfl, rfl, rfl, by decide +kernel, rfl, by decide +kernel, by decide +kernel⟩
theorem b_is_whole (Z : W K mg) : Binds K Z.d_is_whole ["value"] [] := Z.F_is_whole.bindsN fun _ _ _ _ _ _ us hl => match us, hl with | [_], _ => rfl
theorem ok_is_whole (Z : W K mg) : FnG P w K mg base CX0 1 Z.f_is_whole Z.d_is_whole ["value"] (spD ⟨K, mg, P, w⟩ F_is_whole) :=
  fnG_ok Z.F_is_whole sc_is_whole fun cdv A outer s H E hr gd =>
    (dss_one (ds_ret (de_and (de_isi (by decide) rfl Z.n_isinstance (de_var (pv 0)) rfl Z.n_int (by decide +kernel) (by decide +kernel)) (de_and (de_not (de_isi (by decide) rfl Z.n_isinstance (de_var (pv 0)) rfl Z.n_bool (by decide +kernel) (by decide +kernel))) (de_one (de_chain od_lt od_lt (de_un ud_neg (de_gint rfl Z.c_GREAT)) (de_var (pv 0)) (de_gint rfl Z.c_GREAT)))))))
theorem sc_is_within : FnScope ["value", "low", "high"] ["value", "low", "high"] (defScope st_is_within) := ⟨rfl, rfl, rfl, by decide +kernel, rfl, by decide +kernel, by decide +kernel⟩
theorem b_is_within (Z : W K mg) : Binds K Z.d_is_within ["value", "low", "high"] [] := Z.F_is_within.bindsN fun _ _ _ _ _ _ us hl => match us, hl with | [_, _, _], _ => rfl
theorem ok_is_within (Z : W K mg) : FnG P w K mg base CX0 2 Z.f_is_within Z.d_is_within ["value", "low", "high"] (spD ⟨K, mg, P, w⟩ F_is_within) :=
  fnG_ok Z.F_is_within sc_is_within fun cdv A outer s H E hr gd =>
    (dss_one (ds_ret (de_and (user_call ((ok_is_whole Z).up (by decide)) hr gd rfl Z.g_is_whole Z.F_is_whole.kp (b_is_whole Z) (da_cons (de_var (pv 0)) da_nil)) (de_one (de_chain od_le od_le (de_var (pv 1)) (de_var (pv 0)) (de_var (pv 2)))))))
theorem sc_require_size : FnScope ["size"] ["size"] (defScope st_require_size) := ⟨rfl, rfl, rfl, by decide +kernel, rfl, by decide +kernel, by decide +kernel⟩
theorem b_require_size (Z : W K mg) : Binds K Z.d_require_size ["size"] [] := Z.F_require_size.bindsN fun _ _ _ _ _ _ us hl => match us, hl with | [_], _ => rfl
theorem ok_require_size (Z : W K mg) : FnG P w K mg base CX0 3 Z.f_require_size Z.d_require_size ["size"] (spD ⟨K, mg, P, w⟩ F_require_size) :=
  fnG_ok Z.F_require_size sc_require_size fun cdv A outer s H E hr gd =>
    (dss_one (ds_if (dt_not (dt_val (user_call ((ok_is_within Z).up (by decide)) hr gd rfl Z.g_is_within Z.F_is_within.kp (b_is_within Z) (da_cons (de_var (pv 0)) (da_cons de_int (da_cons (de_gint rfl Z.c_MAX_OPTIONS) da_nil))))))
    (dss_one ds_never)
    dss_nil))
theorem sc_is_option : FnScope ["size", "value"] ["size", "value"] (defScope st_is_option) := ⟨rfl, rfl, rfl, by decide +kernel, rfl, by decide +kernel, by decide +kernel⟩
theorem b_is_option (Z : W K mg) : Binds K Z.d_is_option ["size", "value"] [] := Z.F_is_option.bindsN fun _ _ _ _ _ _ us hl => match us, hl with | [_, _], _ => rfl
theorem ok_is_option (Z : W K mg) : FnG P w K mg base CX0 3 Z.f_is_option Z.d_is_option ["size", "value"] (spD ⟨K, mg, P, w⟩ F_is_option) :=
  fnG_ok Z.F_is_option sc_is_option fun cdv A outer s H E hr gd =>
    (dss_one (ds_ret (user_call ((ok_is_within Z).up (by decide)) hr gd rfl Z.g_is_within Z.F_is_within.kp (b_is_within Z) (da_cons (de_var (pv 1)) (da_cons de_int (da_cons (de_bin od_sub (de_var (pv 0)) de_int) da_nil))))))
theorem sc_is_lot_of : FnScope ["size", "value", "one", "other"] ["size", "value"] (defScope st_is_lot_of) := ⟨rfl, rfl, rfl, by decide +kernel, rfl, by decide +kernel, by decide +kernel⟩
theorem b_is_lot_of (Z : W K mg) : Binds K Z.d_is_lot_of ["size", "value"] [] := Z.F_is_lot_of.bindsN fun _ _ _ _ _ _ us hl => match us, hl with | [_, _], _ => rfl
theorem ok_is_lot_of (Z : W K mg) : FnG P w K mg base CX0 4 Z.f_is_lot_of Z.d_is_lot_of ["size", "value"] (spD ⟨K, mg, P, w⟩ F_is_lot_of) :=
  fnG_ok Z.F_is_lot_of sc_is_lot_of fun cdv A outer s H E hr gd =>
    (dss_cons (ds_if (dt_w (dw_or (dt_not (dt_val (de_isi (by decide) rfl Z.n_isinstance (de_var (pv 1)) rfl Z.n_tuple (by decide +kernel) (by decide +kernel)))) (dw_or1 (dt_not (dt_val (de_callB (cd_all rfl) rfl Z.n_all (by decide +kernel) (da_cons (de_n (dn_lc rfl sc_is_lot_of.nd (di_seq (de_var (pv 1))) (own := [("one", 2)]) (blkO rfl) (by decide) (fun s H C cl fp => (dg_name (pg_name (i := 2) sc_is_lot_of.nd rfl (by first | exact Or.inl rfl | exact Or.inr rfl)))) (fun s H C cl fp => dts_nil) (fun s H C cl fp => (user_call ((ok_is_option Z).up (by decide)) hr gd rfl Z.g_is_option Z.F_is_option.kp (b_is_option Z) (da_cons (de_var (pv 0)) (da_cons (de_var (pv 2)) da_nil)))))) da_nil)))))))
    (dss_one (ds_ret de_bl))
    dss_nil)
    (dss_one (ds_ret (de_callB (cd_all rfl) rfl Z.n_all (by decide +kernel) (da_cons (de_n (dn_lc rfl sc_is_lot_of.nd (di_zip rfl Z.n_zip (da_cons (de_var (pv 1)) (da_cons (de_sl (de_var (pv 1)) (do_some de_int) do_none) da_nil))) (own := [("one", 2), ("other", 3)]) (blkO rfl) (by decide) (fun s H C cl fp => (dg_tup rfl (dgs_cons (dg_name (pg_name (i := 2) sc_is_lot_of.nd rfl (by first | exact Or.inl rfl | exact Or.inr rfl))) (dgs_cons (dg_name (pg_name (i := 3) sc_is_lot_of.nd rfl (by first | exact Or.inl rfl | exact Or.inr rfl))) dgs_nil)))) (fun s H C cl fp => dts_nil) (fun s H C cl fp => (de_cmp od_lt (de_var (pv 2)) (de_var (pv 3)) (nomark _))))) da_nil)))))
theorem sc_require_any_lot : FnScope ["size", "value"] ["size", "value"] (defScope st_require_any_lot) := ⟨rfl, rfl, rfl, by decide +kernel, rfl, by decide +kernel, by decide +kernel⟩
theorem b_require_any_lot (Z : W K mg) : Binds K Z.d_require_any_lot ["size", "value"] [] := Z.F_require_any_lot.bindsN fun _ _ _ _ _ _ us hl => match us, hl with | [_, _], _ => rfl
theorem ok_require_any_lot (Z : W K mg) : FnG P w K mg base CX0 5 Z.f_require_any_lot Z.d_require_any_lot ["size", "value"] (spD ⟨K, mg, P, w⟩ F_require_any_lot) :=
  fnG_ok Z.F_require_any_lot sc_require_any_lot fun cdv A outer s H E hr gd =>
    (dss_one (ds_if (dt_not (dt_val (user_call ((ok_is_lot_of Z).up (by decide)) hr gd rfl Z.g_is_lot_of Z.F_is_lot_of.kp (b_is_lot_of Z) (da_cons (de_var (pv 0)) (da_cons (de_var (pv 1)) da_nil)))))
    (dss_one ds_never)
    dss_nil))
theorem sc_require_two : FnScope ["size", "one", "other"] ["size", "one", "other"] (defScope st_require_two) := ⟨rfl, rfl, rfl, by decide +kernel, rfl, by decide +kernel, by decide +kernel⟩
theorem b_require_two (Z : W K mg) : Binds K Z.d_require_two ["size", "one", "other"] [] := Z.F_require_two.bindsN fun _ _ _ _ _ _ us hl => match us, hl with | [_, _, _], _ => rfl
theorem ok_require_two (Z : W K mg) : FnG P w K mg base CX0 6 Z.f_require_two Z.d_require_two ["size", "one", "other"] (spD ⟨K, mg, P, w⟩ F_require_two) :=
  fnG_ok Z.F_require_two sc_require_two fun cdv A outer s H E hr gd =>
    (dss_cons (ds_expr (user_call ((ok_require_size Z).up (by decide)) hr gd rfl Z.g_require_size Z.F_require_size.kp (b_require_size Z) (da_cons (de_var (pv 0)) da_nil)))
    (dss_cons (ds_expr (user_call ((ok_require_any_lot Z).up (by decide)) hr gd rfl Z.g_require_any_lot Z.F_require_any_lot.kp (b_require_any_lot Z) (da_cons (de_var (pv 0)) (da_cons (de_var (pv 1)) da_nil))))
    (dss_one (ds_expr (user_call ((ok_require_any_lot Z).up (by decide)) hr gd rfl Z.g_require_any_lot Z.F_require_any_lot.kp (b_require_any_lot Z) (da_cons (de_var (pv 0)) (da_cons (de_var (pv 2)) da_nil)))))))
theorem sc_bits : FnScope ["lot", "option"] ["lot"] (defScope st_bits) := ⟨rfl, rfl, rfl, by decide +kernel, rfl, by decide +kernel, by decide +kernel⟩
theorem b_bits (Z : W K mg) : Binds K Z.d_bits ["lot"] [] := Z.F_bits.bindsN fun _ _ _ _ _ _ us hl => match us, hl with | [_], _ => rfl
theorem ok_bits (Z : W K mg) : FnG P w K mg base CX0 1 Z.f_bits Z.d_bits ["lot"] (spD ⟨K, mg, P, w⟩ F_bits) :=
  fnG_ok Z.F_bits sc_bits fun cdv A outer s H E hr gd =>
    (dss_one (ds_ret (de_callB (cd_sum rfl) rfl Z.n_sum (by decide +kernel) (da_cons (de_n (dn_lc rfl sc_bits.nd (di_seq (de_var (pv 0))) (own := [("option", 1)]) (blkO rfl) (by decide) (fun s H C cl fp => (dg_name (pg_name (i := 1) sc_bits.nd rfl (by first | exact Or.inl rfl | exact Or.inr rfl)))) (fun s H C cl fp => dts_nil) (fun s H C cl fp => (de_bin od_shl de_int (de_var (pv 1)))))) da_nil))))
theorem sc_standing : FnScope ["size", "one", "other", "first", "second"] ["size", "one", "other"] (defScope st_standing) := ⟨rfl, rfl, rfl, by decide +kernel, rfl, by decide +kernel, by decide +kernel⟩
theorem b_standing (Z : W K mg) : Binds K Z.d_standing ["size", "one", "other"] [] := Z.F_standing.bindsN fun _ _ _ _ _ _ us hl => match us, hl with | [_, _, _], _ => rfl
theorem ok_standing (Z : W K mg) : FnG P w K mg base CX0 7 Z.f_standing Z.d_standing ["size", "one", "other"] (spD ⟨K, mg, P, w⟩ F_standing) :=
  fnG_ok Z.F_standing sc_standing fun cdv A outer s H E hr gd =>
    (dss_cons (ds_expr (user_call ((ok_require_two Z).up (by decide)) hr gd rfl Z.g_require_two Z.F_require_two.kp (b_require_two Z) (da_cons (de_var (pv 0)) (da_cons (de_var (pv 1)) (da_cons (de_var (pv 2)) da_nil)))))
    (dss_cons (ds_if (dt_cmp (od_eq (ru hr)) (de_var (pv 1)) (de_var (pv 2)) (nomark _))
    (dss_one (ds_ret de_str))
    dss_nil)
    (dss_cons (ds_par rfl sc_standing.nd (i := 3) (j := 4) rfl rfl (by decide) rfl rfl (da_cons (user_call ((ok_bits Z).up (by decide)) hr gd rfl Z.g_bits Z.F_bits.kp (b_bits Z) (da_cons (de_var (pv 1)) da_nil)) (da_cons (user_call ((ok_bits Z).up (by decide)) hr gd rfl Z.g_bits Z.F_bits.kp (b_bits Z) (da_cons (de_var (pv 2)) da_nil)) da_nil)) rfl)
    (dss_cons (ds_if (dt_cmp (od_eq (ru hr)) (de_bin od_and (de_var (pv 3)) (de_var (pv 4))) de_int (nomark _))
    (dss_one (ds_ret de_str))
    dss_nil)
    (dss_cons (ds_if (dt_cmp (od_eq (ru hr)) (de_bin od_and (de_var (pv 3)) (de_var (pv 4))) (de_var (pv 3)) (nomark _))
    (dss_one (ds_ret de_str))
    dss_nil)
    (dss_one (ds_ret (de_if (dt_cmp (od_eq (ru hr)) (de_bin od_and (de_var (pv 3)) (de_var (pv 4))) (de_var (pv 4)) (nomark _)) de_str de_str))))))))
theorem sc_left_out : FnScope ["size", "lot", "option"] ["size", "lot"] (defScope st_left_out) := ⟨rfl, rfl, rfl, by decide +kernel, rfl, by decide +kernel, by decide +kernel⟩
theorem b_left_out (Z : W K mg) : Binds K Z.d_left_out ["size", "lot"] [] := Z.F_left_out.bindsN fun _ _ _ _ _ _ us hl => match us, hl with | [_, _], _ => rfl
theorem ok_left_out (Z : W K mg) : FnG P w K mg base CX0 6 Z.f_left_out Z.d_left_out ["size", "lot"] (spD ⟨K, mg, P, w⟩ F_left_out) :=
  fnG_ok Z.F_left_out sc_left_out fun cdv A outer s H E hr gd =>
    (dss_cons (ds_expr (user_call ((ok_require_size Z).up (by decide)) hr gd rfl Z.g_require_size Z.F_require_size.kp (b_require_size Z) (da_cons (de_var (pv 0)) da_nil)))
    (dss_cons (ds_expr (user_call ((ok_require_any_lot Z).up (by decide)) hr gd rfl Z.g_require_any_lot Z.F_require_any_lot.kp (b_require_any_lot Z) (da_cons (de_var (pv 0)) (da_cons (de_var (pv 1)) da_nil))))
    (dss_one (ds_ret (de_callTy cd_tuple rfl Z.n_tuple (by decide +kernel) (da_cons (de_n (dn_lc rfl sc_left_out.nd (di_range1 rfl Z.n_range (da_cons (de_var (pv 0)) da_nil)) (own := [("option", 2)]) (blkO rfl) (by decide) (fun s H C cl fp => (dg_name (pg_name (i := 2) sc_left_out.nd rfl (by first | exact Or.inl rfl | exact Or.inr rfl)))) (fun s H C cl fp => (dts_one (dt_cmp (od_notIn (ru5 hr)) (de_var (pv 2)) (de_var (pv 1)) (by with_unfolding_all rfl)))) (fun s H C cl fp => (de_var (pv 2))))) da_nil))))))
theorem sc_is_lot : FnScope ["size", "value"] ["size", "value"] (defScope st_is_lot) := ⟨rfl, rfl, rfl, by decide +kernel, rfl, by decide +kernel, by decide +kernel⟩
theorem b_is_lot (Z : W K mg) : Binds K Z.d_is_lot ["size", "value"] [] := Z.F_is_lot.bindsN fun _ _ _ _ _ _ us hl => match us, hl with | [_, _], _ => rfl
theorem ok_is_lot (Z : W K mg) : FnG P w K mg base CX0 5 Z.f_is_lot Z.d_is_lot ["size", "value"] (spD ⟨K, mg, P, w⟩ F_is_lot) :=
  fnG_ok Z.F_is_lot sc_is_lot fun cdv A outer s H E hr gd =>
    (dss_cons (ds_expr (user_call ((ok_require_size Z).up (by decide)) hr gd rfl Z.g_require_size Z.F_require_size.kp (b_require_size Z) (da_cons (de_var (pv 0)) da_nil)))
    (dss_one (ds_ret (user_call ((ok_is_lot_of Z).up (by decide)) hr gd rfl Z.g_is_lot_of Z.F_is_lot_of.kp (b_is_lot_of Z) (da_cons (de_var (pv 0)) (da_cons (de_var (pv 1)) da_nil))))))
theorem sc__law_draw : FnScope ["bag", "many", "found"] ["bag", "many"] (defScope st__law_draw) := ⟨rfl, rfl, rfl, by decide +kernel, rfl, by decide +kernel, by decide +kernel⟩
theorem b__law_draw (Z : W K mg) : Binds K Z.d__law_draw ["bag", "many"] [] := Z.F__law_draw.bindsN fun _ _ _ _ _ _ us hl => match us, hl with | [_, _], _ => rfl
theorem ok__law_draw (Z : W K mg) : FnG P w K mg base CX0 1 Z.f__law_draw Z.d__law_draw ["bag", "many"] (spD ⟨K, mg, P, w⟩ F__law_draw) :=
  fnG_ok Z.F__law_draw sc__law_draw fun cdv A outer s H E hr gd =>
    (dss_cons (ds_if (dt_cmp od_gt (de_ix (de_var (pv 0)) de_int (fun _ _ => rfl)) de_int (nomark _))
    (dss_cons (ds_set (i := 2) sc__law_draw.nd rfl (by first | exact Or.inl rfl | exact Or.inr rfl) (de_bin od_mod (de_callTy cd_int rfl Z.n_int (by decide +kernel) (da_cons (de_ix (de_var (pv 0)) de_int (fun _ _ => rfl)) da_nil)) (de_var (pv 1))))
    (dss_cons (ds_setIx (de_bin od_div (de_ix (de_var (pv 0)) de_int (fun _ _ => rfl)) (de_var (pv 1))) (pv 0) de_int)
    (dss_one (ds_ret (de_var (pv 2))))))
    dss_nil)
    (dss_cons (ds_setIx (de_bin od_mod (de_callTy cd_int rfl Z.n_int (by decide +kernel) (da_cons (de_bin od_add (de_bin od_mul (de_ix (de_var (pv 0)) de_int (fun _ _ => rfl)) de_int) de_int) da_nil)) (de_bin od_sub (de_bin od_pow de_int de_int) de_int)) (pv 0) de_int)
    (dss_one (ds_ret (de_bin od_mod (de_callTy cd_int rfl Z.n_int (by decide +kernel) (da_cons (de_bin od_div (de_ix (de_var (pv 0)) de_int (fun _ _ => rfl)) de_int) da_nil)) (de_var (pv 1)))))))
theorem sc__law_one_of : FnScope ["bag", "items"] ["bag", "items"] (defScope st__law_one_of) := ⟨rfl, rfl, rfl, by decide +kernel, rfl, by decide +kernel, by decide +kernel⟩
theorem b__law_one_of (Z : W K mg) : Binds K Z.d__law_one_of ["bag", "items"] [] := Z.F__law_one_of.bindsN fun _ _ _ _ _ _ us hl => match us, hl with | [_, _], _ => rfl
theorem ok__law_one_of (Z : W K mg) : FnG P w K mg base CX0 2 Z.f__law_one_of Z.d__law_one_of ["bag", "items"] (spD ⟨K, mg, P, w⟩ F__law_one_of) :=
  fnG_ok Z.F__law_one_of sc__law_one_of fun cdv A outer s H E hr gd =>
    (dss_one (ds_ret (de_ix (de_var (pv 1)) (user_call ((ok__law_draw Z).up (by decide)) hr gd rfl Z.g__law_draw Z.F__law_draw.kp (b__law_draw Z) (da_cons (de_var (pv 0)) (da_cons (de_callB cd_len rfl Z.n_len (by decide +kernel) (da_cons (de_var (pv 1)) da_nil)) da_nil))) (fun _ _ => rfl))))
theorem sc__law_lot : FnScope ["bag", "size", "part", "option"] ["bag", "size"] (defScope st__law_lot) := ⟨rfl, rfl, rfl, by decide +kernel, rfl, by decide +kernel, by decide +kernel⟩
theorem b__law_lot (Z : W K mg) : Binds K Z.d__law_lot ["bag", "size"] [] := Z.F__law_lot.bindsN fun _ _ _ _ _ _ us hl => match us, hl with | [_, _], _ => rfl
theorem ok__law_lot (Z : W K mg) : FnG P w K mg base CX0 3 Z.f__law_lot Z.d__law_lot ["bag", "size"] (spD ⟨K, mg, P, w⟩ F__law_lot) :=
  fnG_ok Z.F__law_lot sc__law_lot fun cdv A outer s H E hr gd =>
    (dss_cons (ds_set (i := 2) sc__law_lot.nd rfl (by first | exact Or.inl rfl | exact Or.inr rfl) (user_call ((ok__law_one_of Z).up (by decide)) hr gd rfl Z.g__law_one_of Z.F__law_one_of.kp (b__law_one_of Z) (da_cons (de_var (pv 0)) (da_cons (de_n (dn_lst (da_cons de_int (da_cons de_int (da_cons de_int (da_cons de_int da_nil)))))) da_nil))))
    (dss_one (ds_ret (de_callTy cd_tuple rfl Z.n_tuple (by decide +kernel) (da_cons (de_n (dn_lc rfl sc__law_lot.nd (di_range1 rfl Z.n_range (da_cons (de_var (pv 1)) da_nil)) (own := [("option", 3)]) (blkO rfl) (by decide) (fun s H C cl fp => (dg_name (pg_name (i := 3) sc__law_lot.nd rfl (by first | exact Or.inl rfl | exact Or.inr rfl)))) (fun s H C cl fp => (dts_one (dt_w (dw_and (dt_cmp (od_eq (ru hr)) (user_call ((ok__law_draw Z).up (by decide)) hr gd rfl Z.g__law_draw Z.F__law_draw.kp (b__law_draw Z) (da_cons (de_var (pv 0)) (da_cons (de_var (pv 2)) da_nil))) de_int (nomark _)) (dw_and1 (dt_cmp od_gt (user_call ((ok__law_draw Z).up (by decide)) hr gd rfl Z.g__law_draw Z.F__law_draw.kp (b__law_draw Z) (da_cons (de_var (pv 0)) (da_cons de_int da_nil))) de_int (nomark _))))))) (fun s H C cl fp => (de_var (pv 3))))) da_nil)))))
theorem sc_lot_of : FnScope ["number", "size", "option"] ["number", "size"] (defScope st_lot_of) := ⟨rfl, rfl, rfl, by decide +kernel, rfl, by decide +kernel, by decide +kernel⟩
theorem b_lot_of (Z : W K mg) : Binds K Z.d_lot_of ["number", "size"] [] := Z.F_lot_of.bindsN fun _ _ _ _ _ _ us hl => match us, hl with | [_, _], _ => rfl
theorem ok_lot_of (Z : W K mg) : FnG P w K mg base CX0 1 Z.f_lot_of Z.d_lot_of ["number", "size"] (spD ⟨K, mg, P, w⟩ F_lot_of) :=
  fnG_ok Z.F_lot_of sc_lot_of fun cdv A outer s H E hr gd =>
    (dss_one (ds_ret (de_callTy cd_tuple rfl Z.n_tuple (by decide +kernel) (da_cons (de_n (dn_lc rfl sc_lot_of.nd (di_range1 rfl Z.n_range (da_cons (de_var (pv 1)) da_nil)) (own := [("option", 2)]) (blkO rfl) (by decide) (fun s H C cl fp => (dg_name (pg_name (i := 2) sc_lot_of.nd rfl (by first | exact Or.inl rfl | exact Or.inr rfl)))) (fun s H C cl fp => (dts_one (dt_val (de_bin od_and (de_bin od_shr (de_var (pv 0)) (de_var (pv 2))) de_int)))) (fun s H C cl fp => (de_var (pv 2))))) da_nil))))
theorem sc_together : FnScope ["size", "one", "other"] ["size", "one", "other"] (defScope st_together) := ⟨rfl, rfl, rfl, by decide +kernel, rfl, by decide +kernel, by decide +kernel⟩
theorem b_together (Z : W K mg) : Binds K Z.d_together ["size", "one", "other"] [] := Z.F_together.bindsN fun _ _ _ _ _ _ us hl => match us, hl with | [_, _, _], _ => rfl
theorem ok_together (Z : W K mg) : FnG P w K mg base CX0 7 Z.f_together Z.d_together ["size", "one", "other"] (spD ⟨K, mg, P, w⟩ F_together) :=
  fnG_ok Z.F_together sc_together fun cdv A outer s H E hr gd =>
    (dss_cons (ds_expr (user_call ((ok_require_two Z).up (by decide)) hr gd rfl Z.g_require_two Z.F_require_two.kp (b_require_two Z) (da_cons (de_var (pv 0)) (da_cons (de_var (pv 1)) (da_cons (de_var (pv 2)) da_nil)))))
    (dss_one (ds_ret (user_call ((ok_lot_of Z).up (by decide)) hr gd rfl Z.g_lot_of Z.F_lot_of.kp (b_lot_of Z) (da_cons (de_bin od_or (user_call ((ok_bits Z).up (by decide)) hr gd rfl Z.g_bits Z.F_bits.kp (b_bits Z) (da_cons (de_var (pv 1)) da_nil)) (user_call ((ok_bits Z).up (by decide)) hr gd rfl Z.g_bits Z.F_bits.kp (b_bits Z) (da_cons (de_var (pv 2)) da_nil))) (da_cons (de_var (pv 0)) da_nil))))))
theorem sc_common : FnScope ["size", "one", "other"] ["size", "one", "other"] (defScope st_common) := ⟨rfl, rfl, rfl, by decide +kernel, rfl, by decide +kernel, by decide +kernel⟩
theorem b_common (Z : W K mg) : Binds K Z.d_common ["size", "one", "other"] [] := Z.F_common.bindsN fun _ _ _ _ _ _ us hl => match us, hl with | [_, _, _], _ => rfl
theorem ok_common (Z : W K mg) : FnG P w K mg base CX0 7 Z.f_common Z.d_common ["size", "one", "other"] (spD ⟨K, mg, P, w⟩ F_common) :=
  fnG_ok Z.F_common sc_common fun cdv A outer s H E hr gd =>
    (dss_cons (ds_expr (user_call ((ok_require_two Z).up (by decide)) hr gd rfl Z.g_require_two Z.F_require_two.kp (b_require_two Z) (da_cons (de_var (pv 0)) (da_cons (de_var (pv 1)) (da_cons (de_var (pv 2)) da_nil)))))
    (dss_one (ds_ret (user_call ((ok_lot_of Z).up (by decide)) hr gd rfl Z.g_lot_of Z.F_lot_of.kp (b_lot_of Z) (da_cons (de_bin od_and (user_call ((ok_bits Z).up (by decide)) hr gd rfl Z.g_bits Z.F_bits.kp (b_bits Z) (da_cons (de_var (pv 1)) da_nil)) (user_call ((ok_bits Z).up (by decide)) hr gd rfl Z.g_bits Z.F_bits.kp (b_bits Z) (da_cons (de_var (pv 2)) da_nil))) (da_cons (de_var (pv 0)) da_nil))))))
theorem sc__law_word : FnScope ["one", "other", "both", "option"] ["one", "other"] (defScope st__law_word) := ⟨rfl, rfl, rfl, by decide +kernel, rfl, by decide +kernel, by decide +kernel⟩
theorem b__law_word (Z : W K mg) : Binds K Z.d__law_word ["one", "other"] [] := Z.F__law_word.bindsN fun _ _ _ _ _ _ us hl => match us, hl with | [_, _], _ => rfl
theorem ok__law_word (Z : W K mg) : FnG P w K mg base CX0 1 Z.f__law_word Z.d__law_word ["one", "other"] (spD ⟨K, mg, P, w⟩ F__law_word) :=
  fnG_ok Z.F__law_word sc__law_word fun cdv A outer s H E hr gd =>
    (dss_cons (ds_lcSet (ps_lcN (i := 2) rfl sc__law_word.nd rfl rfl rfl (di_seq (de_var (pv 0))) (own := [("option", 3)]) (blkO rfl) (by decide) (fun s H C cl fp => (dg_name (pg_name (i := 3) sc__law_word.nd rfl (by first | exact Or.inl rfl | exact Or.inr rfl)))) (fun s H C cl fp => (dts_one (dt_cmp (od_in (ru5 hr)) (de_var (pv 3)) (de_var (pv 1)) (by with_unfolding_all rfl)))) (fun s H C cl fp => (de_var (pv 3)))))
    (dss_cons (ds_if (dt_cmp (od_eq (ru hr)) (de_var (pv 0)) (de_var (pv 1)) (nomark _))
    (dss_one (ds_ret de_str))
    dss_nil)
    (dss_cons (ds_if (dt_cmp (od_eq (ru hr)) (de_var (pv 2)) (de_n (dn_lst da_nil)) (nomark _))
    (dss_one (ds_ret de_str))
    dss_nil)
    (dss_cons (ds_if (dt_cmp (od_eq (ru hr)) (de_callB cd_len rfl Z.n_len (by decide +kernel) (da_cons (de_var (pv 2)) da_nil)) (de_callB cd_len rfl Z.n_len (by decide +kernel) (da_cons (de_var (pv 0)) da_nil)) (nomark _))
    (dss_one (ds_ret de_str))
    dss_nil)
    (dss_one (ds_ret (de_if (dt_cmp (od_eq (ru hr)) (de_callB cd_len rfl Z.n_len (by decide +kernel) (da_cons (de_var (pv 2)) da_nil)) (de_callB cd_len rfl Z.n_len (by decide +kernel) (da_cons (de_var (pv 1)) da_nil)) (nomark _)) de_str de_str)))))))
theorem sc__law_right : FnScope ["bag", "size", "one", "other", "told", "due", "near", "dues", "value", "is_fine", "option"] ["bag"] (defScope st__law_right) := ⟨rfl, rfl, rfl, by decide +kernel, rfl, by decide +kernel, by decide +kernel⟩
theorem b__law_right (Z : W K mg) : Binds K Z.d__law_right ["bag"] [] := Z.F__law_right.bindsN fun _ _ _ _ _ _ us hl => match us, hl with | [_], _ => rfl
theorem ok__law_right (Z : W K mg) : FnG P w K mg base CX0 8 Z.f__law_right Z.d__law_right ["bag"] (spD ⟨K, mg, P, w⟩ F__law_right) :=
  fnG_ok Z.F__law_right sc__law_right fun cdv A outer s H E hr gd =>
    (dss_cons (ds_set (i := 1) sc__law_right.nd rfl (by first | exact Or.inl rfl | exact Or.inr rfl) (user_call ((ok__law_one_of Z).up (by decide)) hr gd rfl Z.g__law_one_of Z.F__law_one_of.kp (b__law_one_of Z) (da_cons (de_var (pv 0)) (da_cons (de_n (dn_lst (da_cons de_int (da_cons de_int (da_cons de_int (da_cons de_int (da_cons de_int da_nil))))))) da_nil))))
    (dss_cons (ds_set (i := 2) sc__law_right.nd rfl (by first | exact Or.inl rfl | exact Or.inr rfl) (user_call ((ok__law_lot Z).up (by decide)) hr gd rfl Z.g__law_lot Z.F__law_lot.kp (b__law_lot Z) (da_cons (de_var (pv 0)) (da_cons (de_var (pv 1)) da_nil))))
    (dss_cons (ds_set (i := 3) sc__law_right.nd rfl (by first | exact Or.inl rfl | exact Or.inr rfl) (user_call ((ok__law_one_of Z).up (by decide)) hr gd rfl Z.g__law_one_of Z.F__law_one_of.kp (b__law_one_of Z) (da_cons (de_var (pv 0)) (da_cons (de_n (dn_lst (da_cons (user_call ((ok__law_lot Z).up (by decide)) hr gd rfl Z.g__law_lot Z.F__law_lot.kp (b__law_lot Z) (da_cons (de_var (pv 0)) (da_cons (de_var (pv 1)) da_nil))) (da_cons (de_sl (de_var (pv 2)) (do_some de_int) do_none) (da_cons (de_var (pv 2)) (da_cons (de_tupRg rfl rfl Z.n_tuple (dr_1 rfl Z.n_range (de_var (pv 1)))) (da_cons (de_callTy cd_tuple rfl Z.n_tuple (by decide +kernel) (da_cons (de_n (dn_lc rfl sc__law_right.nd (di_range1 rfl Z.n_range (da_cons (de_var (pv 1)) da_nil)) (own := [("option", 10)]) (blkO rfl) (by decide) (fun s H C cl fp => (dg_name (pg_name (i := 10) sc__law_right.nd rfl (by first | exact Or.inl rfl | exact Or.inr rfl)))) (fun s H C cl fp => (dts_one (dt_cmp (od_notIn (ru5 hr)) (de_var (pv 10)) (de_var (pv 2)) (by with_unfolding_all rfl)))) (fun s H C cl fp => (de_var (pv 10))))) da_nil)) da_nil))))))) da_nil))))
    (dss_cons (ds_set (i := 4) sc__law_right.nd rfl (by first | exact Or.inl rfl | exact Or.inr rfl) (de_n (dn_lst (da_cons (user_call ((ok_standing Z).up (by decide)) hr gd rfl Z.g_standing Z.F_standing.kp (b_standing Z) (da_cons (de_var (pv 1)) (da_cons (de_var (pv 2)) (da_cons (de_var (pv 3)) da_nil)))) (da_cons (user_call ((ok_standing Z).up (by decide)) hr gd rfl Z.g_standing Z.F_standing.kp (b_standing Z) (da_cons (de_var (pv 1)) (da_cons (de_var (pv 3)) (da_cons (de_var (pv 2)) da_nil)))) (da_cons (user_call ((ok_together Z).up (by decide)) hr gd rfl Z.g_together Z.F_together.kp (b_together Z) (da_cons (de_var (pv 1)) (da_cons (de_var (pv 2)) (da_cons (de_var (pv 3)) da_nil)))) (da_cons (user_call ((ok_common Z).up (by decide)) hr gd rfl Z.g_common Z.F_common.kp (b_common Z) (da_cons (de_var (pv 1)) (da_cons (de_var (pv 2)) (da_cons (de_var (pv 3)) da_nil)))) (da_cons (user_call ((ok_left_out Z).up (by decide)) hr gd rfl Z.g_left_out Z.F_left_out.kp (b_left_out Z) (da_cons (de_var (pv 1)) (da_cons (de_var (pv 2)) da_nil))) da_nil))))))))
    (dss_cons (ds_set (i := 5) sc__law_right.nd rfl (by first | exact Or.inl rfl | exact Or.inr rfl) (de_n (dn_lst (da_cons (user_call ((ok__law_word Z).up (by decide)) hr gd rfl Z.g__law_word Z.F__law_word.kp (b__law_word Z) (da_cons (de_var (pv 2)) (da_cons (de_var (pv 3)) da_nil))) (da_cons (user_call ((ok__law_word Z).up (by decide)) hr gd rfl Z.g__law_word Z.F__law_word.kp (b__law_word Z) (da_cons (de_var (pv 3)) (da_cons (de_var (pv 2)) da_nil))) (da_cons (de_callTy cd_tuple rfl Z.n_tuple (by decide +kernel) (da_cons (de_n (dn_callB (cn_sortedS rfl) rfl Z.n_sorted (by decide +kernel) (da_cons (de_callTy (cd_set rfl) rfl Z.n_set (by decide +kernel) (da_cons (de_bin od_add (de_var (pv 2)) (de_var (pv 3))) da_nil)) da_nil))) da_nil)) (da_cons (de_callTy cd_tuple rfl Z.n_tuple (by decide +kernel) (da_cons (de_n (dn_lc rfl sc__law_right.nd (di_seq (de_var (pv 2))) (own := [("option", 10)]) (blkO rfl) (by decide) (fun s H C cl fp => (dg_name (pg_name (i := 10) sc__law_right.nd rfl (by first | exact Or.inl rfl | exact Or.inr rfl)))) (fun s H C cl fp => (dts_one (dt_cmp (od_in (ru5 hr)) (de_var (pv 10)) (de_var (pv 3)) (by with_unfolding_all rfl)))) (fun s H C cl fp => (de_var (pv 10))))) da_nil)) da_nil)))))))
    (dss_cons (ds_if (dt_cmp (od_ne (ru hr)) (de_callB (cd_repr gd (ru hr)) rfl Z.n_repr (by decide +kernel) (da_cons (de_var (pv 4)) da_nil)) (de_callB (cd_repr gd (ru hr)) rfl Z.n_repr (by decide +kernel) (da_cons (de_bin od_add (de_var (pv 5)) (de_n (dn_lst (da_cons (de_callTy cd_tuple rfl Z.n_tuple (by decide +kernel) (da_cons (de_n (dn_lc rfl sc__law_right.nd (di_range1 rfl Z.n_range (da_cons (de_var (pv 1)) da_nil)) (own := [("option", 10)]) (blkO rfl) (by decide) (fun s H C cl fp => (dg_name (pg_name (i := 10) sc__law_right.nd rfl (by first | exact Or.inl rfl | exact Or.inr rfl)))) (fun s H C cl fp => (dts_one (dt_cmp (od_notIn (ru5 hr)) (de_var (pv 10)) (de_var (pv 2)) (by with_unfolding_all rfl)))) (fun s H C cl fp => (de_var (pv 10))))) da_nil)) da_nil)))) da_nil)) (nomark _))
    (dss_one (ds_ret de_bl))
    dss_nil)
    (dss_cons (ds_set (i := 6) sc__law_right.nd rfl (by first | exact Or.inl rfl | exact Or.inr rfl) (de_n (dn_lst (da_cons (de_var (pv 2)) (da_cons (de_n (dn_callTy cn_list rfl Z.n_list (by decide +kernel) (da_cons (de_var (pv 2)) da_nil))) (da_cons (de_rev (de_var (pv 2))) (da_cons (de_bin od_add (de_var (pv 2)) (de_sl (de_var (pv 2)) (do_some (de_un ud_neg de_int)) do_none)) (da_cons (de_bin od_add (de_var (pv 2)) (de_tup (da_cons (de_var (pv 1)) da_nil))) (da_cons (de_bin od_add (de_tup (da_cons (de_un ud_neg de_int) da_nil)) (de_var (pv 2))) (da_cons (de_bin od_add (de_var (pv 2)) (de_tup (da_cons de_bl da_nil))) (da_cons de_non (da_cons de_int (da_cons de_str (da_cons de_dict0 (da_cons (de_bin od_add (de_var (pv 2)) (de_tup (da_cons de_str da_nil))) (da_cons (de_tup (da_cons de_non da_nil)) (da_cons (de_tup (da_cons (de_bin od_pow de_int de_int) da_nil)) da_nil)))))))))))))))))
    (dss_cons (ds_own (i := 7) sc__law_right.nd rfl (by first | exact Or.inl rfl | exact Or.inr rfl) (dn_lst da_nil))
    (dss_cons (ds_for PassesOwn.never rfl (di_seq (de_var (pv 6))) (dg_name (pg_name (i := 8) sc__law_right.nd rfl (by first | exact Or.inl rfl | exact Or.inr rfl)))
    (dss_cons (ds_set (i := 9) sc__law_right.nd rfl (by first | exact Or.inl rfl | exact Or.inr rfl) (de_and (de_isi (by decide) rfl Z.n_isinstance (de_var (pv 8)) rfl Z.n_tuple (by decide +kernel) (by decide +kernel)) (de_one (de_cmp (od_eq (ru hr)) (de_n (dn_lc rfl sc__law_right.nd (di_seq (de_var (pv 8))) (own := [("one", 2)]) (blkO rfl) (by decide) (fun s H C cl fp => (dg_name (pg_name (i := 2) sc__law_right.nd rfl (by first | exact Or.inl rfl | exact Or.inr rfl)))) (fun s H C cl fp => (dts_one (dt_w (dw_or (dt_not (dt_val (de_isi (by decide) rfl Z.n_isinstance (de_var (pv 2)) rfl Z.n_int (by decide +kernel) (by decide +kernel)))) (dw_or1 (dt_val (de_isi (by decide) rfl Z.n_isinstance (de_var (pv 2)) rfl Z.n_bool (by decide +kernel) (by decide +kernel)))))))) (fun s H C cl fp => (de_var (pv 2))))) (de_n (dn_lst da_nil)) (nomark _)))))
    (dss_one (ds_expr (de_mt F.plainAttrs_list F.slot_list_append F.type_list_append md_append (pv 7) (da_cons (de_and (de_var (pv 9)) (de_and (de_cmp (od_eq (ru hr)) (de_n (dn_lc rfl sc__law_right.nd (di_seq (de_var (pv 8))) (own := [("one", 2)]) (blkO rfl) (by decide) (fun s H C cl fp => (dg_name (pg_name (i := 2) sc__law_right.nd rfl (by first | exact Or.inl rfl | exact Or.inr rfl)))) (fun s H C cl fp => (dts_one (dt_not (dt_chain od_le od_lt de_int (de_var (pv 2)) (de_var (pv 1)))))) (fun s H C cl fp => (de_var (pv 2))))) (de_n (dn_lst da_nil)) (nomark _)) (de_one (de_cmp (od_eq (ru hr)) (de_n (dn_callTy cn_list rfl Z.n_list (by decide +kernel) (da_cons (de_var (pv 8)) da_nil))) (de_n (dn_callB (cn_sortedS rfl) rfl Z.n_sorted (by decide +kernel) (da_cons (de_callTy (cd_set rfl) rfl Z.n_set (by decide +kernel) (da_cons (de_var (pv 8)) da_nil)) da_nil))) (nomark _))))) da_nil))))))
    (dss_one (ds_ret (de_cmp (od_eq (ru hr)) (de_callB (cd_repr gd (ru hr)) rfl Z.n_repr (by decide +kernel) (da_cons (de_n (dn_lc rfl sc__law_right.nd (di_seq (de_var (pv 6))) (own := [("value", 8)]) (blkO rfl) (by decide) (fun s H C cl fp => (dg_name (pg_name (i := 8) sc__law_right.nd rfl (by first | exact Or.inl rfl | exact Or.inr rfl)))) (fun s H C cl fp => dts_nil) (fun s H C cl fp => (user_call ((ok_is_lot Z).up (by decide)) hr gd rfl Z.g_is_lot Z.F_is_lot.kp (b_is_lot Z) (da_cons (de_var (pv 1)) (da_cons (de_var (pv 8)) da_nil)))))) da_nil)) (de_callB (cd_repr gd (ru hr)) rfl Z.n_repr (by decide +kernel) (da_cons (de_var (pv 7)) da_nil)) (nomark _)))))))))))))
theorem sc_law : FnScope ["script", "at", "bag", "told", "turn"] ["script"] (defScope st_law) := ⟨rfl, rfl, rfl, by decide +kernel, rfl, by decide +kernel, by decide +kernel⟩
theorem b_law (Z : W K mg) : Binds K Z.d_law ["script"] [] := Z.F_law.bindsN fun _ _ _ _ _ _ us hl => match us, hl with | [_], _ => rfl
theorem ok_law (Z : W K mg) : FnG P w K mg base CX0 9 Z.f_law Z.d_law ["script"] (spD ⟨K, mg, P, w⟩ F_law) :=
  fnG_ok Z.F_law sc_law fun cdv A outer s H E hr gd =>
    (dss_cons (ds_for PassesOwn.never rfl (di_range1 rfl Z.n_range (da_cons (de_callB (cd_max2 rfl) rfl Z.n_max (by decide +kernel) (da_cons de_int (da_cons (de_callB (cd_min2 rfl) rfl Z.n_min (by decide +kernel) (da_cons de_int (da_cons (de_callB cd_len rfl Z.n_len (by decide +kernel) (da_cons (de_var (pv 0)) da_nil)) da_nil))) da_nil))) da_nil)) (dg_name (pg_name (i := 1) sc_law.nd rfl (by first | exact Or.inl rfl | exact Or.inr rfl)))
    (dss_cons (ds_own (i := 2) sc_law.nd rfl (by first | exact Or.inl rfl | exact Or.inr rfl) (user_callN ((ok__law_bag Z).up (by decide)) hr gd rfl Z.g__law_bag Z.F__law_bag.kp (b__law_bag Z) (da_cons (de_var (pv 0)) (da_cons (de_var (pv 1)) da_nil))))
    (dss_one (ds_if (dt_cmp (od_ne (ru hr)) (de_n (dn_lc rfl sc_law.nd (di_range1 rfl Z.n_range (da_cons de_int da_nil)) (own := [("turn", 4)]) (blkO rfl) (by decide) (fun s H C cl fp => (dg_name (pg_name (i := 4) sc_law.nd rfl (by first | exact Or.inl rfl | exact Or.inr rfl)))) (fun s H C cl fp => (dts_one (dt_not (dt_val (user_call ((ok__law_right Z).up (by decide)) hr gd rfl Z.g__law_right Z.F__law_right.kp (b__law_right Z) (da_cons (de_var (pv 2)) da_nil)))))) (fun s H C cl fp => de_int))) (de_n (dn_lst da_nil)) (nomark _))
    (dss_one (ds_ret de_bl))
    dss_nil))))
    (dss_cons (ds_set (i := 3) sc_law.nd rfl (by first | exact Or.inl rfl | exact Or.inr rfl) (de_n (dn_lst (da_cons (user_call ((ok_standing Z).up (by decide)) hr gd rfl Z.g_standing Z.F_standing.kp (b_standing Z) (da_cons de_int (da_cons (de_tup da_nil) (da_cons (de_tup (da_cons de_int da_nil)) da_nil)))) (da_cons (user_call ((ok_standing Z).up (by decide)) hr gd rfl Z.g_standing Z.F_standing.kp (b_standing Z) (da_cons de_int (da_cons (de_tup da_nil) (da_cons (de_tup da_nil) da_nil)))) (da_cons (user_call ((ok_standing Z).up (by decide)) hr gd rfl Z.g_standing Z.F_standing.kp (b_standing Z) (da_cons de_int (da_cons (de_tup (da_cons de_int (da_cons de_int da_nil))) (da_cons (de_tup (da_cons de_int (da_cons de_int da_nil))) da_nil)))) (da_cons (user_call ((ok_left_out Z).up (by decide)) hr gd rfl Z.g_left_out Z.F_left_out.kp (b_left_out Z) (da_cons de_int (da_cons (de_tup da_nil) da_nil))) (da_cons (user_call ((ok_is_lot Z).up (by decide)) hr gd rfl Z.g_is_lot Z.F_is_lot.kp (b_is_lot Z) (da_cons de_int (da_cons (de_tup da_nil) da_nil))) da_nil))))))))
    (dss_one (ds_ret (de_cmp (od_eq (ru hr)) (de_callB (cd_repr gd (ru hr)) rfl Z.n_repr (by decide +kernel) (da_cons (de_var (pv 3)) da_nil)) (de_callB (cd_repr gd (ru hr)) rfl Z.n_repr (by decide +kernel) (da_cons (de_n (dn_lst (da_cons de_str (da_cons de_str (da_cons de_str (da_cons (de_tup (da_cons de_int da_nil)) (da_cons de_bl da_nil))))))) da_nil)) (nomark _))))))
end
def h__law_bag : He.DefD := ⟨("_law_bag", none), "_law_bag", "_law_bag", defArgs st__law_bag, defBody st__law_bag, defScope st__law_bag, [], []⟩
def h_is_whole : He.DefD := ⟨("is_whole", none), "is_whole", "is_whole", defArgs st_is_whole, defBody st_is_whole, defScope st_is_whole, [], []⟩
def h_is_within : He.DefD := ⟨("is_within", none), "is_within", "is_within", defArgs st_is_within, defBody st_is_within, defScope st_is_within, [], []⟩
def h_require_size : He.DefD := ⟨("require_size", none), "require_size", "require_size", defArgs st_require_size, defBody st_require_size, defScope st_require_size, [], []⟩
def h_is_option : He.DefD := ⟨("is_option", none), "is_option", "is_option", defArgs st_is_option, defBody st_is_option, defScope st_is_option, [], []⟩
def h_is_lot_of : He.DefD := ⟨("is_lot_of", none), "is_lot_of", "is_lot_of", defArgs st_is_lot_of, defBody st_is_lot_of, defScope st_is_lot_of, [], []⟩
def h_require_any_lot : He.DefD := ⟨("require_any_lot", none), "require_any_lot", "require_any_lot", defArgs st_require_any_lot, defBody st_require_any_lot, defScope st_require_any_lot, [], []⟩
def h_require_two : He.DefD := ⟨("require_two", none), "require_two", "require_two", defArgs st_require_two, defBody st_require_two, defScope st_require_two, [], []⟩
def h_bits : He.DefD := ⟨("bits", none), "bits", "bits", defArgs st_bits, defBody st_bits, defScope st_bits, [], []⟩
def h_standing : He.DefD := ⟨("standing", none), "standing", "standing", defArgs st_standing, defBody st_standing, defScope st_standing, [], []⟩
def h_left_out : He.DefD := ⟨("left_out", none), "left_out", "left_out", defArgs st_left_out, defBody st_left_out, defScope st_left_out, [], []⟩
def h_is_lot : He.DefD := ⟨("is_lot", none), "is_lot", "is_lot", defArgs st_is_lot, defBody st_is_lot, defScope st_is_lot, [], []⟩
def h__law_draw : He.DefD := ⟨("_law_draw", none), "_law_draw", "_law_draw", defArgs st__law_draw, defBody st__law_draw, defScope st__law_draw, [], []⟩
def h__law_one_of : He.DefD := ⟨("_law_one_of", none), "_law_one_of", "_law_one_of", defArgs st__law_one_of, defBody st__law_one_of, defScope st__law_one_of, [], []⟩
def h__law_lot : He.DefD := ⟨("_law_lot", none), "_law_lot", "_law_lot", defArgs st__law_lot, defBody st__law_lot, defScope st__law_lot, [], []⟩
def h_lot_of : He.DefD := ⟨("lot_of", none), "lot_of", "lot_of", defArgs st_lot_of, defBody st_lot_of, defScope st_lot_of, [], []⟩
def h_together : He.DefD := ⟨("together", none), "together", "together", defArgs st_together, defBody st_together, defScope st_together, [], []⟩
def h_common : He.DefD := ⟨("common", none), "common", "common", defArgs st_common, defBody st_common, defScope st_common, [], []⟩
def h__law_word : He.DefD := ⟨("_law_word", none), "_law_word", "_law_word", defArgs st__law_word, defBody st__law_word, defScope st__law_word, [], []⟩
def h__law_right : He.DefD := ⟨("_law_right", none), "_law_right", "_law_right", defArgs st__law_right, defBody st__law_right, defScope st__law_right, [], []⟩
def h_law : He.DefD := ⟨("law", none), "law", "law", defArgs st_law, defBody st_law, defScope st_law, [], []⟩
def fn : List He.DefD := [h__law_bag, h_is_whole, h_is_within, h_require_size, h_is_option, h_is_lot_of, h_require_any_lot, h_require_two, h_bits, h_standing, h_left_out, h_is_lot, h__law_draw, h__law_one_of, h__law_lot, h_lot_of, h_together, h_common, h__law_word, h__law_right, h_law]
def fa : List He.Fa := [.glo "_law_bag", .glo "is_whole", .glo "is_within", .glo "require_size", .glo "is_option", .glo "is_lot_of", .glo "require_any_lot", .glo "require_two", .glo "bits", .glo "standing", .glo "left_out", .glo "is_lot", .glo "_law_draw", .glo "_law_one_of", .glo "_law_lot", .glo "lot_of", .glo "together", .glo "common", .glo "_law_word", .glo "_law_right", .glo "law", .free "abs", .free "all", .free "bool", .free "int", .free "isinstance", .free "len", .free "list", .free "max", .free "min", .free "range", .free "repr", .free "set", .free "sorted", .free "sum", .free "tuple", .free "zip", .int "GREAT" 1000000000000000000000000000000000000000000000000000000000000, .int "MAX_OPTIONS" 9]
abbrev R : PySem.W.OpenRow := PySem.W.OpenLaw.row PySem.Challenge.rw_oneaxis_k01_whole_two_lots
abbrev hk : PySem.W.Hook := He.hookD 4 fa fn
def ob (s : PySem.W.SharedT) : He.AlD := He.obsDG 4 fa fn (HandSHeadRun.getT s)
theorem ob_eq (s : PySem.W.SharedT) : ob s = hk.obs s.abs := He.obsDG_eq (HandSHeadRun.getT_eq s)
abbrev loose : List Str := ["AxisError", "InvalidLot", "InvalidNumber", "MAX_OPTIONS", "GREAT", "is_whole", "is_within", "is_option", "is_lot_of", "bits", "lot_of", "require_size", "require_any_lot", "require_two", "is_lot", "standing", "together", "common", "left_out", "_law_bag", "_law_draw", "_law_one_of", "_law_lot", "_law_word", "_law_right"]
theorem run (w : World) : HandSHeadRun.RunEq R (PySem.W.view R.prog [28]) hk ob 12000 loose w := by
  intro os
  kernel_rfl
theorem facts {K : PySem.W.Frag} {h : Heap} {mg : Str → Option Value} (X : K.In h) (G : h.Ns mainGlobals mg) (c : He.SaysD fa fn K) : Nonempty (W K mg) := by
  obtain ⟨d0, e0⟩ := c.def_ 0 (d := h__law_bag) rfl
  obtain ⟨d1, e1⟩ := c.def_ 1 (d := h_is_whole) rfl
  obtain ⟨d2, e2⟩ := c.def_ 2 (d := h_is_within) rfl
  obtain ⟨d3, e3⟩ := c.def_ 3 (d := h_require_size) rfl
  obtain ⟨d4, e4⟩ := c.def_ 4 (d := h_is_option) rfl
  obtain ⟨d5, e5⟩ := c.def_ 5 (d := h_is_lot_of) rfl
  obtain ⟨d6, e6⟩ := c.def_ 6 (d := h_require_any_lot) rfl
  obtain ⟨d7, e7⟩ := c.def_ 7 (d := h_require_two) rfl
  obtain ⟨d8, e8⟩ := c.def_ 8 (d := h_bits) rfl
  obtain ⟨d9, e9⟩ := c.def_ 9 (d := h_standing) rfl
  obtain ⟨d10, e10⟩ := c.def_ 10 (d := h_left_out) rfl
  obtain ⟨d11, e11⟩ := c.def_ 11 (d := h_is_lot) rfl
  obtain ⟨d12, e12⟩ := c.def_ 12 (d := h__law_draw) rfl
  obtain ⟨d13, e13⟩ := c.def_ 13 (d := h__law_one_of) rfl
  obtain ⟨d14, e14⟩ := c.def_ 14 (d := h__law_lot) rfl
  obtain ⟨d15, e15⟩ := c.def_ 15 (d := h_lot_of) rfl
  obtain ⟨d16, e16⟩ := c.def_ 16 (d := h_together) rfl
  obtain ⟨d17, e17⟩ := c.def_ 17 (d := h_common) rfl
  obtain ⟨d18, e18⟩ := c.def_ 18 (d := h__law_word) rfl
  obtain ⟨d19, e19⟩ := c.def_ 19 (d := h__law_right) rfl
  obtain ⟨d20, e20⟩ := c.def_ 20 (d := h_law) rfl
  exact ⟨⟨_, d0, e0, He.glo_ok X G (c.fact 0 (f := .glo "_law_bag") rfl), _, d1, e1, He.glo_ok X G (c.fact 1 (f := .glo "is_whole") rfl), _, d2, e2, He.glo_ok X G (c.fact 2 (f := .glo "is_within") rfl), _, d3, e3, He.glo_ok X G (c.fact 3 (f := .glo "require_size") rfl), _, d4, e4, He.glo_ok X G (c.fact 4 (f := .glo "is_option") rfl), _, d5, e5, He.glo_ok X G (c.fact 5 (f := .glo "is_lot_of") rfl), _, d6, e6, He.glo_ok X G (c.fact 6 (f := .glo "require_any_lot") rfl), _, d7, e7, He.glo_ok X G (c.fact 7 (f := .glo "require_two") rfl), _, d8, e8, He.glo_ok X G (c.fact 8 (f := .glo "bits") rfl), _, d9, e9, He.glo_ok X G (c.fact 9 (f := .glo "standing") rfl), _, d10, e10, He.glo_ok X G (c.fact 10 (f := .glo "left_out") rfl), _, d11, e11, He.glo_ok X G (c.fact 11 (f := .glo "is_lot") rfl), _, d12, e12, He.glo_ok X G (c.fact 12 (f := .glo "_law_draw") rfl), _, d13, e13, He.glo_ok X G (c.fact 13 (f := .glo "_law_one_of") rfl), _, d14, e14, He.glo_ok X G (c.fact 14 (f := .glo "_law_lot") rfl), _, d15, e15, He.glo_ok X G (c.fact 15 (f := .glo "lot_of") rfl), _, d16, e16, He.glo_ok X G (c.fact 16 (f := .glo "together") rfl), _, d17, e17, He.glo_ok X G (c.fact 17 (f := .glo "common") rfl), _, d18, e18, He.glo_ok X G (c.fact 18 (f := .glo "_law_word") rfl), _, d19, e19, He.glo_ok X G (c.fact 19 (f := .glo "_law_right") rfl), _, d20, e20, He.glo_ok X G (c.fact 20 (f := .glo "law") rfl), He.free_ok X G (c.fact 21 (f := .free "abs") rfl), He.free_ok X G (c.fact 22 (f := .free "all") rfl), He.free_ok X G (c.fact 23 (f := .free "bool") rfl), He.free_ok X G (c.fact 24 (f := .free "int") rfl), He.free_ok X G (c.fact 25 (f := .free "isinstance") rfl), He.free_ok X G (c.fact 26 (f := .free "len") rfl), He.free_ok X G (c.fact 27 (f := .free "list") rfl), He.free_ok X G (c.fact 28 (f := .free "max") rfl), He.free_ok X G (c.fact 29 (f := .free "min") rfl), He.free_ok X G (c.fact 30 (f := .free "range") rfl), He.free_ok X G (c.fact 31 (f := .free "repr") rfl), He.free_ok X G (c.fact 32 (f := .free "set") rfl), He.free_ok X G (c.fact 33 (f := .free "sorted") rfl), He.free_ok X G (c.fact 34 (f := .free "sum") rfl), He.free_ok X G (c.fact 35 (f := .free "tuple") rfl), He.free_ok X G (c.fact 36 (f := .free "zip") rfl), He.int_ok X G (c.fact 37 (f := .int "GREAT" 1000000000000000000000000000000000000000000000000000000000000) rfl), He.int_ok X G (c.fact 38 (f := .int "MAX_OPTIONS" 9) rfl)⟩⟩
end K01
namespace K01
open PySem PySem.Spec PyProof.Rows L2 Dv
theorem f_draw : F__law_draw = F_draw := rfl
theorem f_bag : F__law_bag = F_bag := rfl
def s_wholeG (G : Int) : SS := (sRet (eAnd (eUn (gIsi "int") (eVar 0)) (eAnd (eNot (eUn (gIsi "bool") (eVar 0))) (eChain gLt gLt (eUn gNeg (eC (.int G))) (eVar 0) (eC (.int G))))))
def plain : D → Bool
  | .set _ => false
  | .obj _ _ _ => false
  | .ref _ => false
  | _ => true
def wholeB (G : Int) : D → Bool
  | .int i => decide (-G < i) && decide (i < G)
  | _ => false
theorem wholeB_int (G i : Int) : wholeB G (.int i) = (decide (-G < i) && decide (i < G)) := rfl
def isI : D → Bool
  | .int _ => true
  | .bl _ => true
  | _ => false
def isB : D → Bool
  | .bl _ => true
  | _ => false
def isT : D → Bool
  | .tup _ => true
  | _ => false
theorem isi_int (d : D) (h : plain d = true) : gIsi "int" d = some (.bl (isI d)) := by
  cases d <;> first | (cases h; done) | rfl
theorem isi_bool (d : D) (h : plain d = true) : gIsi "bool" d = some (.bl (isB d)) := by
  cases d <;> first | (cases h; done) | rfl
theorem isi_tup (d : D) (h : plain d = true) : gIsi "tuple" d = some (.bl (isT d)) := by
  cases d <;> first | (cases h; done) | rfl
theorem whole_core (G : Int) (d : D) (h : plain d = true) : defF 1 1 (s_wholeG G) [.im d] = some (.im (.bl (wholeB G d)), []) := by
  have e1 := isi_int d h
  have e2 := isi_bool d h
  have ty : (isI d = false ∧ wholeB G d = false) ∨ (isI d = true ∧ isB d = true ∧ wholeB G d = false) ∨ ∃ i, d = .int i := by
    cases d <;> first | exact .inr (.inr ⟨_, rfl⟩) | exact .inl ⟨rfl, rfl⟩ | exact .inr (.inl ⟨rfl, rfl, rfl⟩)
  rcases ty with ⟨t1, t2⟩ | ⟨t1, t2, t3⟩ | ⟨i, rfl⟩
  · conv => lhs; simp only [defF, runF, entry, bos, sSeq, sNil, sIf, sSet, sOwn, sSetL, sPar, sRet, sRetL, sRetN, sExpr, M.bind, M.ret, M.opt, val, look, imm, vals, looks, imms, eVar, eC, eBin, eUn, eCall, eN, eTup, nLst, nCall, aNil, aCons, eAnd, eOr, eNot, eIf, eChain, eSl, oSome, oNone, eTupRg, nLstRg, rOne, rTwo, eMt, eDict0, bVal, bCmp, bBl, bAnd, bOr, bNot, bYes, isBl, truth, Dv.isInt, setIm, setOw, lAt, lPut, eUser, nUser, uCall, apart, noAl, toSVs, toSV, putBack, bosAt, allIm, iSeq, iCall, iCallI, sFor, gSet, gTupD, gsCons, gsNil, gsCons, wipeR, okw, putB, e_lt, e_le, e_gt, e_ge, e_sub, e_addI, gNeg, gInt, List.length_cons, List.length_nil, List.map_cons, List.map_nil, List.cons_append, List.nil_append, List.getElem?_cons_zero, List.getElem?_cons_succ, List.getElem?_nil, List.replicate, List.set_cons_zero, List.set_cons_succ, List.all_cons, List.all_nil, decide_true, decide_false, Nat.sub_self, Nat.reduceAdd, Nat.reduceSub, Nat.reduceEqDiff, Nat.reduceBNe, Bool.not_true, Bool.not_false, Bool.and_true, Bool.true_and, Bool.and_self, Option.getD_some, Option.getD_none, if_true, if_false, ↓reduceIte, s_wholeG, e1, t1, t2]
    rw [t2]
  · conv => lhs; simp only [defF, runF, entry, bos, sSeq, sNil, sIf, sSet, sOwn, sSetL, sPar, sRet, sRetL, sRetN, sExpr, M.bind, M.ret, M.opt, val, look, imm, vals, looks, imms, eVar, eC, eBin, eUn, eCall, eN, eTup, nLst, nCall, aNil, aCons, eAnd, eOr, eNot, eIf, eChain, eSl, oSome, oNone, eTupRg, nLstRg, rOne, rTwo, eMt, eDict0, bVal, bCmp, bBl, bAnd, bOr, bNot, bYes, isBl, truth, Dv.isInt, setIm, setOw, lAt, lPut, eUser, nUser, uCall, apart, noAl, toSVs, toSV, putBack, bosAt, allIm, iSeq, iCall, iCallI, sFor, gSet, gTupD, gsCons, gsNil, gsCons, wipeR, okw, putB, e_lt, e_le, e_gt, e_ge, e_sub, e_addI, gNeg, gInt, List.length_cons, List.length_nil, List.map_cons, List.map_nil, List.cons_append, List.nil_append, List.getElem?_cons_zero, List.getElem?_cons_succ, List.getElem?_nil, List.replicate, List.set_cons_zero, List.set_cons_succ, List.all_cons, List.all_nil, decide_true, decide_false, Nat.sub_self, Nat.reduceAdd, Nat.reduceSub, Nat.reduceEqDiff, Nat.reduceBNe, Bool.not_true, Bool.not_false, Bool.and_true, Bool.true_and, Bool.and_self, Option.getD_some, Option.getD_none, if_true, if_false, ↓reduceIte, s_wholeG, e1, e2, t1, t2]
    rw [t3]
  · by_cases h1 : -G < i <;> by_cases h2 : i < G
    all_goals (conv => lhs; simp only [defF, runF, entry, bos, sSeq, sNil, sIf, sSet, sOwn, sSetL, sPar, sRet, sRetL, sRetN, sExpr, M.bind, M.ret, M.opt, val, look, imm, vals, looks, imms, eVar, eC, eBin, eUn, eCall, eN, eTup, nLst, nCall, aNil, aCons, eAnd, eOr, eNot, eIf, eChain, eSl, oSome, oNone, eTupRg, nLstRg, rOne, rTwo, eMt, eDict0, bVal, bCmp, bBl, bAnd, bOr, bNot, bYes, isBl, truth, Dv.isInt, setIm, setOw, lAt, lPut, eUser, nUser, uCall, apart, noAl, toSVs, toSV, putBack, bosAt, allIm, iSeq, iCall, iCallI, sFor, gSet, gTupD, gsCons, gsNil, gsCons, wipeR, okw, putB, e_lt, e_le, e_gt, e_ge, e_sub, e_addI, gNeg, gInt, List.length_cons, List.length_nil, List.map_cons, List.map_nil, List.cons_append, List.nil_append, List.getElem?_cons_zero, List.getElem?_cons_succ, List.getElem?_nil, List.replicate, List.set_cons_zero, List.set_cons_succ, List.all_cons, List.all_nil, decide_true, decide_false, Nat.sub_self, Nat.reduceAdd, Nat.reduceSub, Nat.reduceEqDiff, Nat.reduceBNe, Bool.not_true, Bool.not_false, Bool.and_true, Bool.true_and, Bool.and_self, Option.getD_some, Option.getD_none, if_true, if_false, ↓reduceIte, s_wholeG, e1, e2, isI, isB, h1, h2])
    all_goals (simp only [wholeB, h1, h2, decide_true, decide_false, Bool.and_true, Bool.and_false])
abbrev GREAT : Int := 1000000000000000000000000000000000000000000000000000000000000
theorem whole_ok (d : D) (h : plain d = true) : F_is_whole [.im d] = some (.im (.bl (wholeB GREAT d)), []) := whole_core GREAT d h
def withB (lo hi : Int) : D → Bool
  | .int i => decide (lo ≤ i) && decide (i ≤ hi)
  | _ => false
theorem withB_int (lo hi i : Int) : withB lo hi (.int i) = (decide (lo ≤ i) && decide (i ≤ hi)) := rfl
theorem within_ok (d : D) (lo hi : Int) (h : plain d = true) (hlo : -1000 < lo) (hhi : hi < 1000) : F_is_within [.im d, .im (.int lo), .im (.int hi)] = some (.im (.bl (withB lo hi d)), []) := by
  have w := whole_ok d h
  cases e : wholeB GREAT d with
  | false =>
    have t : withB lo hi d = false := by
      cases d with
      | int i =>
        rw [wholeB_int] at e
        rw [withB_int]
        by_cases h1 : lo ≤ i
        · by_cases h2 : i ≤ hi
          · exfalso
            have h3 : -GREAT < i := Int.lt_trans (by decide : -GREAT < -1000) (by omega)
            have h4 : i < GREAT := Int.lt_trans (by omega) (by decide : (1000 : Int) < GREAT)
            rw [decide_eq_true h3, decide_eq_true h4] at e
            cases e
          · rw [decide_eq_false h2, Bool.and_false]
        · rw [decide_eq_false h1, Bool.false_and]
      | _ => rfl
    rw [e] at w
    conv => lhs; simp only [defF, runF, entry, bos, sSeq, sNil, sIf, sSet, sOwn, sSetL, sPar, sRet, sRetL, sRetN, sExpr, M.bind, M.ret, M.opt, val, look, imm, vals, looks, imms, eVar, eC, eBin, eUn, eCall, eN, eTup, nLst, nCall, aNil, aCons, eAnd, eOr, eNot, eIf, eChain, eSl, oSome, oNone, eTupRg, nLstRg, rOne, rTwo, eMt, eDict0, bVal, bCmp, bBl, bAnd, bOr, bNot, bYes, isBl, truth, Dv.isInt, setIm, setOw, lAt, lPut, eUser, nUser, uCall, apart, noAl, toSVs, toSV, putBack, bosAt, allIm, iSeq, iCall, iCallI, sFor, gSet, gTupD, gsCons, gsNil, gsCons, wipeR, okw, putB, e_lt, e_le, e_gt, e_ge, e_sub, e_addI, gNeg, gInt, List.length_cons, List.length_nil, List.map_cons, List.map_nil, List.cons_append, List.nil_append, List.getElem?_cons_zero, List.getElem?_cons_succ, List.getElem?_nil, List.replicate, List.set_cons_zero, List.set_cons_succ, List.all_cons, List.all_nil, decide_true, decide_false, Nat.sub_self, Nat.reduceAdd, Nat.reduceSub, Nat.reduceEqDiff, Nat.reduceBNe, Bool.not_true, Bool.not_false, Bool.and_true, Bool.true_and, Bool.and_self, Option.getD_some, Option.getD_none, if_true, if_false, ↓reduceIte, F_is_within, s_is_within, w]
    rw [t]
  | true =>
    rw [e] at w
    have hi' : ∃ i, d = .int i := by cases d <;> first | exact ⟨_, rfl⟩ | (cases e; done)
    obtain ⟨i, rfl⟩ := hi'
    by_cases h1 : lo ≤ i <;> by_cases h2 : i ≤ hi
    all_goals (conv => lhs; simp only [defF, runF, entry, bos, sSeq, sNil, sIf, sSet, sOwn, sSetL, sPar, sRet, sRetL, sRetN, sExpr, M.bind, M.ret, M.opt, val, look, imm, vals, looks, imms, eVar, eC, eBin, eUn, eCall, eN, eTup, nLst, nCall, aNil, aCons, eAnd, eOr, eNot, eIf, eChain, eSl, oSome, oNone, eTupRg, nLstRg, rOne, rTwo, eMt, eDict0, bVal, bCmp, bBl, bAnd, bOr, bNot, bYes, isBl, truth, Dv.isInt, setIm, setOw, lAt, lPut, eUser, nUser, uCall, apart, noAl, toSVs, toSV, putBack, bosAt, allIm, iSeq, iCall, iCallI, sFor, gSet, gTupD, gsCons, gsNil, gsCons, wipeR, okw, putB, e_lt, e_le, e_gt, e_ge, e_sub, e_addI, gNeg, gInt, List.length_cons, List.length_nil, List.map_cons, List.map_nil, List.cons_append, List.nil_append, List.getElem?_cons_zero, List.getElem?_cons_succ, List.getElem?_nil, List.replicate, List.set_cons_zero, List.set_cons_succ, List.all_cons, List.all_nil, decide_true, decide_false, Nat.sub_self, Nat.reduceAdd, Nat.reduceSub, Nat.reduceEqDiff, Nat.reduceBNe, Bool.not_true, Bool.not_false, Bool.and_true, Bool.true_and, Bool.and_self, Option.getD_some, Option.getD_none, if_true, if_false, ↓reduceIte, F_is_within, s_is_within, w, h1, h2])
    all_goals (simp only [withB, h1, h2, decide_true, decide_false, Bool.and_true, Bool.and_false])
theorem size_ok {n : Int} (h1 : 1 ≤ n) (h9 : n ≤ 9) : F_require_size [.im (.int n)] = some (.im .non, []) := by
  have w := within_ok (.int n) 1 9 rfl (by decide) (by decide)
  have t : withB 1 9 (.int n) = true := by rw [withB_int, decide_eq_true h1, decide_eq_true h9]; rfl
  rw [t] at w
  conv => lhs; simp only [defF, runF, entry, bos, sSeq, sNil, sIf, sSet, sOwn, sSetL, sPar, sRet, sRetL, sRetN, sExpr, M.bind, M.ret, M.opt, val, look, imm, vals, looks, imms, eVar, eC, eBin, eUn, eCall, eN, eTup, nLst, nCall, aNil, aCons, eAnd, eOr, eNot, eIf, eChain, eSl, oSome, oNone, eTupRg, nLstRg, rOne, rTwo, eMt, eDict0, bVal, bCmp, bBl, bAnd, bOr, bNot, bYes, isBl, truth, Dv.isInt, setIm, setOw, lAt, lPut, eUser, nUser, uCall, apart, noAl, toSVs, toSV, putBack, bosAt, allIm, iSeq, iCall, iCallI, sFor, gSet, gTupD, gsCons, gsNil, gsCons, wipeR, okw, putB, e_lt, e_le, e_gt, e_ge, e_sub, e_addI, gNeg, gInt, List.length_cons, List.length_nil, List.map_cons, List.map_nil, List.cons_append, List.nil_append, List.getElem?_cons_zero, List.getElem?_cons_succ, List.getElem?_nil, List.replicate, List.set_cons_zero, List.set_cons_succ, List.all_cons, List.all_nil, decide_true, decide_false, Nat.sub_self, Nat.reduceAdd, Nat.reduceSub, Nat.reduceEqDiff, Nat.reduceBNe, Bool.not_true, Bool.not_false, Bool.and_true, Bool.true_and, Bool.and_self, Option.getD_some, Option.getD_none, if_true, if_false, ↓reduceIte, F_require_size, s_require_size, w]
def optB (n : Int) (d : D) : Bool := withB 0 (n - 1) d
theorem option_ok {n : Int} (d : D) (h : plain d = true) (h9 : n ≤ 9) : F_is_option [.im (.int n), .im d] = some (.im (.bl (optB n d)), []) := by
  have w := within_ok d 0 (n - 1) h (by decide) (by omega)
  conv => lhs; simp only [defF, runF, entry, bos, sSeq, sNil, sIf, sSet, sOwn, sSetL, sPar, sRet, sRetL, sRetN, sExpr, M.bind, M.ret, M.opt, val, look, imm, vals, looks, imms, eVar, eC, eBin, eUn, eCall, eN, eTup, nLst, nCall, aNil, aCons, eAnd, eOr, eNot, eIf, eChain, eSl, oSome, oNone, eTupRg, nLstRg, rOne, rTwo, eMt, eDict0, bVal, bCmp, bBl, bAnd, bOr, bNot, bYes, isBl, truth, Dv.isInt, setIm, setOw, lAt, lPut, eUser, nUser, uCall, apart, noAl, toSVs, toSV, putBack, bosAt, allIm, iSeq, iCall, iCallI, sFor, gSet, gTupD, gsCons, gsNil, gsCons, wipeR, okw, putB, e_lt, e_le, e_gt, e_ge, e_sub, e_addI, gNeg, gInt, List.length_cons, List.length_nil, List.map_cons, List.map_nil, List.cons_append, List.nil_append, List.getElem?_cons_zero, List.getElem?_cons_succ, List.getElem?_nil, List.replicate, List.set_cons_zero, List.set_cons_succ, List.all_cons, List.all_nil, decide_true, decide_false, Nat.sub_self, Nat.reduceAdd, Nat.reduceSub, Nat.reduceEqDiff, Nat.reduceBNe, Bool.not_true, Bool.not_false, Bool.and_true, Bool.true_and, Bool.and_self, Option.getD_some, Option.getD_none, if_true, if_false, ↓reduceIte, F_is_option, s_is_option, w]
  rfl
def ltB : D → D → Bool
  | .int i, .int j => decide (i < j)
  | _, _ => false
def asc : List D → Bool
  | a :: b :: r => ltB a b && asc (b :: r)
  | _ => true
def lotB (n : Int) : D → Bool
  | .tup xs => xs.all (optB n) && asc xs
  | _ => false
theorem asc_zip : ∀ xs : List D, ((xs.zip (xs.drop 1)).all fun p => ltB p.1 p.2) = asc xs
  | [] => rfl
  | [a] => rfl
  | a :: b :: r => by
    have ih := asc_zip (b :: r)
    show (((a, b) :: ((b :: r).zip r)).all fun p => ltB p.1 p.2) = (ltB a b && asc (b :: r))
    rw [List.all_cons]
    exact congrArg _ ih
theorem opt_int {n : Int} {d : D} (h : optB n d = true) : ∃ i, d = .int i := by
  cases d <;> first | exact ⟨_, rfl⟩ | (cases h; done)
theorem lot_of_2 {n : Int} {xs : List D} (h9 : n ≤ 9) (hp : ∀ x ∈ xs, plain x = true) (hl : xs.length ≤ 1000000) : c_is_lot_of_2 [some (.im (.int n)), some (.im (.tup xs)), none, none] = .ok (xs.map fun d => .bl (optB n d)) [some (.im (.int n)), some (.im (.tup xs)), none, none] := by
  have e := nLc_im (v := 2) (fi := iSeq (eVar 1)) (gt := bYes) (fe := eUser F_is_option (aCons (eVar 0) (aCons (eVar 2) aNil))) (ρ := [some (.im (.int n)), some (.im (.tup xs)), none, none]) (xs := xs) (fun _ => true) (fun d => .bl (optB n d)) (by conv => lhs; simp only [defF, runF, entry, bos, sSeq, sNil, sIf, sSet, sOwn, sSetL, sPar, sRet, sRetL, sRetN, sExpr, M.bind, M.ret, M.opt, val, look, imm, vals, looks, imms, eVar, eC, eBin, eUn, eCall, eN, eTup, nLst, nCall, aNil, aCons, eAnd, eOr, eNot, eIf, eChain, eSl, oSome, oNone, eTupRg, nLstRg, rOne, rTwo, eMt, eDict0, bVal, bCmp, bBl, bAnd, bOr, bNot, bYes, isBl, truth, Dv.isInt, setIm, setOw, lAt, lPut, eUser, nUser, uCall, apart, noAl, toSVs, toSV, putBack, bosAt, allIm, iSeq, iCall, iCallI, sFor, gSet, gTupD, gsCons, gsNil, gsCons, wipeR, okw, putB, e_lt, e_le, e_gt, e_ge, e_sub, e_addI, gNeg, gInt, List.length_cons, List.length_nil, List.map_cons, List.map_nil, List.cons_append, List.nil_append, List.getElem?_cons_zero, List.getElem?_cons_succ, List.getElem?_nil, List.replicate, List.set_cons_zero, List.set_cons_succ, List.all_cons, List.all_nil, decide_true, decide_false, Nat.sub_self, Nat.reduceAdd, Nat.reduceSub, Nat.reduceEqDiff, Nat.reduceBNe, Bool.not_true, Bool.not_false, Bool.and_true, Bool.true_and, Bool.and_self, Option.getD_some, Option.getD_none, if_true, if_false, ↓reduceIte]) rfl (by show 2 < 4; decide) hl (fun d hd => by
    have w := option_ok d (hp d hd) h9
    refine ⟨rfl, fun _ => ?_⟩
    (conv => lhs; simp only [defF, runF, entry, bos, sSeq, sNil, sIf, sSet, sOwn, sSetL, sPar, sRet, sRetL, sRetN, sExpr, M.bind, M.ret, M.opt, val, look, imm, vals, looks, imms, eVar, eC, eBin, eUn, eCall, eN, eTup, nLst, nCall, aNil, aCons, eAnd, eOr, eNot, eIf, eChain, eSl, oSome, oNone, eTupRg, nLstRg, rOne, rTwo, eMt, eDict0, bVal, bCmp, bBl, bAnd, bOr, bNot, bYes, isBl, truth, Dv.isInt, setIm, setOw, lAt, lPut, eUser, nUser, uCall, apart, noAl, toSVs, toSV, putBack, bosAt, allIm, iSeq, iCall, iCallI, sFor, gSet, gTupD, gsCons, gsNil, gsCons, wipeR, okw, putB, e_lt, e_le, e_gt, e_ge, e_sub, e_addI, gNeg, gInt, List.length_cons, List.length_nil, List.map_cons, List.map_nil, List.cons_append, List.nil_append, List.getElem?_cons_zero, List.getElem?_cons_succ, List.getElem?_nil, List.replicate, List.set_cons_zero, List.set_cons_succ, List.all_cons, List.all_nil, decide_true, decide_false, Nat.sub_self, Nat.reduceAdd, Nat.reduceSub, Nat.reduceEqDiff, Nat.reduceBNe, Bool.not_true, Bool.not_false, Bool.and_true, Bool.true_and, Bool.and_self, Option.getD_some, Option.getD_none, if_true, if_false, ↓reduceIte, w]) <;> try rfl)
  rw [List.filter_eq_self.mpr (by simp)] at e
  exact e
theorem lot_of_1 {n : Int} {xs : List D} (hx : ∀ x ∈ xs, ∃ i, x = D.int i) (hl : xs.length ≤ 1000000) : c_is_lot_of_1 [some (.im (.int n)), some (.im (.tup xs)), none, none] = .ok ((xs.zip (xs.drop 1)).map fun p => .bl (ltB p.1 p.2)) [some (.im (.int n)), some (.im (.tup xs)), none, none] := by
  have z : gSl (.tup xs) (some 1) none = some (.tup (xs.drop 1)) := by show some (D.tup (cutD xs (some 1) none)) = _; rw [cut1]
  have gz : gZip [.tup xs, .tup (xs.drop 1)] = some ((xs.zip (xs.drop 1)).map fun p => .tw [p.1, p.2]) := rfl
  have e := nLc_pure (vs := [2, 3]) (fi := iCallI gZip (aCons (eVar 1) (aCons (eSl (eVar 1) (oSome (eC (.int 1))) oNone) aNil))) (g := gTupD 2 (gsCons (gSet 2) (gsCons (gSet 3) gsNil))) (gt := bYes) (fe := eBin gLt (eVar 2) (eVar 3)) (ρ := [some (.im (.int n)), some (.im (.tup xs)), none, none])
    (ds := (xs.zip (xs.drop 1)).map fun p => .tw [p.1, p.2]) (fun _ => true) (fun d => match d with
    | .tw [a, b] => .bl (ltB a b)
    | _ => .non) (by conv => lhs; simp only [defF, runF, entry, bos, sSeq, sNil, sIf, sSet, sOwn, sSetL, sPar, sRet, sRetL, sRetN, sExpr, M.bind, M.ret, M.opt, val, look, imm, vals, looks, imms, eVar, eC, eBin, eUn, eCall, eN, eTup, nLst, nCall, aNil, aCons, eAnd, eOr, eNot, eIf, eChain, eSl, oSome, oNone, eTupRg, nLstRg, rOne, rTwo, eMt, eDict0, bVal, bCmp, bBl, bAnd, bOr, bNot, bYes, isBl, truth, Dv.isInt, setIm, setOw, lAt, lPut, eUser, nUser, uCall, apart, noAl, toSVs, toSV, putBack, bosAt, allIm, iSeq, iCall, iCallI, sFor, gSet, gTupD, gsCons, gsNil, gsCons, wipeR, okw, putB, e_lt, e_le, e_gt, e_ge, e_sub, e_addI, gNeg, gInt, List.length_cons, List.length_nil, List.map_cons, List.map_nil, List.cons_append, List.nil_append, List.getElem?_cons_zero, List.getElem?_cons_succ, List.getElem?_nil, List.replicate, List.set_cons_zero, List.set_cons_succ, List.all_cons, List.all_nil, decide_true, decide_false, Nat.sub_self, Nat.reduceAdd, Nat.reduceSub, Nat.reduceEqDiff, Nat.reduceBNe, Bool.not_true, Bool.not_false, Bool.and_true, Bool.true_and, Bool.and_self, Option.getD_some, Option.getD_none, if_true, if_false, ↓reduceIte, z, gz]) rfl (by rw [List.length_map, List.length_zip]; omega) (fun d hd => by
      obtain ⟨⟨a, b⟩, hm, rfl⟩ := List.mem_map.mp hd
      obtain ⟨h1, h2⟩ := List.of_mem_zip hm
      obtain ⟨i, rfl⟩ := hx a h1
      obtain ⟨j, rfl⟩ := hx b (List.mem_of_mem_drop h2)
      refine ⟨[some (.im (.int n)), some (.im (.tup xs)), some (.im (.int i)), some (.im (.int j))], ?_, rfl, fun _ => ?_, rfl⟩
      · (conv => lhs; simp only [defF, runF, entry, bos, sSeq, sNil, sIf, sSet, sOwn, sSetL, sPar, sRet, sRetL, sRetN, sExpr, M.bind, M.ret, M.opt, val, look, imm, vals, looks, imms, eVar, eC, eBin, eUn, eCall, eN, eTup, nLst, nCall, aNil, aCons, eAnd, eOr, eNot, eIf, eChain, eSl, oSome, oNone, eTupRg, nLstRg, rOne, rTwo, eMt, eDict0, bVal, bCmp, bBl, bAnd, bOr, bNot, bYes, isBl, truth, Dv.isInt, setIm, setOw, lAt, lPut, eUser, nUser, uCall, apart, noAl, toSVs, toSV, putBack, bosAt, allIm, iSeq, iCall, iCallI, sFor, gSet, gTupD, gsCons, gsNil, gsCons, wipeR, okw, putB, e_lt, e_le, e_gt, e_ge, e_sub, e_addI, gNeg, gInt, List.length_cons, List.length_nil, List.map_cons, List.map_nil, List.cons_append, List.nil_append, List.getElem?_cons_zero, List.getElem?_cons_succ, List.getElem?_nil, List.replicate, List.set_cons_zero, List.set_cons_succ, List.all_cons, List.all_nil, decide_true, decide_false, Nat.sub_self, Nat.reduceAdd, Nat.reduceSub, Nat.reduceEqDiff, Nat.reduceBNe, Bool.not_true, Bool.not_false, Bool.and_true, Bool.true_and, Bool.and_self, Option.getD_some, Option.getD_none, if_true, if_false, ↓reduceIte]) <;> try rfl
      · (conv => lhs; simp only [defF, runF, entry, bos, sSeq, sNil, sIf, sSet, sOwn, sSetL, sPar, sRet, sRetL, sRetN, sExpr, M.bind, M.ret, M.opt, val, look, imm, vals, looks, imms, eVar, eC, eBin, eUn, eCall, eN, eTup, nLst, nCall, aNil, aCons, eAnd, eOr, eNot, eIf, eChain, eSl, oSome, oNone, eTupRg, nLstRg, rOne, rTwo, eMt, eDict0, bVal, bCmp, bBl, bAnd, bOr, bNot, bYes, isBl, truth, Dv.isInt, setIm, setOw, lAt, lPut, eUser, nUser, uCall, apart, noAl, toSVs, toSV, putBack, bosAt, allIm, iSeq, iCall, iCallI, sFor, gSet, gTupD, gsCons, gsNil, gsCons, wipeR, okw, putB, e_lt, e_le, e_gt, e_ge, e_sub, e_addI, gNeg, gInt, List.length_cons, List.length_nil, List.map_cons, List.map_nil, List.cons_append, List.nil_append, List.getElem?_cons_zero, List.getElem?_cons_succ, List.getElem?_nil, List.replicate, List.set_cons_zero, List.set_cons_succ, List.all_cons, List.all_nil, decide_true, decide_false, Nat.sub_self, Nat.reduceAdd, Nat.reduceSub, Nat.reduceEqDiff, Nat.reduceBNe, Bool.not_true, Bool.not_false, Bool.and_true, Bool.true_and, Bool.and_self, Option.getD_some, Option.getD_none, if_true, if_false, ↓reduceIte]) <;> try rfl)
  rw [List.filter_eq_self.mpr (by simp), List.map_map] at e
  exact e
theorem is_lot_of_ok {n : Int} {d : D} (h9 : n ≤ 9) (hp : plain d = true) (hx : ∀ xs, d = .tup xs → (∀ x ∈ xs, plain x = true) ∧ xs.length ≤ 1000000) : F_is_lot_of [.im (.int n), .im d] = some (.im (.bl (lotB n d)), []) := by
  have e1 := isi_tup d hp
  cases ht : isT d with
  | false =>
    have el : lotB n d = false := by cases d <;> first | rfl | (cases ht; done)
    conv => lhs; simp only [defF, runF, entry, bos, sSeq, sNil, sIf, sSet, sOwn, sSetL, sPar, sRet, sRetL, sRetN, sExpr, M.bind, M.ret, M.opt, val, look, imm, vals, looks, imms, eVar, eC, eBin, eUn, eCall, eN, eTup, nLst, nCall, aNil, aCons, eAnd, eOr, eNot, eIf, eChain, eSl, oSome, oNone, eTupRg, nLstRg, rOne, rTwo, eMt, eDict0, bVal, bCmp, bBl, bAnd, bOr, bNot, bYes, isBl, truth, Dv.isInt, setIm, setOw, lAt, lPut, eUser, nUser, uCall, apart, noAl, toSVs, toSV, putBack, bosAt, allIm, iSeq, iCall, iCallI, sFor, gSet, gTupD, gsCons, gsNil, gsCons, wipeR, okw, putB, e_lt, e_le, e_gt, e_ge, e_sub, e_addI, gNeg, gInt, List.length_cons, List.length_nil, List.map_cons, List.map_nil, List.cons_append, List.nil_append, List.getElem?_cons_zero, List.getElem?_cons_succ, List.getElem?_nil, List.replicate, List.set_cons_zero, List.set_cons_succ, List.all_cons, List.all_nil, decide_true, decide_false, Nat.sub_self, Nat.reduceAdd, Nat.reduceSub, Nat.reduceEqDiff, Nat.reduceBNe, Bool.not_true, Bool.not_false, Bool.and_true, Bool.true_and, Bool.and_self, Option.getD_some, Option.getD_none, if_true, if_false, ↓reduceIte, F_is_lot_of, s_is_lot_of, e1, ht]
    rw [el]
  | true =>
    obtain ⟨xs, rfl⟩ : ∃ xs, d = .tup xs := by cases d <;> first | exact ⟨_, rfl⟩ | (cases ht; done)
    obtain ⟨h1, h2⟩ := hx xs rfl
    have c2 := lot_of_2 (n := n) h9 h1 h2
    have a2 := gAll_of (optB n) xs
    have el : lotB n (.tup xs) = (xs.all (optB n) && asc xs) := rfl
    rw [el]
    cases ha : xs.all (optB n) with
    | false =>
      rw [ha] at a2
      conv => lhs; simp only [defF, runF, entry, bos, sSeq, sNil, sIf, sSet, sOwn, sSetL, sPar, sRet, sRetL, sRetN, sExpr, M.bind, M.ret, M.opt, val, look, imm, vals, looks, imms, eVar, eC, eBin, eUn, eCall, eN, eTup, nLst, nCall, aNil, aCons, eAnd, eOr, eNot, eIf, eChain, eSl, oSome, oNone, eTupRg, nLstRg, rOne, rTwo, eMt, eDict0, bVal, bCmp, bBl, bAnd, bOr, bNot, bYes, isBl, truth, Dv.isInt, setIm, setOw, lAt, lPut, eUser, nUser, uCall, apart, noAl, toSVs, toSV, putBack, bosAt, allIm, iSeq, iCall, iCallI, sFor, gSet, gTupD, gsCons, gsNil, gsCons, wipeR, okw, putB, e_lt, e_le, e_gt, e_ge, e_sub, e_addI, gNeg, gInt, List.length_cons, List.length_nil, List.map_cons, List.map_nil, List.cons_append, List.nil_append, List.getElem?_cons_zero, List.getElem?_cons_succ, List.getElem?_nil, List.replicate, List.set_cons_zero, List.set_cons_succ, List.all_cons, List.all_nil, decide_true, decide_false, Nat.sub_self, Nat.reduceAdd, Nat.reduceSub, Nat.reduceEqDiff, Nat.reduceBNe, Bool.not_true, Bool.not_false, Bool.and_true, Bool.true_and, Bool.and_self, Option.getD_some, Option.getD_none, if_true, if_false, ↓reduceIte, F_is_lot_of, s_is_lot_of, e1, ht, c2, a2]
      rfl
    | true =>
      rw [ha] at a2
      have c1 := lot_of_1 (n := n) (fun x hx => opt_int (List.all_eq_true.mp ha x hx)) h2
      have a1 := gAll_of (fun p : D × D => ltB p.1 p.2) (xs.zip (xs.drop 1))
      rw [asc_zip] at a1
      conv => lhs; simp only [defF, runF, entry, bos, sSeq, sNil, sIf, sSet, sOwn, sSetL, sPar, sRet, sRetL, sRetN, sExpr, M.bind, M.ret, M.opt, val, look, imm, vals, looks, imms, eVar, eC, eBin, eUn, eCall, eN, eTup, nLst, nCall, aNil, aCons, eAnd, eOr, eNot, eIf, eChain, eSl, oSome, oNone, eTupRg, nLstRg, rOne, rTwo, eMt, eDict0, bVal, bCmp, bBl, bAnd, bOr, bNot, bYes, isBl, truth, Dv.isInt, setIm, setOw, lAt, lPut, eUser, nUser, uCall, apart, noAl, toSVs, toSV, putBack, bosAt, allIm, iSeq, iCall, iCallI, sFor, gSet, gTupD, gsCons, gsNil, gsCons, wipeR, okw, putB, e_lt, e_le, e_gt, e_ge, e_sub, e_addI, gNeg, gInt, List.length_cons, List.length_nil, List.map_cons, List.map_nil, List.cons_append, List.nil_append, List.getElem?_cons_zero, List.getElem?_cons_succ, List.getElem?_nil, List.replicate, List.set_cons_zero, List.set_cons_succ, List.all_cons, List.all_nil, decide_true, decide_false, Nat.sub_self, Nat.reduceAdd, Nat.reduceSub, Nat.reduceEqDiff, Nat.reduceBNe, Bool.not_true, Bool.not_false, Bool.and_true, Bool.true_and, Bool.and_self, Option.getD_some, Option.getD_none, if_true, if_false, ↓reduceIte, F_is_lot_of, s_is_lot_of, e1, ht, c2, a2, c1, a1]
      rw [Bool.true_and]
end K01
namespace K01
open PySem PySem.Spec PyProof.Rows L2 Dv
theorem optB_int (n i : Int) : optB n (.int i) = (decide (0 ≤ i) && decide (i ≤ n - 1)) := rfl
theorem asc_iff : ∀ l : List Int, asc (iD l) = true ↔ l.Pairwise (· < ·)
  | [] => by simp [asc]
  | [a] => by simp [asc]
  | a :: b :: r => by
    have ih := asc_iff (b :: r)
    have e : asc (iD (a :: b :: r)) = (decide (a < b) && asc (iD (b :: r))) := rfl
    rw [e, Bool.and_eq_true, ih, decide_eq_true_iff]
    constructor
    · rintro ⟨h1, h2⟩
      refine List.pairwise_cons.mpr ⟨fun x hx => ?_, h2⟩
      rcases List.mem_cons.mp hx with rfl | hx
      · exact h1
      · have := (List.pairwise_cons.mp h2).1 x hx; omega
    · intro h
      obtain ⟨h1, h2⟩ := List.pairwise_cons.mp h
      exact ⟨h1 b List.mem_cons_self, h2⟩
theorem all_opt {n : Int} : ∀ l : List Int, (iD l).all (optB n) = true ↔ ∀ x ∈ l, 0 ≤ x ∧ x < n
  | l => by
    rw [List.all_eq_true]
    constructor
    · intro h x hx
      have := h (.int x) (List.mem_map.mpr ⟨x, hx, rfl⟩)
      rw [optB_int, Bool.and_eq_true, decide_eq_true_iff, decide_eq_true_iff] at this
      omega
    · intro h d hd
      obtain ⟨x, hx, rfl⟩ := List.mem_map.mp hd
      have := h x hx
      rw [optB_int, Bool.and_eq_true, decide_eq_true_iff, decide_eq_true_iff]
      omega
theorem lotB_iff {n : Int} {l : List Int} : lotB n (.tup (iD l)) = true ↔ Lot n l := by
  have e : lotB n (.tup (iD l)) = ((iD l).all (optB n) && asc (iD l)) := rfl
  rw [e, Bool.and_eq_true, all_opt, asc_iff]
  exact ⟨fun h => ⟨h.2, h.1⟩, fun h => ⟨h.2, h.1⟩⟩
theorem plain_ints : ∀ l : List Int, ∀ x ∈ iD l, plain x = true := fun l x hx => by
  obtain ⟨i, _, rfl⟩ := List.mem_map.mp hx
  rfl
theorem is_lot_of_lot {n : Int} {l : List Int} (h9 : n ≤ 9) (hl : l.length ≤ 1000000) (h : Lot n l) : F_is_lot_of [.im (.int n), .im (.tup (iD l))] = some (.im (.bl true), []) := by
  rw [is_lot_of_ok h9 rfl fun xs e => by cases e; exact ⟨plain_ints l, by simpa using hl⟩, lotB_iff.mpr h]
theorem any_ok {n : Int} {l : List Int} (h9 : n ≤ 9) (hl : l.length ≤ 1000000) (h : Lot n l) : F_require_any_lot [.im (.int n), .im (.tup (iD l))] = some (.im .non, []) := by
  have w := is_lot_of_lot h9 hl h
  conv => lhs; simp only [defF, runF, entry, bos, sSeq, sNil, sIf, sSet, sOwn, sSetL, sPar, sRet, sRetL, sRetN, sExpr, M.bind, M.ret, M.opt, val, look, imm, vals, looks, imms, eVar, eC, eBin, eUn, eCall, eN, eTup, nLst, nCall, aNil, aCons, eAnd, eOr, eNot, eIf, eChain, eSl, oSome, oNone, eTupRg, nLstRg, rOne, rTwo, eMt, eDict0, bVal, bCmp, bBl, bAnd, bOr, bNot, bYes, isBl, truth, Dv.isInt, setIm, setOw, lAt, lPut, eUser, nUser, uCall, apart, noAl, toSVs, toSV, putBack, bosAt, allIm, iSeq, iCall, iCallI, sFor, gSet, gTupD, gsCons, gsNil, gsCons, wipeR, okw, putB, e_lt, e_le, e_gt, e_ge, e_sub, e_addI, gNeg, gInt, List.length_cons, List.length_nil, List.map_cons, List.map_nil, List.cons_append, List.nil_append, List.getElem?_cons_zero, List.getElem?_cons_succ, List.getElem?_nil, List.replicate, List.set_cons_zero, List.set_cons_succ, List.all_cons, List.all_nil, decide_true, decide_false, Nat.sub_self, Nat.reduceAdd, Nat.reduceSub, Nat.reduceEqDiff, Nat.reduceBNe, Bool.not_true, Bool.not_false, Bool.and_true, Bool.true_and, Bool.and_self, Option.getD_some, Option.getD_none, if_true, if_false, ↓reduceIte, F_require_any_lot, s_require_any_lot, w]
theorem Lot_len {n : Int} {l : List Int} (h : Lot n l) (h0 : n ≤ 9) : l.length ≤ 9 := by
  have e : l = picks 9 (fun i => decide ((i : Int) ∈ l)) := h.uniq (picks_lot 9 _) fun k => by
    rw [mem_picks]
    constructor
    · intro hk
      have := h.2 k hk
      exact ⟨k.toNat, by omega, by omega, by rw [Int.toNat_of_nonneg this.1]; exact decide_eq_true hk⟩
    · rintro ⟨i, rfl, _, h2⟩
      exact of_decide_eq_true h2
  rw [e]
  unfold picks
  rw [List.length_map]
  exact Nat.le_trans (List.length_filter_le _ _) (by simp)
theorem two_ok {n : Int} {a b : List Int} (h1 : 1 ≤ n) (h9 : n ≤ 9) (ha : Lot n a) (hb : Lot n b) : F_require_two [.im (.int n), .im (.tup (iD a)), .im (.tup (iD b))] = some (.im .non, []) := by
  have w1 := size_ok h1 h9
  have w2 := any_ok h9 (Nat.le_trans (Lot_len ha h9) (by decide)) ha
  have w3 := any_ok h9 (Nat.le_trans (Lot_len hb h9) (by decide)) hb
  conv => lhs; simp only [defF, runF, entry, bos, sSeq, sNil, sIf, sSet, sOwn, sSetL, sPar, sRet, sRetL, sRetN, sExpr, M.bind, M.ret, M.opt, val, look, imm, vals, looks, imms, eVar, eC, eBin, eUn, eCall, eN, eTup, nLst, nCall, aNil, aCons, eAnd, eOr, eNot, eIf, eChain, eSl, oSome, oNone, eTupRg, nLstRg, rOne, rTwo, eMt, eDict0, bVal, bCmp, bBl, bAnd, bOr, bNot, bYes, isBl, truth, Dv.isInt, setIm, setOw, lAt, lPut, eUser, nUser, uCall, apart, noAl, toSVs, toSV, putBack, bosAt, allIm, iSeq, iCall, iCallI, sFor, gSet, gTupD, gsCons, gsNil, gsCons, wipeR, okw, putB, e_lt, e_le, e_gt, e_ge, e_sub, e_addI, gNeg, gInt, List.length_cons, List.length_nil, List.map_cons, List.map_nil, List.cons_append, List.nil_append, List.getElem?_cons_zero, List.getElem?_cons_succ, List.getElem?_nil, List.replicate, List.set_cons_zero, List.set_cons_succ, List.all_cons, List.all_nil, decide_true, decide_false, Nat.sub_self, Nat.reduceAdd, Nat.reduceSub, Nat.reduceEqDiff, Nat.reduceBNe, Bool.not_true, Bool.not_false, Bool.and_true, Bool.true_and, Bool.and_self, Option.getD_some, Option.getD_none, if_true, if_false, ↓reduceIte, F_require_two, s_require_two, w1, w2, w3]
theorem bits_ok {n : Int} {l : List Int} (h9 : n ≤ 9) (h : Lot n l) : F_bits [.im (.tup (iD l))] = some (.im (.int (bN l : Int)), []) := by
  have e := nLc_im (v := 1) (fi := iSeq (eVar 0)) (gt := bYes) (fe := eBin gShl (eC (.int 1)) (eVar 1)) (ρ := [some (.im (.tup (iD l))), none]) (xs := iD l) (fun _ => true) (fun d => match d with
    | .int i => .int (1 * 2 ^ i.toNat)
    | _ => .non) (by conv => lhs; simp only [defF, runF, entry, bos, sSeq, sNil, sIf, sSet, sOwn, sSetL, sPar, sRet, sRetL, sRetN, sExpr, M.bind, M.ret, M.opt, val, look, imm, vals, looks, imms, eVar, eC, eBin, eUn, eCall, eN, eTup, nLst, nCall, aNil, aCons, eAnd, eOr, eNot, eIf, eChain, eSl, oSome, oNone, eTupRg, nLstRg, rOne, rTwo, eMt, eDict0, bVal, bCmp, bBl, bAnd, bOr, bNot, bYes, isBl, truth, Dv.isInt, setIm, setOw, lAt, lPut, eUser, nUser, uCall, apart, noAl, toSVs, toSV, putBack, bosAt, allIm, iSeq, iCall, iCallI, sFor, gSet, gTupD, gsCons, gsNil, gsCons, wipeR, okw, putB, e_lt, e_le, e_gt, e_ge, e_sub, e_addI, gNeg, gInt, List.length_cons, List.length_nil, List.map_cons, List.map_nil, List.cons_append, List.nil_append, List.getElem?_cons_zero, List.getElem?_cons_succ, List.getElem?_nil, List.replicate, List.set_cons_zero, List.set_cons_succ, List.all_cons, List.all_nil, decide_true, decide_false, Nat.sub_self, Nat.reduceAdd, Nat.reduceSub, Nat.reduceEqDiff, Nat.reduceBNe, Bool.not_true, Bool.not_false, Bool.and_true, Bool.true_and, Bool.and_self, Option.getD_some, Option.getD_none, if_true, if_false, ↓reduceIte]) rfl (by show 1 < 2; decide) (by have := Lot_len h h9; simp; omega) (fun d hd => by
    obtain ⟨i, hi, rfl⟩ := List.mem_map.mp hd
    have hb := h.2 i hi
    have s : gShl (.int 1) (.int i) = some (.int (1 * 2 ^ i.toNat)) := by
      have c : cPow 1 i = true := by
        unfold cPow
        rw [Bool.and_eq_true, Bool.and_eq_true]
        exact ⟨⟨decide_eq_true hb.1, decide_eq_true (by omega)⟩, by decide⟩
      unfold gShl gI
      simp only [c, if_true]
    refine ⟨rfl, fun _ => ?_⟩
    (conv => lhs; simp only [defF, runF, entry, bos, sSeq, sNil, sIf, sSet, sOwn, sSetL, sPar, sRet, sRetL, sRetN, sExpr, M.bind, M.ret, M.opt, val, look, imm, vals, looks, imms, eVar, eC, eBin, eUn, eCall, eN, eTup, nLst, nCall, aNil, aCons, eAnd, eOr, eNot, eIf, eChain, eSl, oSome, oNone, eTupRg, nLstRg, rOne, rTwo, eMt, eDict0, bVal, bCmp, bBl, bAnd, bOr, bNot, bYes, isBl, truth, Dv.isInt, setIm, setOw, lAt, lPut, eUser, nUser, uCall, apart, noAl, toSVs, toSV, putBack, bosAt, allIm, iSeq, iCall, iCallI, sFor, gSet, gTupD, gsCons, gsNil, gsCons, wipeR, okw, putB, e_lt, e_le, e_gt, e_ge, e_sub, e_addI, gNeg, gInt, List.length_cons, List.length_nil, List.map_cons, List.map_nil, List.cons_append, List.nil_append, List.getElem?_cons_zero, List.getElem?_cons_succ, List.getElem?_nil, List.replicate, List.set_cons_zero, List.set_cons_succ, List.all_cons, List.all_nil, decide_true, decide_false, Nat.sub_self, Nat.reduceAdd, Nat.reduceSub, Nat.reduceEqDiff, Nat.reduceBNe, Bool.not_true, Bool.not_false, Bool.and_true, Bool.true_and, Bool.and_self, Option.getD_some, Option.getD_none, if_true, if_false, ↓reduceIte, s]) <;> try rfl)
  rw [List.filter_eq_self.mpr (by simp), List.map_map] at e
  have c : c_bits_1 [some (.im (.tup (iD l))), none] = .ok (l.map fun i => .int (1 * 2 ^ i.toNat)) [some (.im (.tup (iD l))), none] := e
  have s : gSum [.lst (l.map fun i => .int (1 * 2 ^ i.toNat))] = some (.int (l.map fun i => (1 : Int) * 2 ^ i.toNat).sum) := by
    unfold gSum
    simp only [asInts_of]
  have z : (l.map fun i => (1 : Int) * 2 ^ i.toNat).sum = (bN l : Int) := by
    clear e c s h
    induction l with
    | nil => rfl
    | cons a r ih =>
      have e2 : bN (a :: r) = 2 ^ a.toNat + bN r := by unfold bN; rw [List.map_cons, List.sum_cons]
      rw [List.map_cons, List.sum_cons, ih, e2, Int.one_mul]
      simp
  rw [z] at s
  conv => lhs; simp only [defF, runF, entry, bos, sSeq, sNil, sIf, sSet, sOwn, sSetL, sPar, sRet, sRetL, sRetN, sExpr, M.bind, M.ret, M.opt, val, look, imm, vals, looks, imms, eVar, eC, eBin, eUn, eCall, eN, eTup, nLst, nCall, aNil, aCons, eAnd, eOr, eNot, eIf, eChain, eSl, oSome, oNone, eTupRg, nLstRg, rOne, rTwo, eMt, eDict0, bVal, bCmp, bBl, bAnd, bOr, bNot, bYes, isBl, truth, Dv.isInt, setIm, setOw, lAt, lPut, eUser, nUser, uCall, apart, noAl, toSVs, toSV, putBack, bosAt, allIm, iSeq, iCall, iCallI, sFor, gSet, gTupD, gsCons, gsNil, gsCons, wipeR, okw, putB, e_lt, e_le, e_gt, e_ge, e_sub, e_addI, gNeg, gInt, List.length_cons, List.length_nil, List.map_cons, List.map_nil, List.cons_append, List.nil_append, List.getElem?_cons_zero, List.getElem?_cons_succ, List.getElem?_nil, List.replicate, List.set_cons_zero, List.set_cons_succ, List.all_cons, List.all_nil, decide_true, decide_false, Nat.sub_self, Nat.reduceAdd, Nat.reduceSub, Nat.reduceEqDiff, Nat.reduceBNe, Bool.not_true, Bool.not_false, Bool.and_true, Bool.true_and, Bool.and_self, Option.getD_some, Option.getD_none, if_true, if_false, ↓reduceIte, F_bits, s_bits, c, s]
def std (a b : List Int) : Str := if a = b then "equal" else if meet a b = [] then "apart" else if meet a b = a then "within" else if meet a b = b then "around" else "across"
theorem gEqI (i j : Int) : gEq (.int i) (.int j) = some (.bl (decide (i = j))) := by
  show gEqP (.int i) (.int j) = _
  unfold gEqP
  rw [pl_int, pl_int]
  simp only [Bool.and_self]
  rfl
theorem gEqT (a b : List Int) : gEq (.tup (iD a)) (.tup (iD b)) = some (.bl (decide (a = b))) := by
  show gEqP (.tup (iD a)) (.tup (iD b)) = _
  unfold gEqP
  rw [pl_tupI 49, pl_tupI 49]
  simp only [Bool.and_self, eqb, eqbs_ints]
theorem gEqL (a b : List Int) : gEq (.lst (iD a)) (.lst (iD b)) = some (.bl (decide (a = b))) := by
  show gEqP (.lst (iD a)) (.lst (iD b)) = _
  unfold gEqP
  rw [pl_lstI 49, pl_lstI 49]
  simp only [Bool.and_self, eqb, eqbs_ints]
theorem asAnd (i j : Nat) : gAnd (.int (i : Int)) (.int (j : Int)) = some (.int ((i &&& j : Nat) : Int)) := by
  unfold gAnd gI0
  simp only [asI_and]
theorem standing_ok {n : Int} {a b : List Int} (h1 : 1 ≤ n) (h9 : n ≤ 9) (ha : Lot n a) (hb : Lot n b) : F_standing [.im (.int n), .im (.tup (iD a)), .im (.tup (iD b))] = some (.im (.str (std a b)), []) := by
  have w1 := two_ok h1 h9 ha hb
  have w2 := bits_ok h9 ha
  have w3 := bits_ok h9 hb
  have w4 := gEqT a b
  have w5 := asAnd (bN a) (bN b)
  rw [ha.bits_and hb] at w5
  have m := ha.mt b
  have z1 : decide (((bN (meet a b) : Nat) : Int) = 0) = decide (meet a b = []) := decide_eq_decide.mpr ⟨fun h => m.bits_zero.mp (by omega), fun h => by rw [h]; rfl⟩
  have z2 : decide (((bN (meet a b) : Nat) : Int) = (bN a : Int)) = decide (meet a b = a) := decide_eq_decide.mpr ⟨fun h => m.bits_inj ha (by omega), fun h => by rw [h]⟩
  have z3 : decide (((bN (meet a b) : Nat) : Int) = (bN b : Int)) = decide (meet a b = b) := decide_eq_decide.mpr ⟨fun h => m.bits_inj hb (by omega), fun h => by rw [h]⟩
  have q1 := gEqI (bN (meet a b)) 0
  have q2 := gEqI (bN (meet a b)) (bN a)
  have q3 := gEqI (bN (meet a b)) (bN b)
  rw [z1] at q1
  rw [z2] at q2
  rw [z3] at q3
  unfold std
  by_cases e1 : a = b
  · rw [if_pos e1]
    rw [decide_eq_true e1] at w4
    conv => lhs; simp only [defF, runF, entry, bos, sSeq, sNil, sIf, sSet, sOwn, sSetL, sPar, sRet, sRetL, sRetN, sExpr, M.bind, M.ret, M.opt, val, look, imm, vals, looks, imms, eVar, eC, eBin, eUn, eCall, eN, eTup, nLst, nCall, aNil, aCons, eAnd, eOr, eNot, eIf, eChain, eSl, oSome, oNone, eTupRg, nLstRg, rOne, rTwo, eMt, eDict0, bVal, bCmp, bBl, bAnd, bOr, bNot, bYes, isBl, truth, Dv.isInt, setIm, setOw, lAt, lPut, eUser, nUser, uCall, apart, noAl, toSVs, toSV, putBack, bosAt, allIm, iSeq, iCall, iCallI, sFor, gSet, gTupD, gsCons, gsNil, gsCons, wipeR, okw, putB, e_lt, e_le, e_gt, e_ge, e_sub, e_addI, gNeg, gInt, List.length_cons, List.length_nil, List.map_cons, List.map_nil, List.cons_append, List.nil_append, List.getElem?_cons_zero, List.getElem?_cons_succ, List.getElem?_nil, List.replicate, List.set_cons_zero, List.set_cons_succ, List.all_cons, List.all_nil, decide_true, decide_false, Nat.sub_self, Nat.reduceAdd, Nat.reduceSub, Nat.reduceEqDiff, Nat.reduceBNe, Bool.not_true, Bool.not_false, Bool.and_true, Bool.true_and, Bool.and_self, Option.getD_some, Option.getD_none, if_true, if_false, ↓reduceIte, F_standing, s_standing, w1, w4]
  · rw [if_neg e1]
    rw [decide_eq_false e1] at w4
    by_cases e2 : meet a b = []
    · rw [if_pos e2]
      rw [decide_eq_true e2] at q1
      conv => lhs; simp only [defF, runF, entry, bos, sSeq, sNil, sIf, sSet, sOwn, sSetL, sPar, sRet, sRetL, sRetN, sExpr, M.bind, M.ret, M.opt, val, look, imm, vals, looks, imms, eVar, eC, eBin, eUn, eCall, eN, eTup, nLst, nCall, aNil, aCons, eAnd, eOr, eNot, eIf, eChain, eSl, oSome, oNone, eTupRg, nLstRg, rOne, rTwo, eMt, eDict0, bVal, bCmp, bBl, bAnd, bOr, bNot, bYes, isBl, truth, Dv.isInt, setIm, setOw, lAt, lPut, eUser, nUser, uCall, apart, noAl, toSVs, toSV, putBack, bosAt, allIm, iSeq, iCall, iCallI, sFor, gSet, gTupD, gsCons, gsNil, gsCons, wipeR, okw, putB, e_lt, e_le, e_gt, e_ge, e_sub, e_addI, gNeg, gInt, List.length_cons, List.length_nil, List.map_cons, List.map_nil, List.cons_append, List.nil_append, List.getElem?_cons_zero, List.getElem?_cons_succ, List.getElem?_nil, List.replicate, List.set_cons_zero, List.set_cons_succ, List.all_cons, List.all_nil, decide_true, decide_false, Nat.sub_self, Nat.reduceAdd, Nat.reduceSub, Nat.reduceEqDiff, Nat.reduceBNe, Bool.not_true, Bool.not_false, Bool.and_true, Bool.true_and, Bool.and_self, Option.getD_some, Option.getD_none, if_true, if_false, ↓reduceIte, F_standing, s_standing, w1, w2, w3, w4, w5, q1]
    · rw [if_neg e2]
      rw [decide_eq_false e2] at q1
      by_cases e3 : meet a b = a
      · rw [if_pos e3]
        rw [decide_eq_true e3] at q2
        conv => lhs; simp only [defF, runF, entry, bos, sSeq, sNil, sIf, sSet, sOwn, sSetL, sPar, sRet, sRetL, sRetN, sExpr, M.bind, M.ret, M.opt, val, look, imm, vals, looks, imms, eVar, eC, eBin, eUn, eCall, eN, eTup, nLst, nCall, aNil, aCons, eAnd, eOr, eNot, eIf, eChain, eSl, oSome, oNone, eTupRg, nLstRg, rOne, rTwo, eMt, eDict0, bVal, bCmp, bBl, bAnd, bOr, bNot, bYes, isBl, truth, Dv.isInt, setIm, setOw, lAt, lPut, eUser, nUser, uCall, apart, noAl, toSVs, toSV, putBack, bosAt, allIm, iSeq, iCall, iCallI, sFor, gSet, gTupD, gsCons, gsNil, gsCons, wipeR, okw, putB, e_lt, e_le, e_gt, e_ge, e_sub, e_addI, gNeg, gInt, List.length_cons, List.length_nil, List.map_cons, List.map_nil, List.cons_append, List.nil_append, List.getElem?_cons_zero, List.getElem?_cons_succ, List.getElem?_nil, List.replicate, List.set_cons_zero, List.set_cons_succ, List.all_cons, List.all_nil, decide_true, decide_false, Nat.sub_self, Nat.reduceAdd, Nat.reduceSub, Nat.reduceEqDiff, Nat.reduceBNe, Bool.not_true, Bool.not_false, Bool.and_true, Bool.true_and, Bool.and_self, Option.getD_some, Option.getD_none, if_true, if_false, ↓reduceIte, F_standing, s_standing, w1, w2, w3, w4, w5, q1, q2]
      · rw [if_neg e3]
        rw [decide_eq_false e3] at q2
        by_cases e4 : meet a b = b
        · rw [if_pos e4]
          rw [decide_eq_true e4] at q3
          conv => lhs; simp only [defF, runF, entry, bos, sSeq, sNil, sIf, sSet, sOwn, sSetL, sPar, sRet, sRetL, sRetN, sExpr, M.bind, M.ret, M.opt, val, look, imm, vals, looks, imms, eVar, eC, eBin, eUn, eCall, eN, eTup, nLst, nCall, aNil, aCons, eAnd, eOr, eNot, eIf, eChain, eSl, oSome, oNone, eTupRg, nLstRg, rOne, rTwo, eMt, eDict0, bVal, bCmp, bBl, bAnd, bOr, bNot, bYes, isBl, truth, Dv.isInt, setIm, setOw, lAt, lPut, eUser, nUser, uCall, apart, noAl, toSVs, toSV, putBack, bosAt, allIm, iSeq, iCall, iCallI, sFor, gSet, gTupD, gsCons, gsNil, gsCons, wipeR, okw, putB, e_lt, e_le, e_gt, e_ge, e_sub, e_addI, gNeg, gInt, List.length_cons, List.length_nil, List.map_cons, List.map_nil, List.cons_append, List.nil_append, List.getElem?_cons_zero, List.getElem?_cons_succ, List.getElem?_nil, List.replicate, List.set_cons_zero, List.set_cons_succ, List.all_cons, List.all_nil, decide_true, decide_false, Nat.sub_self, Nat.reduceAdd, Nat.reduceSub, Nat.reduceEqDiff, Nat.reduceBNe, Bool.not_true, Bool.not_false, Bool.and_true, Bool.true_and, Bool.and_self, Option.getD_some, Option.getD_none, if_true, if_false, ↓reduceIte, F_standing, s_standing, w1, w2, w3, w4, w5, q1, q2, q3]
        · rw [if_neg e4]
          rw [decide_eq_false e4] at q3
          conv => lhs; simp only [defF, runF, entry, bos, sSeq, sNil, sIf, sSet, sOwn, sSetL, sPar, sRet, sRetL, sRetN, sExpr, M.bind, M.ret, M.opt, val, look, imm, vals, looks, imms, eVar, eC, eBin, eUn, eCall, eN, eTup, nLst, nCall, aNil, aCons, eAnd, eOr, eNot, eIf, eChain, eSl, oSome, oNone, eTupRg, nLstRg, rOne, rTwo, eMt, eDict0, bVal, bCmp, bBl, bAnd, bOr, bNot, bYes, isBl, truth, Dv.isInt, setIm, setOw, lAt, lPut, eUser, nUser, uCall, apart, noAl, toSVs, toSV, putBack, bosAt, allIm, iSeq, iCall, iCallI, sFor, gSet, gTupD, gsCons, gsNil, gsCons, wipeR, okw, putB, e_lt, e_le, e_gt, e_ge, e_sub, e_addI, gNeg, gInt, List.length_cons, List.length_nil, List.map_cons, List.map_nil, List.cons_append, List.nil_append, List.getElem?_cons_zero, List.getElem?_cons_succ, List.getElem?_nil, List.replicate, List.set_cons_zero, List.set_cons_succ, List.all_cons, List.all_nil, decide_true, decide_false, Nat.sub_self, Nat.reduceAdd, Nat.reduceSub, Nat.reduceEqDiff, Nat.reduceBNe, Bool.not_true, Bool.not_false, Bool.and_true, Bool.true_and, Bool.and_self, Option.getD_some, Option.getD_none, if_true, if_false, ↓reduceIte, F_standing, s_standing, w1, w2, w3, w4, w5, q1, q2, q3]
end K01
namespace K01
open PySem PySem.Spec PyProof.Rows L2 Dv
theorem gInT (i : Int) (b : List Int) : gIn (.int i) (.tup (iD b)) = some (.bl (decide (i ∈ b))) := by
  unfold gIn
  rw [pl_int, pl_tupI 49]
  simp only [Bool.and_self, mem_ints]
theorem gNotInT (i : Int) (b : List Int) : gNotIn (.int i) (.tup (iD b)) = some (.bl (!decide (i ∈ b))) := by
  unfold gNotIn
  rw [pl_int, pl_tupI 49]
  simp only [Bool.and_self, mem_ints]
theorem nLc_int {v : Nat} {fi : M (List IV)} {gt : M Bool} {fe : ES} {ρ : Rho} {l : List Int} (p : Int → Bool) (hi : fi ρ = .ok ((iD l).map .im) ρ) (hw : okw [v] ρ = true) (hv : v < ρ.length) (hl : l.length ≤ 1000000)
    (hd : ∀ i ∈ l, gt (ρ.set v (some (.im (.int i)))) = .ok (p i) (ρ.set v (some (.im (.int i)))) ∧ fe (ρ.set v (some (.im (.int i)))) = .ok (.im (.int i)) (ρ.set v (some (.im (.int i))))) : nLc [v] fi (gSet v) gt fe ρ = .ok (iD (l.filter p)) ρ := by
  have e := nLc_im (v := v) (fi := fi) (gt := gt) (fe := fe) (ρ := ρ) (xs := iD l) (fun d => match d with
    | .int i => p i
    | _ => false) (fun d => d) hi hw hv (by simpa using hl) (fun d hd' => by
    obtain ⟨i, hi, rfl⟩ := List.mem_map.mp hd'
    exact ⟨(hd i hi).1, fun _ => (hd i hi).2⟩)
  rw [e, List.filter_map, List.map_id']
  rfl
theorem word_1 {a b : List Int} (hl : a.length ≤ 1000000) : c__law_word_1 [some (.im (.tup (iD a))), some (.im (.tup (iD b))), none, none] = .ok (iD (meet a b)) [some (.im (.tup (iD a))), some (.im (.tup (iD b))), none, none] :=
  nLc_int (fun i => decide (i ∈ b)) (by conv => lhs; simp only [defF, runF, entry, bos, sSeq, sNil, sIf, sSet, sOwn, sSetL, sPar, sRet, sRetL, sRetN, sExpr, M.bind, M.ret, M.opt, val, look, imm, vals, looks, imms, eVar, eC, eBin, eUn, eCall, eN, eTup, nLst, nCall, aNil, aCons, eAnd, eOr, eNot, eIf, eChain, eSl, oSome, oNone, eTupRg, nLstRg, rOne, rTwo, eMt, eDict0, bVal, bCmp, bBl, bAnd, bOr, bNot, bYes, isBl, truth, Dv.isInt, setIm, setOw, lAt, lPut, eUser, nUser, uCall, apart, noAl, toSVs, toSV, putBack, bosAt, allIm, iSeq, iCall, iCallI, sFor, gSet, gTupD, gsCons, gsNil, gsCons, wipeR, okw, putB, e_lt, e_le, e_gt, e_ge, e_sub, e_addI, gNeg, gInt, List.length_cons, List.length_nil, List.map_cons, List.map_nil, List.cons_append, List.nil_append, List.getElem?_cons_zero, List.getElem?_cons_succ, List.getElem?_nil, List.replicate, List.set_cons_zero, List.set_cons_succ, List.all_cons, List.all_nil, decide_true, decide_false, Nat.sub_self, Nat.reduceAdd, Nat.reduceSub, Nat.reduceEqDiff, Nat.reduceBNe, Bool.not_true, Bool.not_false, Bool.and_true, Bool.true_and, Bool.and_self, Option.getD_some, Option.getD_none, if_true, if_false, ↓reduceIte]) rfl (by show 3 < 4; decide) hl fun i hi => by
    have g := gInT i b
    constructor
    · (conv => lhs; simp only [defF, runF, entry, bos, sSeq, sNil, sIf, sSet, sOwn, sSetL, sPar, sRet, sRetL, sRetN, sExpr, M.bind, M.ret, M.opt, val, look, imm, vals, looks, imms, eVar, eC, eBin, eUn, eCall, eN, eTup, nLst, nCall, aNil, aCons, eAnd, eOr, eNot, eIf, eChain, eSl, oSome, oNone, eTupRg, nLstRg, rOne, rTwo, eMt, eDict0, bVal, bCmp, bBl, bAnd, bOr, bNot, bYes, isBl, truth, Dv.isInt, setIm, setOw, lAt, lPut, eUser, nUser, uCall, apart, noAl, toSVs, toSV, putBack, bosAt, allIm, iSeq, iCall, iCallI, sFor, gSet, gTupD, gsCons, gsNil, gsCons, wipeR, okw, putB, e_lt, e_le, e_gt, e_ge, e_sub, e_addI, gNeg, gInt, List.length_cons, List.length_nil, List.map_cons, List.map_nil, List.cons_append, List.nil_append, List.getElem?_cons_zero, List.getElem?_cons_succ, List.getElem?_nil, List.replicate, List.set_cons_zero, List.set_cons_succ, List.all_cons, List.all_nil, decide_true, decide_false, Nat.sub_self, Nat.reduceAdd, Nat.reduceSub, Nat.reduceEqDiff, Nat.reduceBNe, Bool.not_true, Bool.not_false, Bool.and_true, Bool.true_and, Bool.and_self, Option.getD_some, Option.getD_none, if_true, if_false, ↓reduceIte, g]) <;> try rfl
    · (conv => lhs; simp only [defF, runF, entry, bos, sSeq, sNil, sIf, sSet, sOwn, sSetL, sPar, sRet, sRetL, sRetN, sExpr, M.bind, M.ret, M.opt, val, look, imm, vals, looks, imms, eVar, eC, eBin, eUn, eCall, eN, eTup, nLst, nCall, aNil, aCons, eAnd, eOr, eNot, eIf, eChain, eSl, oSome, oNone, eTupRg, nLstRg, rOne, rTwo, eMt, eDict0, bVal, bCmp, bBl, bAnd, bOr, bNot, bYes, isBl, truth, Dv.isInt, setIm, setOw, lAt, lPut, eUser, nUser, uCall, apart, noAl, toSVs, toSV, putBack, bosAt, allIm, iSeq, iCall, iCallI, sFor, gSet, gTupD, gsCons, gsNil, gsCons, wipeR, okw, putB, e_lt, e_le, e_gt, e_ge, e_sub, e_addI, gNeg, gInt, List.length_cons, List.length_nil, List.map_cons, List.map_nil, List.cons_append, List.nil_append, List.getElem?_cons_zero, List.getElem?_cons_succ, List.getElem?_nil, List.replicate, List.set_cons_zero, List.set_cons_succ, List.all_cons, List.all_nil, decide_true, decide_false, Nat.sub_self, Nat.reduceAdd, Nat.reduceSub, Nat.reduceEqDiff, Nat.reduceBNe, Bool.not_true, Bool.not_false, Bool.and_true, Bool.true_and, Bool.and_self, Option.getD_some, Option.getD_none, if_true, if_false, ↓reduceIte]) <;> try rfl
theorem gLenL (a : List Int) : gLen [.lst (iD a)] = some (.int (a.length : Int)) := by
  show some (D.int ((iD a).length : Int)) = _
  rw [List.length_map]
theorem gLenT (a : List Int) : gLen [.tup (iD a)] = some (.int (a.length : Int)) := by
  show some (D.int ((iD a).length : Int)) = _
  rw [List.length_map]
theorem word_ok {n : Int} {a b : List Int} (h9 : n ≤ 9) (ha : Lot n a) (hb : Lot n b) : F__law_word [.im (.tup (iD a)), .im (.tup (iD b))] = some (.im (.str (std a b)), []) := by
  have c := word_1 (a := a) (b := b) (Nat.le_trans (Lot_len ha h9) (by decide))
  have w4 := gEqT a b
  have w5 : gEq (.lst (iD (meet a b))) (.lst []) = some (.bl (decide (meet a b = []))) := gEqL (meet a b) []
  have l1 := gLenL (meet a b)
  have l2 := gLenT a
  have l3 := gLenT b
  have q2 := gEqI ((meet a b).length : Int) (a.length : Int)
  have q3 := gEqI ((meet a b).length : Int) (b.length : Int)
  have f0 : few [] = some [] := rfl
  have z2 : decide (((meet a b).length : Int) = (a.length : Int)) = decide (meet a b = a) := decide_eq_decide.mpr ⟨fun h => filter_len (by unfold meet at h; omega), fun h => by rw [h]⟩
  have z3 : decide (((meet a b).length : Int) = (b.length : Int)) = decide (meet a b = b) := decide_eq_decide.mpr ⟨fun h => by
    rw [meet_comm ha hb] at h ⊢
    exact filter_len (by unfold meet at h; omega), fun h => by rw [h]⟩
  rw [z2] at q2
  rw [z3] at q3
  unfold std
  by_cases e1 : a = b
  · rw [if_pos e1]
    rw [decide_eq_true e1] at w4
    conv => lhs; simp only [defF, runF, entry, bos, sSeq, sNil, sIf, sSet, sOwn, sSetL, sPar, sRet, sRetL, sRetN, sExpr, M.bind, M.ret, M.opt, val, look, imm, vals, looks, imms, eVar, eC, eBin, eUn, eCall, eN, eTup, nLst, nCall, aNil, aCons, eAnd, eOr, eNot, eIf, eChain, eSl, oSome, oNone, eTupRg, nLstRg, rOne, rTwo, eMt, eDict0, bVal, bCmp, bBl, bAnd, bOr, bNot, bYes, isBl, truth, Dv.isInt, setIm, setOw, lAt, lPut, eUser, nUser, uCall, apart, noAl, toSVs, toSV, putBack, bosAt, allIm, iSeq, iCall, iCallI, sFor, gSet, gTupD, gsCons, gsNil, gsCons, wipeR, okw, putB, e_lt, e_le, e_gt, e_ge, e_sub, e_addI, gNeg, gInt, List.length_cons, List.length_nil, List.map_cons, List.map_nil, List.cons_append, List.nil_append, List.getElem?_cons_zero, List.getElem?_cons_succ, List.getElem?_nil, List.replicate, List.set_cons_zero, List.set_cons_succ, List.all_cons, List.all_nil, decide_true, decide_false, Nat.sub_self, Nat.reduceAdd, Nat.reduceSub, Nat.reduceEqDiff, Nat.reduceBNe, Bool.not_true, Bool.not_false, Bool.and_true, Bool.true_and, Bool.and_self, Option.getD_some, Option.getD_none, if_true, if_false, ↓reduceIte, F__law_word, s__law_word, c, w4]
  · rw [if_neg e1]
    rw [decide_eq_false e1] at w4
    by_cases e2 : meet a b = []
    · rw [if_pos e2]
      rw [decide_eq_true e2] at w5
      conv => lhs; simp only [defF, runF, entry, bos, sSeq, sNil, sIf, sSet, sOwn, sSetL, sPar, sRet, sRetL, sRetN, sExpr, M.bind, M.ret, M.opt, val, look, imm, vals, looks, imms, eVar, eC, eBin, eUn, eCall, eN, eTup, nLst, nCall, aNil, aCons, eAnd, eOr, eNot, eIf, eChain, eSl, oSome, oNone, eTupRg, nLstRg, rOne, rTwo, eMt, eDict0, bVal, bCmp, bBl, bAnd, bOr, bNot, bYes, isBl, truth, Dv.isInt, setIm, setOw, lAt, lPut, eUser, nUser, uCall, apart, noAl, toSVs, toSV, putBack, bosAt, allIm, iSeq, iCall, iCallI, sFor, gSet, gTupD, gsCons, gsNil, gsCons, wipeR, okw, putB, e_lt, e_le, e_gt, e_ge, e_sub, e_addI, gNeg, gInt, List.length_cons, List.length_nil, List.map_cons, List.map_nil, List.cons_append, List.nil_append, List.getElem?_cons_zero, List.getElem?_cons_succ, List.getElem?_nil, List.replicate, List.set_cons_zero, List.set_cons_succ, List.all_cons, List.all_nil, decide_true, decide_false, Nat.sub_self, Nat.reduceAdd, Nat.reduceSub, Nat.reduceEqDiff, Nat.reduceBNe, Bool.not_true, Bool.not_false, Bool.and_true, Bool.true_and, Bool.and_self, Option.getD_some, Option.getD_none, if_true, if_false, ↓reduceIte, F__law_word, s__law_word, c, w4, w5, f0]
    · rw [if_neg e2]
      rw [decide_eq_false e2] at w5
      by_cases e3 : meet a b = a
      · rw [if_pos e3]
        rw [decide_eq_true e3] at q2
        conv => lhs; simp only [defF, runF, entry, bos, sSeq, sNil, sIf, sSet, sOwn, sSetL, sPar, sRet, sRetL, sRetN, sExpr, M.bind, M.ret, M.opt, val, look, imm, vals, looks, imms, eVar, eC, eBin, eUn, eCall, eN, eTup, nLst, nCall, aNil, aCons, eAnd, eOr, eNot, eIf, eChain, eSl, oSome, oNone, eTupRg, nLstRg, rOne, rTwo, eMt, eDict0, bVal, bCmp, bBl, bAnd, bOr, bNot, bYes, isBl, truth, Dv.isInt, setIm, setOw, lAt, lPut, eUser, nUser, uCall, apart, noAl, toSVs, toSV, putBack, bosAt, allIm, iSeq, iCall, iCallI, sFor, gSet, gTupD, gsCons, gsNil, gsCons, wipeR, okw, putB, e_lt, e_le, e_gt, e_ge, e_sub, e_addI, gNeg, gInt, List.length_cons, List.length_nil, List.map_cons, List.map_nil, List.cons_append, List.nil_append, List.getElem?_cons_zero, List.getElem?_cons_succ, List.getElem?_nil, List.replicate, List.set_cons_zero, List.set_cons_succ, List.all_cons, List.all_nil, decide_true, decide_false, Nat.sub_self, Nat.reduceAdd, Nat.reduceSub, Nat.reduceEqDiff, Nat.reduceBNe, Bool.not_true, Bool.not_false, Bool.and_true, Bool.true_and, Bool.and_self, Option.getD_some, Option.getD_none, if_true, if_false, ↓reduceIte, F__law_word, s__law_word, c, w4, w5, f0, l1, l2, l3, q2]
      · rw [if_neg e3]
        rw [decide_eq_false e3] at q2
        by_cases e4 : meet a b = b
        · rw [if_pos e4]
          rw [decide_eq_true e4] at q3
          conv => lhs; simp only [defF, runF, entry, bos, sSeq, sNil, sIf, sSet, sOwn, sSetL, sPar, sRet, sRetL, sRetN, sExpr, M.bind, M.ret, M.opt, val, look, imm, vals, looks, imms, eVar, eC, eBin, eUn, eCall, eN, eTup, nLst, nCall, aNil, aCons, eAnd, eOr, eNot, eIf, eChain, eSl, oSome, oNone, eTupRg, nLstRg, rOne, rTwo, eMt, eDict0, bVal, bCmp, bBl, bAnd, bOr, bNot, bYes, isBl, truth, Dv.isInt, setIm, setOw, lAt, lPut, eUser, nUser, uCall, apart, noAl, toSVs, toSV, putBack, bosAt, allIm, iSeq, iCall, iCallI, sFor, gSet, gTupD, gsCons, gsNil, gsCons, wipeR, okw, putB, e_lt, e_le, e_gt, e_ge, e_sub, e_addI, gNeg, gInt, List.length_cons, List.length_nil, List.map_cons, List.map_nil, List.cons_append, List.nil_append, List.getElem?_cons_zero, List.getElem?_cons_succ, List.getElem?_nil, List.replicate, List.set_cons_zero, List.set_cons_succ, List.all_cons, List.all_nil, decide_true, decide_false, Nat.sub_self, Nat.reduceAdd, Nat.reduceSub, Nat.reduceEqDiff, Nat.reduceBNe, Bool.not_true, Bool.not_false, Bool.and_true, Bool.true_and, Bool.and_self, Option.getD_some, Option.getD_none, if_true, if_false, ↓reduceIte, F__law_word, s__law_word, c, w4, w5, f0, l1, l2, l3, q2, q3]
        · rw [if_neg e4]
          rw [decide_eq_false e4] at q3
          conv => lhs; simp only [defF, runF, entry, bos, sSeq, sNil, sIf, sSet, sOwn, sSetL, sPar, sRet, sRetL, sRetN, sExpr, M.bind, M.ret, M.opt, val, look, imm, vals, looks, imms, eVar, eC, eBin, eUn, eCall, eN, eTup, nLst, nCall, aNil, aCons, eAnd, eOr, eNot, eIf, eChain, eSl, oSome, oNone, eTupRg, nLstRg, rOne, rTwo, eMt, eDict0, bVal, bCmp, bBl, bAnd, bOr, bNot, bYes, isBl, truth, Dv.isInt, setIm, setOw, lAt, lPut, eUser, nUser, uCall, apart, noAl, toSVs, toSV, putBack, bosAt, allIm, iSeq, iCall, iCallI, sFor, gSet, gTupD, gsCons, gsNil, gsCons, wipeR, okw, putB, e_lt, e_le, e_gt, e_ge, e_sub, e_addI, gNeg, gInt, List.length_cons, List.length_nil, List.map_cons, List.map_nil, List.cons_append, List.nil_append, List.getElem?_cons_zero, List.getElem?_cons_succ, List.getElem?_nil, List.replicate, List.set_cons_zero, List.set_cons_succ, List.all_cons, List.all_nil, decide_true, decide_false, Nat.sub_self, Nat.reduceAdd, Nat.reduceSub, Nat.reduceEqDiff, Nat.reduceBNe, Bool.not_true, Bool.not_false, Bool.and_true, Bool.true_and, Bool.and_self, Option.getD_some, Option.getD_none, if_true, if_false, ↓reduceIte, F__law_word, s__law_word, c, w4, w5, f0, l1, l2, l3, q2, q3]
theorem range_ints (n : Nat) : ((List.range n).map fun (i : Nat) => D.int (i : Int)) = iD ((List.range n).map fun (i : Nat) => (i : Int)) := by
  show _ = ((List.range n).map fun (i : Nat) => (i : Int)).map D.int
  rw [List.map_map]; rfl
theorem picks_filter (n : Nat) (p : Int → Bool) : ((List.range n).map fun (i : Nat) => (i : Int)).filter p = picks n fun i => p i := by
  unfold picks
  rw [List.filter_map]
  rfl
theorem mem_rng {n : Nat} {i : Int} (h : i ∈ (List.range n).map fun (i : Nat) => (i : Int)) : 0 ≤ i ∧ i < n := by
  obtain ⟨k, hk, rfl⟩ := List.mem_map.mp h
  have := List.mem_range.mp hk
  omega
theorem gTupL (a : List Int) : gTuple [.lst (iD a)] = some (.tup (iD a)) := rfl
theorem lot_of_ok {n : Int} {N : Nat} (h1 : 1 ≤ n) (h9 : n ≤ 9) : F_lot_of [.im (.int (N : Int)), .im (.int n)] = some (.im (.tup (iD (picks n.toNat fun i => N.testBit i))), []) := by
  have r := rng1_ok (n := n) (by omega) (by omega)
  rw [range_ints] at r
  have c : c_lot_of_1 [some (.im (.int (N : Int))), some (.im (.int n)), none] = .ok (iD (((List.range n.toNat).map fun (i : Nat) => (i : Int)).filter fun i => N.testBit i.toNat)) [some (.im (.int (N : Int))), some (.im (.int n)), none] :=
    nLc_int (fun i => N.testBit i.toNat) (by conv => lhs; simp only [defF, runF, entry, bos, sSeq, sNil, sIf, sSet, sOwn, sSetL, sPar, sRet, sRetL, sRetN, sExpr, M.bind, M.ret, M.opt, val, look, imm, vals, looks, imms, eVar, eC, eBin, eUn, eCall, eN, eTup, nLst, nCall, aNil, aCons, eAnd, eOr, eNot, eIf, eChain, eSl, oSome, oNone, eTupRg, nLstRg, rOne, rTwo, eMt, eDict0, bVal, bCmp, bBl, bAnd, bOr, bNot, bYes, isBl, truth, Dv.isInt, setIm, setOw, lAt, lPut, eUser, nUser, uCall, apart, noAl, toSVs, toSV, putBack, bosAt, allIm, iSeq, iCall, iCallI, sFor, gSet, gTupD, gsCons, gsNil, gsCons, wipeR, okw, putB, e_lt, e_le, e_gt, e_ge, e_sub, e_addI, gNeg, gInt, List.length_cons, List.length_nil, List.map_cons, List.map_nil, List.cons_append, List.nil_append, List.getElem?_cons_zero, List.getElem?_cons_succ, List.getElem?_nil, List.replicate, List.set_cons_zero, List.set_cons_succ, List.all_cons, List.all_nil, decide_true, decide_false, Nat.sub_self, Nat.reduceAdd, Nat.reduceSub, Nat.reduceEqDiff, Nat.reduceBNe, Bool.not_true, Bool.not_false, Bool.and_true, Bool.true_and, Bool.and_self, Option.getD_some, Option.getD_none, if_true, if_false, ↓reduceIte, r]) rfl (by show 2 < 3; decide) (by simp; omega) fun i hi => by
      have hb := mem_rng hi
      have s : gShr (.int (N : Int)) (.int i) = some (.int ((N / 2 ^ i.toNat : Nat) : Int)) := by
        unfold gShr gI
        simp only [decide_eq_true hb.1, if_true]
        rw [Int.natCast_ediv, Int.natCast_pow]
        rfl
      have s2 : gAnd (.int ((N / 2 ^ i.toNat : Nat) : Int)) (.int 1) = some (.int (((N / 2 ^ i.toNat) &&& 1 : Nat) : Int)) := asAnd _ 1
      have t : ((((N / 2 ^ i.toNat) &&& 1 : Nat) : Int) != 0) = N.testBit i.toNat := by
        rw [Nat.and_one_is_mod, Nat.testBit_eq_decide_div_mod_eq]
        have := Nat.mod_two_eq_zero_or_one (N / 2 ^ i.toNat)
        rcases this with h | h <;> rw [h] <;> decide
      constructor
      · (conv => lhs; simp only [defF, runF, entry, bos, sSeq, sNil, sIf, sSet, sOwn, sSetL, sPar, sRet, sRetL, sRetN, sExpr, M.bind, M.ret, M.opt, val, look, imm, vals, looks, imms, eVar, eC, eBin, eUn, eCall, eN, eTup, nLst, nCall, aNil, aCons, eAnd, eOr, eNot, eIf, eChain, eSl, oSome, oNone, eTupRg, nLstRg, rOne, rTwo, eMt, eDict0, bVal, bCmp, bBl, bAnd, bOr, bNot, bYes, isBl, truth, Dv.isInt, setIm, setOw, lAt, lPut, eUser, nUser, uCall, apart, noAl, toSVs, toSV, putBack, bosAt, allIm, iSeq, iCall, iCallI, sFor, gSet, gTupD, gsCons, gsNil, gsCons, wipeR, okw, putB, e_lt, e_le, e_gt, e_ge, e_sub, e_addI, gNeg, gInt, List.length_cons, List.length_nil, List.map_cons, List.map_nil, List.cons_append, List.nil_append, List.getElem?_cons_zero, List.getElem?_cons_succ, List.getElem?_nil, List.replicate, List.set_cons_zero, List.set_cons_succ, List.all_cons, List.all_nil, decide_true, decide_false, Nat.sub_self, Nat.reduceAdd, Nat.reduceSub, Nat.reduceEqDiff, Nat.reduceBNe, Bool.not_true, Bool.not_false, Bool.and_true, Bool.true_and, Bool.and_self, Option.getD_some, Option.getD_none, if_true, if_false, ↓reduceIte, s, s2, t]) <;> try rfl
      · (conv => lhs; simp only [defF, runF, entry, bos, sSeq, sNil, sIf, sSet, sOwn, sSetL, sPar, sRet, sRetL, sRetN, sExpr, M.bind, M.ret, M.opt, val, look, imm, vals, looks, imms, eVar, eC, eBin, eUn, eCall, eN, eTup, nLst, nCall, aNil, aCons, eAnd, eOr, eNot, eIf, eChain, eSl, oSome, oNone, eTupRg, nLstRg, rOne, rTwo, eMt, eDict0, bVal, bCmp, bBl, bAnd, bOr, bNot, bYes, isBl, truth, Dv.isInt, setIm, setOw, lAt, lPut, eUser, nUser, uCall, apart, noAl, toSVs, toSV, putBack, bosAt, allIm, iSeq, iCall, iCallI, sFor, gSet, gTupD, gsCons, gsNil, gsCons, wipeR, okw, putB, e_lt, e_le, e_gt, e_ge, e_sub, e_addI, gNeg, gInt, List.length_cons, List.length_nil, List.map_cons, List.map_nil, List.cons_append, List.nil_append, List.getElem?_cons_zero, List.getElem?_cons_succ, List.getElem?_nil, List.replicate, List.set_cons_zero, List.set_cons_succ, List.all_cons, List.all_nil, decide_true, decide_false, Nat.sub_self, Nat.reduceAdd, Nat.reduceSub, Nat.reduceEqDiff, Nat.reduceBNe, Bool.not_true, Bool.not_false, Bool.and_true, Bool.true_and, Bool.and_self, Option.getD_some, Option.getD_none, if_true, if_false, ↓reduceIte]) <;> try rfl
  rw [picks_filter] at c
  have g := gTupL (picks n.toNat fun i => N.testBit ((i : Int)).toNat)
  conv => lhs; simp only [defF, runF, entry, bos, sSeq, sNil, sIf, sSet, sOwn, sSetL, sPar, sRet, sRetL, sRetN, sExpr, M.bind, M.ret, M.opt, val, look, imm, vals, looks, imms, eVar, eC, eBin, eUn, eCall, eN, eTup, nLst, nCall, aNil, aCons, eAnd, eOr, eNot, eIf, eChain, eSl, oSome, oNone, eTupRg, nLstRg, rOne, rTwo, eMt, eDict0, bVal, bCmp, bBl, bAnd, bOr, bNot, bYes, isBl, truth, Dv.isInt, setIm, setOw, lAt, lPut, eUser, nUser, uCall, apart, noAl, toSVs, toSV, putBack, bosAt, allIm, iSeq, iCall, iCallI, sFor, gSet, gTupD, gsCons, gsNil, gsCons, wipeR, okw, putB, e_lt, e_le, e_gt, e_ge, e_sub, e_addI, gNeg, gInt, List.length_cons, List.length_nil, List.map_cons, List.map_nil, List.cons_append, List.nil_append, List.getElem?_cons_zero, List.getElem?_cons_succ, List.getElem?_nil, List.replicate, List.set_cons_zero, List.set_cons_succ, List.all_cons, List.all_nil, decide_true, decide_false, Nat.sub_self, Nat.reduceAdd, Nat.reduceSub, Nat.reduceEqDiff, Nat.reduceBNe, Bool.not_true, Bool.not_false, Bool.and_true, Bool.true_and, Bool.and_self, Option.getD_some, Option.getD_none, if_true, if_false, ↓reduceIte, F_lot_of, s_lot_of, c, g]
  rfl
theorem common_ok {n : Int} {a b : List Int} (h1 : 1 ≤ n) (h9 : n ≤ 9) (ha : Lot n a) (hb : Lot n b) : F_common [.im (.int n), .im (.tup (iD a)), .im (.tup (iD b))] = some (.im (.tup (iD (meet a b))), []) := by
  have w1 := two_ok h1 h9 ha hb
  have w2 := bits_ok h9 ha
  have w3 := bits_ok h9 hb
  have w5 := asAnd (bN a) (bN b)
  rw [ha.bits_and hb] at w5
  have w6 := lot_of_ok (N := bN (meet a b)) h1 h9
  have e : (picks n.toNat fun i => (bN (meet a b)).testBit i) = meet a b := (picks_lot _ _).uniq (ha.mt b) fun k => by
    rw [mem_picks]
    constructor
    · rintro ⟨i, rfl, h2, h3⟩
      rw [(ha.mt b).bit] at h3
      exact of_decide_eq_true h3
    · intro hk
      have q := (ha.mt b).2 k hk
      refine ⟨k.toNat, by omega, by omega, ?_⟩
      rw [(ha.mt b).bit, Int.toNat_of_nonneg q.1]
      exact decide_eq_true hk
  rw [e] at w6
  conv => lhs; simp only [defF, runF, entry, bos, sSeq, sNil, sIf, sSet, sOwn, sSetL, sPar, sRet, sRetL, sRetN, sExpr, M.bind, M.ret, M.opt, val, look, imm, vals, looks, imms, eVar, eC, eBin, eUn, eCall, eN, eTup, nLst, nCall, aNil, aCons, eAnd, eOr, eNot, eIf, eChain, eSl, oSome, oNone, eTupRg, nLstRg, rOne, rTwo, eMt, eDict0, bVal, bCmp, bBl, bAnd, bOr, bNot, bYes, isBl, truth, Dv.isInt, setIm, setOw, lAt, lPut, eUser, nUser, uCall, apart, noAl, toSVs, toSV, putBack, bosAt, allIm, iSeq, iCall, iCallI, sFor, gSet, gTupD, gsCons, gsNil, gsCons, wipeR, okw, putB, e_lt, e_le, e_gt, e_ge, e_sub, e_addI, gNeg, gInt, List.length_cons, List.length_nil, List.map_cons, List.map_nil, List.cons_append, List.nil_append, List.getElem?_cons_zero, List.getElem?_cons_succ, List.getElem?_nil, List.replicate, List.set_cons_zero, List.set_cons_succ, List.all_cons, List.all_nil, decide_true, decide_false, Nat.sub_self, Nat.reduceAdd, Nat.reduceSub, Nat.reduceEqDiff, Nat.reduceBNe, Bool.not_true, Bool.not_false, Bool.and_true, Bool.true_and, Bool.and_self, Option.getD_some, Option.getD_none, if_true, if_false, ↓reduceIte, F_common, s_common, w1, w2, w3, w5, w6]
theorem asOr (i j : Nat) : gOr (.int (i : Int)) (.int (j : Int)) = some (.int ((i ||| j : Nat) : Int)) := by
  unfold gOr gI0
  simp only [asI_or]
theorem together_ok {n : Int} {a b : List Int} (h1 : 1 ≤ n) (h9 : n ≤ 9) (ha : Lot n a) (hb : Lot n b) : F_together [.im (.int n), .im (.tup (iD a)), .im (.tup (iD b))] = some (.im (.tup (iD (sortU (a ++ b)))), []) := by
  have w1 := two_ok h1 h9 ha hb
  have w2 := bits_ok h9 ha
  have w3 := bits_ok h9 hb
  have w5 := asOr (bN a) (bN b)
  have w6 := lot_of_ok (N := bN a ||| bN b) h1 h9
  have e : (picks n.toNat fun i => (bN a ||| bN b).testBit i) = sortU (a ++ b) := lt_uniq (picks_lot _ _).1 (sortU_sorted _) fun k => by
    rw [mem_picks, mem_sortU, List.mem_append]
    constructor
    · rintro ⟨i, rfl, h2, h3⟩
      rw [Nat.testBit_or, ha.bit, hb.bit, Bool.or_eq_true, decide_eq_true_iff, decide_eq_true_iff] at h3
      exact h3
    · intro hk
      have q : 0 ≤ k ∧ k < n := by rcases hk with hk | hk; exact ha.2 k hk; exact hb.2 k hk
      refine ⟨k.toNat, by omega, by omega, ?_⟩
      rw [Nat.testBit_or, ha.bit, hb.bit, Int.toNat_of_nonneg q.1, Bool.or_eq_true, decide_eq_true_iff, decide_eq_true_iff]
      exact hk
  rw [e] at w6
  conv => lhs; simp only [defF, runF, entry, bos, sSeq, sNil, sIf, sSet, sOwn, sSetL, sPar, sRet, sRetL, sRetN, sExpr, M.bind, M.ret, M.opt, val, look, imm, vals, looks, imms, eVar, eC, eBin, eUn, eCall, eN, eTup, nLst, nCall, aNil, aCons, eAnd, eOr, eNot, eIf, eChain, eSl, oSome, oNone, eTupRg, nLstRg, rOne, rTwo, eMt, eDict0, bVal, bCmp, bBl, bAnd, bOr, bNot, bYes, isBl, truth, Dv.isInt, setIm, setOw, lAt, lPut, eUser, nUser, uCall, apart, noAl, toSVs, toSV, putBack, bosAt, allIm, iSeq, iCall, iCallI, sFor, gSet, gTupD, gsCons, gsNil, gsCons, wipeR, okw, putB, e_lt, e_le, e_gt, e_ge, e_sub, e_addI, gNeg, gInt, List.length_cons, List.length_nil, List.map_cons, List.map_nil, List.cons_append, List.nil_append, List.getElem?_cons_zero, List.getElem?_cons_succ, List.getElem?_nil, List.replicate, List.set_cons_zero, List.set_cons_succ, List.all_cons, List.all_nil, decide_true, decide_false, Nat.sub_self, Nat.reduceAdd, Nat.reduceSub, Nat.reduceEqDiff, Nat.reduceBNe, Bool.not_true, Bool.not_false, Bool.and_true, Bool.true_and, Bool.and_self, Option.getD_some, Option.getD_none, if_true, if_false, ↓reduceIte, F_together, s_together, w1, w2, w3, w5, w6]
def rest (n : Int) (a : List Int) : List Int := picks n.toNat fun i => !decide ((i : Int) ∈ a)
theorem left_out_ok {n : Int} {a : List Int} (h1 : 1 ≤ n) (h9 : n ≤ 9) (ha : Lot n a) : F_left_out [.im (.int n), .im (.tup (iD a))] = some (.im (.tup (iD (rest n a))), []) := by
  have r := rng1_ok (n := n) (by omega) (by omega)
  rw [range_ints] at r
  have w1 := size_ok h1 h9
  have w2 := any_ok h9 (Nat.le_trans (Lot_len ha h9) (by decide)) ha
  have c : c_left_out_1 [some (.im (.int n)), some (.im (.tup (iD a))), none] = .ok (iD (((List.range n.toNat).map fun (i : Nat) => (i : Int)).filter fun i => !decide (i ∈ a))) [some (.im (.int n)), some (.im (.tup (iD a))), none] :=
    nLc_int (fun i => !decide (i ∈ a)) (by conv => lhs; simp only [defF, runF, entry, bos, sSeq, sNil, sIf, sSet, sOwn, sSetL, sPar, sRet, sRetL, sRetN, sExpr, M.bind, M.ret, M.opt, val, look, imm, vals, looks, imms, eVar, eC, eBin, eUn, eCall, eN, eTup, nLst, nCall, aNil, aCons, eAnd, eOr, eNot, eIf, eChain, eSl, oSome, oNone, eTupRg, nLstRg, rOne, rTwo, eMt, eDict0, bVal, bCmp, bBl, bAnd, bOr, bNot, bYes, isBl, truth, Dv.isInt, setIm, setOw, lAt, lPut, eUser, nUser, uCall, apart, noAl, toSVs, toSV, putBack, bosAt, allIm, iSeq, iCall, iCallI, sFor, gSet, gTupD, gsCons, gsNil, gsCons, wipeR, okw, putB, e_lt, e_le, e_gt, e_ge, e_sub, e_addI, gNeg, gInt, List.length_cons, List.length_nil, List.map_cons, List.map_nil, List.cons_append, List.nil_append, List.getElem?_cons_zero, List.getElem?_cons_succ, List.getElem?_nil, List.replicate, List.set_cons_zero, List.set_cons_succ, List.all_cons, List.all_nil, decide_true, decide_false, Nat.sub_self, Nat.reduceAdd, Nat.reduceSub, Nat.reduceEqDiff, Nat.reduceBNe, Bool.not_true, Bool.not_false, Bool.and_true, Bool.true_and, Bool.and_self, Option.getD_some, Option.getD_none, if_true, if_false, ↓reduceIte, r]) rfl (by show 2 < 3; decide) (by simp; omega) fun i hi => by
      have g := gNotInT i a
      constructor
      · (conv => lhs; simp only [defF, runF, entry, bos, sSeq, sNil, sIf, sSet, sOwn, sSetL, sPar, sRet, sRetL, sRetN, sExpr, M.bind, M.ret, M.opt, val, look, imm, vals, looks, imms, eVar, eC, eBin, eUn, eCall, eN, eTup, nLst, nCall, aNil, aCons, eAnd, eOr, eNot, eIf, eChain, eSl, oSome, oNone, eTupRg, nLstRg, rOne, rTwo, eMt, eDict0, bVal, bCmp, bBl, bAnd, bOr, bNot, bYes, isBl, truth, Dv.isInt, setIm, setOw, lAt, lPut, eUser, nUser, uCall, apart, noAl, toSVs, toSV, putBack, bosAt, allIm, iSeq, iCall, iCallI, sFor, gSet, gTupD, gsCons, gsNil, gsCons, wipeR, okw, putB, e_lt, e_le, e_gt, e_ge, e_sub, e_addI, gNeg, gInt, List.length_cons, List.length_nil, List.map_cons, List.map_nil, List.cons_append, List.nil_append, List.getElem?_cons_zero, List.getElem?_cons_succ, List.getElem?_nil, List.replicate, List.set_cons_zero, List.set_cons_succ, List.all_cons, List.all_nil, decide_true, decide_false, Nat.sub_self, Nat.reduceAdd, Nat.reduceSub, Nat.reduceEqDiff, Nat.reduceBNe, Bool.not_true, Bool.not_false, Bool.and_true, Bool.true_and, Bool.and_self, Option.getD_some, Option.getD_none, if_true, if_false, ↓reduceIte, g]) <;> try rfl
      · (conv => lhs; simp only [defF, runF, entry, bos, sSeq, sNil, sIf, sSet, sOwn, sSetL, sPar, sRet, sRetL, sRetN, sExpr, M.bind, M.ret, M.opt, val, look, imm, vals, looks, imms, eVar, eC, eBin, eUn, eCall, eN, eTup, nLst, nCall, aNil, aCons, eAnd, eOr, eNot, eIf, eChain, eSl, oSome, oNone, eTupRg, nLstRg, rOne, rTwo, eMt, eDict0, bVal, bCmp, bBl, bAnd, bOr, bNot, bYes, isBl, truth, Dv.isInt, setIm, setOw, lAt, lPut, eUser, nUser, uCall, apart, noAl, toSVs, toSV, putBack, bosAt, allIm, iSeq, iCall, iCallI, sFor, gSet, gTupD, gsCons, gsNil, gsCons, wipeR, okw, putB, e_lt, e_le, e_gt, e_ge, e_sub, e_addI, gNeg, gInt, List.length_cons, List.length_nil, List.map_cons, List.map_nil, List.cons_append, List.nil_append, List.getElem?_cons_zero, List.getElem?_cons_succ, List.getElem?_nil, List.replicate, List.set_cons_zero, List.set_cons_succ, List.all_cons, List.all_nil, decide_true, decide_false, Nat.sub_self, Nat.reduceAdd, Nat.reduceSub, Nat.reduceEqDiff, Nat.reduceBNe, Bool.not_true, Bool.not_false, Bool.and_true, Bool.true_and, Bool.and_self, Option.getD_some, Option.getD_none, if_true, if_false, ↓reduceIte]) <;> try rfl
  rw [picks_filter] at c
  have g := gTupL (picks n.toNat fun i => !decide ((i : Int) ∈ a))
  conv => lhs; simp only [defF, runF, entry, bos, sSeq, sNil, sIf, sSet, sOwn, sSetL, sPar, sRet, sRetL, sRetN, sExpr, M.bind, M.ret, M.opt, val, look, imm, vals, looks, imms, eVar, eC, eBin, eUn, eCall, eN, eTup, nLst, nCall, aNil, aCons, eAnd, eOr, eNot, eIf, eChain, eSl, oSome, oNone, eTupRg, nLstRg, rOne, rTwo, eMt, eDict0, bVal, bCmp, bBl, bAnd, bOr, bNot, bYes, isBl, truth, Dv.isInt, setIm, setOw, lAt, lPut, eUser, nUser, uCall, apart, noAl, toSVs, toSV, putBack, bosAt, allIm, iSeq, iCall, iCallI, sFor, gSet, gTupD, gsCons, gsNil, gsCons, wipeR, okw, putB, e_lt, e_le, e_gt, e_ge, e_sub, e_addI, gNeg, gInt, List.length_cons, List.length_nil, List.map_cons, List.map_nil, List.cons_append, List.nil_append, List.getElem?_cons_zero, List.getElem?_cons_succ, List.getElem?_nil, List.replicate, List.set_cons_zero, List.set_cons_succ, List.all_cons, List.all_nil, decide_true, decide_false, Nat.sub_self, Nat.reduceAdd, Nat.reduceSub, Nat.reduceEqDiff, Nat.reduceBNe, Bool.not_true, Bool.not_false, Bool.and_true, Bool.true_and, Bool.and_self, Option.getD_some, Option.getD_none, if_true, if_false, ↓reduceIte, F_left_out, s_left_out, w1, w2, c, g]
  rfl
end K01
namespace K01
open PySem PySem.Spec PyProof.Rows L2 Dv
theorem one_of_ok {xs items : List D} (hb : BagOk xs) (h0 : items ≠ []) (hl : items.length < 1000000) : ∃ d ys, d ∈ items ∧ F__law_one_of [.bo xs, .im (.lst items)] = some (.im d, [some ys]) ∧ BagOk ys := by
  have hp : 0 < items.length := List.length_pos_iff.mpr h0
  obtain ⟨r, ys, e, r0, r1, hy⟩ := draw_ok (many := (items.length : Int)) hb (by omega) (by omega)
  rw [← f_draw] at e
  obtain ⟨d, hd, g⟩ := ix_nat (xs := items) r0 (by omega)
  have l : gLen [.lst items] = some (.int (items.length : Int)) := rfl
  refine ⟨d, ys, hd, ?_, hy⟩
  conv => lhs; simp only [defF, runF, entry, bos, sSeq, sNil, sIf, sSet, sOwn, sSetL, sPar, sRet, sRetL, sRetN, sExpr, M.bind, M.ret, M.opt, val, look, imm, vals, looks, imms, eVar, eC, eBin, eUn, eCall, eN, eTup, nLst, nCall, aNil, aCons, eAnd, eOr, eNot, eIf, eChain, eSl, oSome, oNone, eTupRg, nLstRg, rOne, rTwo, eMt, eDict0, bVal, bCmp, bBl, bAnd, bOr, bNot, bYes, isBl, truth, Dv.isInt, setIm, setOw, lAt, lPut, eUser, nUser, uCall, apart, noAl, toSVs, toSV, putBack, bosAt, allIm, iSeq, iCall, iCallI, sFor, gSet, gTupD, gsCons, gsNil, gsCons, wipeR, okw, putB, e_lt, e_le, e_gt, e_ge, e_sub, e_addI, gNeg, gInt, List.length_cons, List.length_nil, List.map_cons, List.map_nil, List.cons_append, List.nil_append, List.getElem?_cons_zero, List.getElem?_cons_succ, List.getElem?_nil, List.replicate, List.set_cons_zero, List.set_cons_succ, List.all_cons, List.all_nil, decide_true, decide_false, Nat.sub_self, Nat.reduceAdd, Nat.reduceSub, Nat.reduceEqDiff, Nat.reduceBNe, Bool.not_true, Bool.not_false, Bool.and_true, Bool.true_and, Bool.and_self, Option.getD_some, Option.getD_none, if_true, if_false, ↓reduceIte, F__law_one_of, s__law_one_of, e, l, g]
theorem lot_1 {xs : List D} {n part : Int} (hb : BagOk xs) (h1 : 1 ≤ n) (h9 : n ≤ 9) (p1 : 1 ≤ part) (p5 : part ≤ 5) :
    ∃ l ys, c__law_lot_1 [some (.bo xs), some (.im (.int n)), some (.im (.int part)), none] = .ok (iD l) [some (.bo ys), some (.im (.int n)), some (.im (.int part)), none] ∧ Lot n l ∧ BagOk ys := by
  have r := rng1_ok (n := n) (by omega) (by omega)
  rw [range_ints] at r
  obtain ⟨sel, zs, ρ', e1, ⟨ys, e2, hy⟩, e3, e4⟩ := nLc_inv (vs := [3]) (fi := iCall rng1 (aCons (eVar 1) aNil)) (g := gSet 3) (gt := bAnd (bCmp gEq (eUser F__law_draw (aCons (eVar 0) (aCons (eVar 2) aNil))) (eC (.int 0))) (bCmp gGt (eUser F__law_draw (aCons (eVar 0) (aCons (eC (.int 9)) aNil))) (eC (.int 0)))) (fe := eVar 3)
    (ρ := [some (.bo xs), some (.im (.int n)), some (.im (.int part)), none]) (ds := (iD ((List.range n.toNat).map fun (i : Nat) => (i : Int))).map .im)
    (fun ρ => ∃ ys, ρ = [some (.bo ys), some (.im (.int n)), some (.im (.int part)), none] ∧ BagOk ys) (fun d x => d = .im x) (by conv => lhs; simp only [defF, runF, entry, bos, sSeq, sNil, sIf, sSet, sOwn, sSetL, sPar, sRet, sRetL, sRetN, sExpr, M.bind, M.ret, M.opt, val, look, imm, vals, looks, imms, eVar, eC, eBin, eUn, eCall, eN, eTup, nLst, nCall, aNil, aCons, eAnd, eOr, eNot, eIf, eChain, eSl, oSome, oNone, eTupRg, nLstRg, rOne, rTwo, eMt, eDict0, bVal, bCmp, bBl, bAnd, bOr, bNot, bYes, isBl, truth, Dv.isInt, setIm, setOw, lAt, lPut, eUser, nUser, uCall, apart, noAl, toSVs, toSV, putBack, bosAt, allIm, iSeq, iCall, iCallI, sFor, gSet, gTupD, gsCons, gsNil, gsCons, wipeR, okw, putB, e_lt, e_le, e_gt, e_ge, e_sub, e_addI, gNeg, gInt, List.length_cons, List.length_nil, List.map_cons, List.map_nil, List.cons_append, List.nil_append, List.getElem?_cons_zero, List.getElem?_cons_succ, List.getElem?_nil, List.replicate, List.set_cons_zero, List.set_cons_succ, List.all_cons, List.all_nil, decide_true, decide_false, Nat.sub_self, Nat.reduceAdd, Nat.reduceSub, Nat.reduceEqDiff, Nat.reduceBNe, Bool.not_true, Bool.not_false, Bool.and_true, Bool.true_and, Bool.and_self, Option.getD_some, Option.getD_none, if_true, if_false, ↓reduceIte, r]) rfl (by simp; omega) ⟨xs, rfl, hb⟩ (by
    rintro d hd ρ ⟨ys, rfl, hy⟩
    obtain ⟨x, hx, rfl⟩ := List.mem_map.mp hd
    obtain ⟨i, hi, rfl⟩ := List.mem_map.mp hx
    obtain ⟨r, ys2, d1, r0, r1, hy2⟩ := draw_ok (many := part) hy p1 (by omega)
    rw [← f_draw] at d1
    have q := gEqI r 0
    by_cases hr : r = 0
    · obtain ⟨r', ys3, d2, r0', r1', hy3⟩ := draw_ok (many := 9) hy2 (by decide) (by decide)
      rw [← f_draw] at d2
      rw [decide_eq_true hr] at q
      refine ⟨[some (.bo ys), some (.im (.int n)), some (.im (.int part)), some (.im (.int i))], decide (0 < r'), [some (.bo ys3), some (.im (.int n)), some (.im (.int part)), some (.im (.int i))], by (conv => lhs; simp only [defF, runF, entry, bos, sSeq, sNil, sIf, sSet, sOwn, sSetL, sPar, sRet, sRetL, sRetN, sExpr, M.bind, M.ret, M.opt, val, look, imm, vals, looks, imms, eVar, eC, eBin, eUn, eCall, eN, eTup, nLst, nCall, aNil, aCons, eAnd, eOr, eNot, eIf, eChain, eSl, oSome, oNone, eTupRg, nLstRg, rOne, rTwo, eMt, eDict0, bVal, bCmp, bBl, bAnd, bOr, bNot, bYes, isBl, truth, Dv.isInt, setIm, setOw, lAt, lPut, eUser, nUser, uCall, apart, noAl, toSVs, toSV, putBack, bosAt, allIm, iSeq, iCall, iCallI, sFor, gSet, gTupD, gsCons, gsNil, gsCons, wipeR, okw, putB, e_lt, e_le, e_gt, e_ge, e_sub, e_addI, gNeg, gInt, List.length_cons, List.length_nil, List.map_cons, List.map_nil, List.cons_append, List.nil_append, List.getElem?_cons_zero, List.getElem?_cons_succ, List.getElem?_nil, List.replicate, List.set_cons_zero, List.set_cons_succ, List.all_cons, List.all_nil, decide_true, decide_false, Nat.sub_self, Nat.reduceAdd, Nat.reduceSub, Nat.reduceEqDiff, Nat.reduceBNe, Bool.not_true, Bool.not_false, Bool.and_true, Bool.true_and, Bool.and_self, Option.getD_some, Option.getD_none, if_true, if_false, ↓reduceIte]) <;> try rfl, ?_, fun _ => ⟨.int i, [some (.bo ys3), some (.im (.int n)), some (.im (.int part)), some (.im (.int i))], by (conv => lhs; simp only [defF, runF, entry, bos, sSeq, sNil, sIf, sSet, sOwn, sSetL, sPar, sRet, sRetL, sRetN, sExpr, M.bind, M.ret, M.opt, val, look, imm, vals, looks, imms, eVar, eC, eBin, eUn, eCall, eN, eTup, nLst, nCall, aNil, aCons, eAnd, eOr, eNot, eIf, eChain, eSl, oSome, oNone, eTupRg, nLstRg, rOne, rTwo, eMt, eDict0, bVal, bCmp, bBl, bAnd, bOr, bNot, bYes, isBl, truth, Dv.isInt, setIm, setOw, lAt, lPut, eUser, nUser, uCall, apart, noAl, toSVs, toSV, putBack, bosAt, allIm, iSeq, iCall, iCallI, sFor, gSet, gTupD, gsCons, gsNil, gsCons, wipeR, okw, putB, e_lt, e_le, e_gt, e_ge, e_sub, e_addI, gNeg, gInt, List.length_cons, List.length_nil, List.map_cons, List.map_nil, List.cons_append, List.nil_append, List.getElem?_cons_zero, List.getElem?_cons_succ, List.getElem?_nil, List.replicate, List.set_cons_zero, List.set_cons_succ, List.all_cons, List.all_nil, decide_true, decide_false, Nat.sub_self, Nat.reduceAdd, Nat.reduceSub, Nat.reduceEqDiff, Nat.reduceBNe, Bool.not_true, Bool.not_false, Bool.and_true, Bool.true_and, Bool.and_self, Option.getD_some, Option.getD_none, if_true, if_false, ↓reduceIte]) <;> try rfl, rfl, ys3, by rfl, hy3⟩, fun _ => ⟨ys3, by rfl, hy3⟩⟩
      by_cases h2 : 0 < r'
      · rw [decide_eq_true h2]
        conv => lhs; simp only [defF, runF, entry, bos, sSeq, sNil, sIf, sSet, sOwn, sSetL, sPar, sRet, sRetL, sRetN, sExpr, M.bind, M.ret, M.opt, val, look, imm, vals, looks, imms, eVar, eC, eBin, eUn, eCall, eN, eTup, nLst, nCall, aNil, aCons, eAnd, eOr, eNot, eIf, eChain, eSl, oSome, oNone, eTupRg, nLstRg, rOne, rTwo, eMt, eDict0, bVal, bCmp, bBl, bAnd, bOr, bNot, bYes, isBl, truth, Dv.isInt, setIm, setOw, lAt, lPut, eUser, nUser, uCall, apart, noAl, toSVs, toSV, putBack, bosAt, allIm, iSeq, iCall, iCallI, sFor, gSet, gTupD, gsCons, gsNil, gsCons, wipeR, okw, putB, e_lt, e_le, e_gt, e_ge, e_sub, e_addI, gNeg, gInt, List.length_cons, List.length_nil, List.map_cons, List.map_nil, List.cons_append, List.nil_append, List.getElem?_cons_zero, List.getElem?_cons_succ, List.getElem?_nil, List.replicate, List.set_cons_zero, List.set_cons_succ, List.all_cons, List.all_nil, decide_true, decide_false, Nat.sub_self, Nat.reduceAdd, Nat.reduceSub, Nat.reduceEqDiff, Nat.reduceBNe, Bool.not_true, Bool.not_false, Bool.and_true, Bool.true_and, Bool.and_self, Option.getD_some, Option.getD_none, if_true, if_false, ↓reduceIte, d1, d2, q, h2]
      · rw [decide_eq_false h2]
        conv => lhs; simp only [defF, runF, entry, bos, sSeq, sNil, sIf, sSet, sOwn, sSetL, sPar, sRet, sRetL, sRetN, sExpr, M.bind, M.ret, M.opt, val, look, imm, vals, looks, imms, eVar, eC, eBin, eUn, eCall, eN, eTup, nLst, nCall, aNil, aCons, eAnd, eOr, eNot, eIf, eChain, eSl, oSome, oNone, eTupRg, nLstRg, rOne, rTwo, eMt, eDict0, bVal, bCmp, bBl, bAnd, bOr, bNot, bYes, isBl, truth, Dv.isInt, setIm, setOw, lAt, lPut, eUser, nUser, uCall, apart, noAl, toSVs, toSV, putBack, bosAt, allIm, iSeq, iCall, iCallI, sFor, gSet, gTupD, gsCons, gsNil, gsCons, wipeR, okw, putB, e_lt, e_le, e_gt, e_ge, e_sub, e_addI, gNeg, gInt, List.length_cons, List.length_nil, List.map_cons, List.map_nil, List.cons_append, List.nil_append, List.getElem?_cons_zero, List.getElem?_cons_succ, List.getElem?_nil, List.replicate, List.set_cons_zero, List.set_cons_succ, List.all_cons, List.all_nil, decide_true, decide_false, Nat.sub_self, Nat.reduceAdd, Nat.reduceSub, Nat.reduceEqDiff, Nat.reduceBNe, Bool.not_true, Bool.not_false, Bool.and_true, Bool.true_and, Bool.and_self, Option.getD_some, Option.getD_none, if_true, if_false, ↓reduceIte, d1, d2, q, h2]
    · rw [decide_eq_false hr] at q
      refine ⟨[some (.bo ys), some (.im (.int n)), some (.im (.int part)), some (.im (.int i))], false, [some (.bo ys2), some (.im (.int n)), some (.im (.int part)), some (.im (.int i))], by (conv => lhs; simp only [defF, runF, entry, bos, sSeq, sNil, sIf, sSet, sOwn, sSetL, sPar, sRet, sRetL, sRetN, sExpr, M.bind, M.ret, M.opt, val, look, imm, vals, looks, imms, eVar, eC, eBin, eUn, eCall, eN, eTup, nLst, nCall, aNil, aCons, eAnd, eOr, eNot, eIf, eChain, eSl, oSome, oNone, eTupRg, nLstRg, rOne, rTwo, eMt, eDict0, bVal, bCmp, bBl, bAnd, bOr, bNot, bYes, isBl, truth, Dv.isInt, setIm, setOw, lAt, lPut, eUser, nUser, uCall, apart, noAl, toSVs, toSV, putBack, bosAt, allIm, iSeq, iCall, iCallI, sFor, gSet, gTupD, gsCons, gsNil, gsCons, wipeR, okw, putB, e_lt, e_le, e_gt, e_ge, e_sub, e_addI, gNeg, gInt, List.length_cons, List.length_nil, List.map_cons, List.map_nil, List.cons_append, List.nil_append, List.getElem?_cons_zero, List.getElem?_cons_succ, List.getElem?_nil, List.replicate, List.set_cons_zero, List.set_cons_succ, List.all_cons, List.all_nil, decide_true, decide_false, Nat.sub_self, Nat.reduceAdd, Nat.reduceSub, Nat.reduceEqDiff, Nat.reduceBNe, Bool.not_true, Bool.not_false, Bool.and_true, Bool.true_and, Bool.and_self, Option.getD_some, Option.getD_none, if_true, if_false, ↓reduceIte]) <;> try rfl, ?_, (fun z => nomatch z), fun _ => ⟨ys2, by rfl, hy2⟩⟩
      conv => lhs; simp only [defF, runF, entry, bos, sSeq, sNil, sIf, sSet, sOwn, sSetL, sPar, sRet, sRetL, sRetN, sExpr, M.bind, M.ret, M.opt, val, look, imm, vals, looks, imms, eVar, eC, eBin, eUn, eCall, eN, eTup, nLst, nCall, aNil, aCons, eAnd, eOr, eNot, eIf, eChain, eSl, oSome, oNone, eTupRg, nLstRg, rOne, rTwo, eMt, eDict0, bVal, bCmp, bBl, bAnd, bOr, bNot, bYes, isBl, truth, Dv.isInt, setIm, setOw, lAt, lPut, eUser, nUser, uCall, apart, noAl, toSVs, toSV, putBack, bosAt, allIm, iSeq, iCall, iCallI, sFor, gSet, gTupD, gsCons, gsNil, gsCons, wipeR, okw, putB, e_lt, e_le, e_gt, e_ge, e_sub, e_addI, gNeg, gInt, List.length_cons, List.length_nil, List.map_cons, List.map_nil, List.cons_append, List.nil_append, List.getElem?_cons_zero, List.getElem?_cons_succ, List.getElem?_nil, List.replicate, List.set_cons_zero, List.set_cons_succ, List.all_cons, List.all_nil, decide_true, decide_false, Nat.sub_self, Nat.reduceAdd, Nat.reduceSub, Nat.reduceEqDiff, Nat.reduceBNe, Bool.not_true, Bool.not_false, Bool.and_true, Bool.true_and, Bool.and_self, Option.getD_some, Option.getD_none, if_true, if_false, ↓reduceIte, d1, q])
  rw [F2_im e4] at e3
  obtain ⟨l, rfl, hsub⟩ := sub_ints e3
  subst e2
  refine ⟨l, ys, e1, ?_, hy⟩
  have full := picks_lot n.toNat fun _ => true
  have ef : picks n.toNat (fun _ => true) = (List.range n.toNat).map fun (i : Nat) => (i : Int) := by
    unfold picks
    rw [List.filter_eq_self.mpr (by simp)]
  rw [ef] at full
  exact ⟨full.1.sublist hsub, fun x hx => by have := full.2 x (hsub.subset hx); omega⟩
theorem lot_ok {xs : List D} {n : Int} (hb : BagOk xs) (h1 : 1 ≤ n) (h9 : n ≤ 9) : ∃ l ys, F__law_lot [.bo xs, .im (.int n)] = some (.im (.tup (iD l)), [some ys]) ∧ Lot n l ∧ BagOk ys := by
  obtain ⟨d, ys, hd, e, hy⟩ := one_of_ok (items := [.int 1, .int 2, .int 2, .int 5]) hb (by simp) (by simp)
  have hp : ∃ part : Int, d = .int part ∧ 1 ≤ part ∧ part ≤ 5 := by
    simp only [List.mem_cons, List.not_mem_nil, or_false] at hd
    rcases hd with rfl | rfl | rfl | rfl
    · exact ⟨1, rfl, by decide, by decide⟩
    · exact ⟨2, rfl, by decide, by decide⟩
    · exact ⟨2, rfl, by decide, by decide⟩
    · exact ⟨5, rfl, by decide, by decide⟩
  obtain ⟨part, rfl, p1, p5⟩ := hp
  obtain ⟨l, zs, c, hl, hz⟩ := lot_1 (n := n) (part := part) hy h1 h9 p1 p5
  have f4 : few [.int 1, .int 2, .int 2, .int 5] = some [.int 1, .int 2, .int 2, .int 5] := rfl
  have g := gTupL l
  refine ⟨l, zs, ?_, hl, hz⟩
  conv => lhs; simp only [defF, runF, entry, bos, sSeq, sNil, sIf, sSet, sOwn, sSetL, sPar, sRet, sRetL, sRetN, sExpr, M.bind, M.ret, M.opt, val, look, imm, vals, looks, imms, eVar, eC, eBin, eUn, eCall, eN, eTup, nLst, nCall, aNil, aCons, eAnd, eOr, eNot, eIf, eChain, eSl, oSome, oNone, eTupRg, nLstRg, rOne, rTwo, eMt, eDict0, bVal, bCmp, bBl, bAnd, bOr, bNot, bYes, isBl, truth, Dv.isInt, setIm, setOw, lAt, lPut, eUser, nUser, uCall, apart, noAl, toSVs, toSV, putBack, bosAt, allIm, iSeq, iCall, iCallI, sFor, gSet, gTupD, gsCons, gsNil, gsCons, wipeR, okw, putB, e_lt, e_le, e_gt, e_ge, e_sub, e_addI, gNeg, gInt, List.length_cons, List.length_nil, List.map_cons, List.map_nil, List.cons_append, List.nil_append, List.getElem?_cons_zero, List.getElem?_cons_succ, List.getElem?_nil, List.replicate, List.set_cons_zero, List.set_cons_succ, List.all_cons, List.all_nil, decide_true, decide_false, Nat.sub_self, Nat.reduceAdd, Nat.reduceSub, Nat.reduceEqDiff, Nat.reduceBNe, Bool.not_true, Bool.not_false, Bool.and_true, Bool.true_and, Bool.and_self, Option.getD_some, Option.getD_none, if_true, if_false, ↓reduceIte, F__law_lot, s__law_lot, e, f4, c, g]
theorem is_lot_ok {n : Int} {d : D} (h1 : 1 ≤ n) (h9 : n ≤ 9) (hp : plain d = true) (hx : ∀ xs, d = .tup xs → (∀ x ∈ xs, plain x = true) ∧ xs.length ≤ 1000000) : F_is_lot [.im (.int n), .im d] = some (.im (.bl (lotB n d)), []) := by
  have w1 := size_ok h1 h9
  have w2 := is_lot_of_ok h9 hp hx
  conv => lhs; simp only [defF, runF, entry, bos, sSeq, sNil, sIf, sSet, sOwn, sSetL, sPar, sRet, sRetL, sRetN, sExpr, M.bind, M.ret, M.opt, val, look, imm, vals, looks, imms, eVar, eC, eBin, eUn, eCall, eN, eTup, nLst, nCall, aNil, aCons, eAnd, eOr, eNot, eIf, eChain, eSl, oSome, oNone, eTupRg, nLstRg, rOne, rTwo, eMt, eDict0, bVal, bCmp, bBl, bAnd, bOr, bNot, bYes, isBl, truth, Dv.isInt, setIm, setOw, lAt, lPut, eUser, nUser, uCall, apart, noAl, toSVs, toSV, putBack, bosAt, allIm, iSeq, iCall, iCallI, sFor, gSet, gTupD, gsCons, gsNil, gsCons, wipeR, okw, putB, e_lt, e_le, e_gt, e_ge, e_sub, e_addI, gNeg, gInt, List.length_cons, List.length_nil, List.map_cons, List.map_nil, List.cons_append, List.nil_append, List.getElem?_cons_zero, List.getElem?_cons_succ, List.getElem?_nil, List.replicate, List.set_cons_zero, List.set_cons_succ, List.all_cons, List.all_nil, decide_true, decide_false, Nat.sub_self, Nat.reduceAdd, Nat.reduceSub, Nat.reduceEqDiff, Nat.reduceBNe, Bool.not_true, Bool.not_false, Bool.and_true, Bool.true_and, Bool.and_self, Option.getD_some, Option.getD_none, if_true, if_false, ↓reduceIte, F_is_lot, s_is_lot, w1, w2]
end K01
namespace K01
open PySem PySem.Spec PyProof.Rows L2 Dv
def Near (d : D) : Prop := plain d = true ∧ ∀ xs, d = .tup xs → (∀ x ∈ xs, plain x = true ∧ pl 48 x = true) ∧ xs.length < 64
abbrev rr (b o t e u v : List D) (n : Int) (ds : List D) (va fi : Option D) : Rho := [some (.bo b), some (.im (.int n)), some (.im (.tup o)), some (.im (.tup t)), some (.im (.lst e)), some (.im (.lst u)), some (.im (.lst v)), some (.ow ds), va.map SV.im, fi.map SV.im, none]
theorem pls_of {n : Nat} : ∀ {xs : List D}, (∀ x ∈ xs, pl n x = true) → pls n xs = true
  | [], _ => by rw [pls.eq_def]
  | x :: xs, h => by
    rw [pls.eq_def]
    simp only [Bool.and_eq_true]
    exact ⟨h x List.mem_cons_self, pls_of fun y hy => h y (List.mem_cons_of_mem _ hy)⟩
theorem pl_up {n m : Nat} (h : n ≤ m) : ∀ {d : D}, pl n d = true → pl m d = true := by
  intro d
  induction n generalizing m d with
  | zero =>
    intro e
    cases d with
    | _ => first | (rw [pl.eq_def]; done) | (rw [pl.eq_def] at e ⊢; exact e) | (rw [pl.eq_def] at e; cases e; done)
  | succ n ih =>
    intro e
    obtain ⟨m', rfl⟩ : ∃ m', m = m' + 1 := ⟨m - 1, by omega⟩
    have hs : ∀ xs : List D, pls n xs = true → pls m' xs = true := by
      intro xs
      induction xs with
      | nil => intro _; rw [pls.eq_def]
      | cons a r ih2 =>
        intro k
        rw [pls.eq_def] at k ⊢
        simp only [Bool.and_eq_true] at k ⊢
        exact ⟨ih (by omega) k.1, ih2 k.2⟩
    cases d with
    | lst xs => rw [pl.eq_def] at e ⊢; exact hs xs e
    | tup xs => rw [pl.eq_def] at e ⊢; exact hs xs e
    | _ => first | (rw [pl.eq_def]; done) | (rw [pl.eq_def] at e ⊢; exact e) | (rw [pl.eq_def] at e; cases e; done)
theorem gEq_nil {xs : List D} (h : ∀ x ∈ xs, pl 48 x = true) : gEq (.lst xs) (.lst []) = some (.bl xs.isEmpty) := by
  show gEqP (.lst xs) (.lst []) = _
  unfold gEqP
  have h1 : pl 50 (.lst xs) = true := by rw [pl.eq_def]; exact pls_of fun x hx => pl_up (by decide) (h x hx)
  have h2 : pl 50 (.lst []) = true := by rw [pl.eq_def]; exact pls_of fun x hx => nomatch hx
  rw [h1, h2]
  simp only [Bool.and_self]
  cases xs <;> rfl
def odd (x : D) : Bool := !isI x || isB x
theorem right_3 {b o t e u v : List D} {n : Int} {ds : List D} {fi : Option D} {xs : List D} (hx : ∀ x ∈ xs, plain x = true) (hl : xs.length ≤ 1000000) : c__law_right_3 (rr b o t e u v n ds (some (.tup xs)) fi) = .ok (xs.filter odd) (rr b o t e u v n ds (some (.tup xs)) fi) := by
  have q := nLc_im (v := 2) (fi := iSeq (eVar 8)) (gt := bOr (bNot (bVal (eUn (gIsi "int") (eVar 2)))) (bVal (eUn (gIsi "bool") (eVar 2)))) (fe := eVar 2) (ρ := rr b o t e u v n ds (some (.tup xs)) fi) (xs := xs) odd (fun d => d) (by conv => lhs; simp only [defF, runF, entry, bos, sSeq, sNil, sIf, sSet, sOwn, sSetL, sPar, sRet, sRetL, sRetN, sExpr, M.bind, M.ret, M.opt, val, look, imm, vals, looks, imms, eVar, eC, eBin, eUn, eCall, eN, eTup, nLst, nCall, aNil, aCons, eAnd, eOr, eNot, eIf, eChain, eSl, oSome, oNone, eTupRg, nLstRg, rOne, rTwo, eMt, eDict0, bVal, bCmp, bBl, bAnd, bOr, bNot, bYes, isBl, truth, Dv.isInt, setIm, setOw, lAt, lPut, eUser, nUser, uCall, apart, noAl, toSVs, toSV, putBack, bosAt, allIm, iSeq, iCall, iCallI, sFor, gSet, gTupD, gsCons, gsNil, gsCons, wipeR, okw, putB, e_lt, e_le, e_gt, e_ge, e_sub, e_addI, gNeg, gInt, List.length_cons, List.length_nil, List.map_cons, List.map_nil, List.cons_append, List.nil_append, List.getElem?_cons_zero, List.getElem?_cons_succ, List.getElem?_nil, List.replicate, List.set_cons_zero, List.set_cons_succ, List.all_cons, List.all_nil, decide_true, decide_false, Nat.sub_self, Nat.reduceAdd, Nat.reduceSub, Nat.reduceEqDiff, Nat.reduceBNe, Bool.not_true, Bool.not_false, Bool.and_true, Bool.true_and, Bool.and_self, Option.getD_some, Option.getD_none, if_true, if_false, ↓reduceIte, Option.map_some]) rfl (by show 2 < 11; decide) hl (fun d hd => by
    have e1 := isi_int d (hx d hd)
    have e2 := isi_bool d (hx d hd)
    constructor
    · cases h1 : isI d with
      | false =>
        have ho : odd d = true := by unfold odd; rw [h1]; rfl
        rw [h1] at e1
        rw [ho]
        (conv => lhs; simp only [defF, runF, entry, bos, sSeq, sNil, sIf, sSet, sOwn, sSetL, sPar, sRet, sRetL, sRetN, sExpr, M.bind, M.ret, M.opt, val, look, imm, vals, looks, imms, eVar, eC, eBin, eUn, eCall, eN, eTup, nLst, nCall, aNil, aCons, eAnd, eOr, eNot, eIf, eChain, eSl, oSome, oNone, eTupRg, nLstRg, rOne, rTwo, eMt, eDict0, bVal, bCmp, bBl, bAnd, bOr, bNot, bYes, isBl, truth, Dv.isInt, setIm, setOw, lAt, lPut, eUser, nUser, uCall, apart, noAl, toSVs, toSV, putBack, bosAt, allIm, iSeq, iCall, iCallI, sFor, gSet, gTupD, gsCons, gsNil, gsCons, wipeR, okw, putB, e_lt, e_le, e_gt, e_ge, e_sub, e_addI, gNeg, gInt, List.length_cons, List.length_nil, List.map_cons, List.map_nil, List.cons_append, List.nil_append, List.getElem?_cons_zero, List.getElem?_cons_succ, List.getElem?_nil, List.replicate, List.set_cons_zero, List.set_cons_succ, List.all_cons, List.all_nil, decide_true, decide_false, Nat.sub_self, Nat.reduceAdd, Nat.reduceSub, Nat.reduceEqDiff, Nat.reduceBNe, Bool.not_true, Bool.not_false, Bool.and_true, Bool.true_and, Bool.and_self, Option.getD_some, Option.getD_none, if_true, if_false, ↓reduceIte, e1, Option.map_some]) <;> try rfl
      | true =>
        have ho : odd d = isB d := by unfold odd; rw [h1]; rfl
        rw [h1] at e1
        rw [ho]
        (conv => lhs; simp only [defF, runF, entry, bos, sSeq, sNil, sIf, sSet, sOwn, sSetL, sPar, sRet, sRetL, sRetN, sExpr, M.bind, M.ret, M.opt, val, look, imm, vals, looks, imms, eVar, eC, eBin, eUn, eCall, eN, eTup, nLst, nCall, aNil, aCons, eAnd, eOr, eNot, eIf, eChain, eSl, oSome, oNone, eTupRg, nLstRg, rOne, rTwo, eMt, eDict0, bVal, bCmp, bBl, bAnd, bOr, bNot, bYes, isBl, truth, Dv.isInt, setIm, setOw, lAt, lPut, eUser, nUser, uCall, apart, noAl, toSVs, toSV, putBack, bosAt, allIm, iSeq, iCall, iCallI, sFor, gSet, gTupD, gsCons, gsNil, gsCons, wipeR, okw, putB, e_lt, e_le, e_gt, e_ge, e_sub, e_addI, gNeg, gInt, List.length_cons, List.length_nil, List.map_cons, List.map_nil, List.cons_append, List.nil_append, List.getElem?_cons_zero, List.getElem?_cons_succ, List.getElem?_nil, List.replicate, List.set_cons_zero, List.set_cons_succ, List.all_cons, List.all_nil, decide_true, decide_false, Nat.sub_self, Nat.reduceAdd, Nat.reduceSub, Nat.reduceEqDiff, Nat.reduceBNe, Bool.not_true, Bool.not_false, Bool.and_true, Bool.true_and, Bool.and_self, Option.getD_some, Option.getD_none, if_true, if_false, ↓reduceIte, e1, e2, Option.map_some]) <;> try rfl
    · intro _
      (conv => lhs; simp only [defF, runF, entry, bos, sSeq, sNil, sIf, sSet, sOwn, sSetL, sPar, sRet, sRetL, sRetN, sExpr, M.bind, M.ret, M.opt, val, look, imm, vals, looks, imms, eVar, eC, eBin, eUn, eCall, eN, eTup, nLst, nCall, aNil, aCons, eAnd, eOr, eNot, eIf, eChain, eSl, oSome, oNone, eTupRg, nLstRg, rOne, rTwo, eMt, eDict0, bVal, bCmp, bBl, bAnd, bOr, bNot, bYes, isBl, truth, Dv.isInt, setIm, setOw, lAt, lPut, eUser, nUser, uCall, apart, noAl, toSVs, toSV, putBack, bosAt, allIm, iSeq, iCall, iCallI, sFor, gSet, gTupD, gsCons, gsNil, gsCons, wipeR, okw, putB, e_lt, e_le, e_gt, e_ge, e_sub, e_addI, gNeg, gInt, List.length_cons, List.length_nil, List.map_cons, List.map_nil, List.cons_append, List.nil_append, List.getElem?_cons_zero, List.getElem?_cons_succ, List.getElem?_nil, List.replicate, List.set_cons_zero, List.set_cons_succ, List.all_cons, List.all_nil, decide_true, decide_false, Nat.sub_self, Nat.reduceAdd, Nat.reduceSub, Nat.reduceEqDiff, Nat.reduceBNe, Bool.not_true, Bool.not_false, Bool.and_true, Bool.true_and, Bool.and_self, Option.getD_some, Option.getD_none, if_true, if_false, ↓reduceIte, Option.map_some]) <;> try rfl)
  rw [List.map_id'] at q
  exact q
theorem right_2 {b o t e u v : List D} {n : Int} {ds : List D} {fi : Option D} {l : List Int} (hl : l.length ≤ 1000000) : c__law_right_2 (rr b o t e u v n ds (some (.tup (iD l))) fi) = .ok (iD (l.filter fun i => !(decide (0 ≤ i) && decide (i < n)))) (rr b o t e u v n ds (some (.tup (iD l))) fi) :=
  nLc_int (fun i => !(decide (0 ≤ i) && decide (i < n))) (by conv => lhs; simp only [defF, runF, entry, bos, sSeq, sNil, sIf, sSet, sOwn, sSetL, sPar, sRet, sRetL, sRetN, sExpr, M.bind, M.ret, M.opt, val, look, imm, vals, looks, imms, eVar, eC, eBin, eUn, eCall, eN, eTup, nLst, nCall, aNil, aCons, eAnd, eOr, eNot, eIf, eChain, eSl, oSome, oNone, eTupRg, nLstRg, rOne, rTwo, eMt, eDict0, bVal, bCmp, bBl, bAnd, bOr, bNot, bYes, isBl, truth, Dv.isInt, setIm, setOw, lAt, lPut, eUser, nUser, uCall, apart, noAl, toSVs, toSV, putBack, bosAt, allIm, iSeq, iCall, iCallI, sFor, gSet, gTupD, gsCons, gsNil, gsCons, wipeR, okw, putB, e_lt, e_le, e_gt, e_ge, e_sub, e_addI, gNeg, gInt, List.length_cons, List.length_nil, List.map_cons, List.map_nil, List.cons_append, List.nil_append, List.getElem?_cons_zero, List.getElem?_cons_succ, List.getElem?_nil, List.replicate, List.set_cons_zero, List.set_cons_succ, List.all_cons, List.all_nil, decide_true, decide_false, Nat.sub_self, Nat.reduceAdd, Nat.reduceSub, Nat.reduceEqDiff, Nat.reduceBNe, Bool.not_true, Bool.not_false, Bool.and_true, Bool.true_and, Bool.and_self, Option.getD_some, Option.getD_none, if_true, if_false, ↓reduceIte, Option.map_some]) rfl (by show 2 < 11; decide) hl fun i hi => by
    constructor
    · by_cases h1 : 0 ≤ i
      · by_cases h2 : i < n
        · rw [decide_eq_true h1, decide_eq_true h2]
          (conv => lhs; simp only [defF, runF, entry, bos, sSeq, sNil, sIf, sSet, sOwn, sSetL, sPar, sRet, sRetL, sRetN, sExpr, M.bind, M.ret, M.opt, val, look, imm, vals, looks, imms, eVar, eC, eBin, eUn, eCall, eN, eTup, nLst, nCall, aNil, aCons, eAnd, eOr, eNot, eIf, eChain, eSl, oSome, oNone, eTupRg, nLstRg, rOne, rTwo, eMt, eDict0, bVal, bCmp, bBl, bAnd, bOr, bNot, bYes, isBl, truth, Dv.isInt, setIm, setOw, lAt, lPut, eUser, nUser, uCall, apart, noAl, toSVs, toSV, putBack, bosAt, allIm, iSeq, iCall, iCallI, sFor, gSet, gTupD, gsCons, gsNil, gsCons, wipeR, okw, putB, e_lt, e_le, e_gt, e_ge, e_sub, e_addI, gNeg, gInt, List.length_cons, List.length_nil, List.map_cons, List.map_nil, List.cons_append, List.nil_append, List.getElem?_cons_zero, List.getElem?_cons_succ, List.getElem?_nil, List.replicate, List.set_cons_zero, List.set_cons_succ, List.all_cons, List.all_nil, decide_true, decide_false, Nat.sub_self, Nat.reduceAdd, Nat.reduceSub, Nat.reduceEqDiff, Nat.reduceBNe, Bool.not_true, Bool.not_false, Bool.and_true, Bool.true_and, Bool.and_self, Option.getD_some, Option.getD_none, if_true, if_false, ↓reduceIte, h1, h2, Option.map_some]) <;> try rfl
        · rw [decide_eq_true h1, decide_eq_false h2]
          (conv => lhs; simp only [defF, runF, entry, bos, sSeq, sNil, sIf, sSet, sOwn, sSetL, sPar, sRet, sRetL, sRetN, sExpr, M.bind, M.ret, M.opt, val, look, imm, vals, looks, imms, eVar, eC, eBin, eUn, eCall, eN, eTup, nLst, nCall, aNil, aCons, eAnd, eOr, eNot, eIf, eChain, eSl, oSome, oNone, eTupRg, nLstRg, rOne, rTwo, eMt, eDict0, bVal, bCmp, bBl, bAnd, bOr, bNot, bYes, isBl, truth, Dv.isInt, setIm, setOw, lAt, lPut, eUser, nUser, uCall, apart, noAl, toSVs, toSV, putBack, bosAt, allIm, iSeq, iCall, iCallI, sFor, gSet, gTupD, gsCons, gsNil, gsCons, wipeR, okw, putB, e_lt, e_le, e_gt, e_ge, e_sub, e_addI, gNeg, gInt, List.length_cons, List.length_nil, List.map_cons, List.map_nil, List.cons_append, List.nil_append, List.getElem?_cons_zero, List.getElem?_cons_succ, List.getElem?_nil, List.replicate, List.set_cons_zero, List.set_cons_succ, List.all_cons, List.all_nil, decide_true, decide_false, Nat.sub_self, Nat.reduceAdd, Nat.reduceSub, Nat.reduceEqDiff, Nat.reduceBNe, Bool.not_true, Bool.not_false, Bool.and_true, Bool.true_and, Bool.and_self, Option.getD_some, Option.getD_none, if_true, if_false, ↓reduceIte, h1, h2, Option.map_some]) <;> try rfl
      · rw [decide_eq_false h1]
        (conv => lhs; simp only [defF, runF, entry, bos, sSeq, sNil, sIf, sSet, sOwn, sSetL, sPar, sRet, sRetL, sRetN, sExpr, M.bind, M.ret, M.opt, val, look, imm, vals, looks, imms, eVar, eC, eBin, eUn, eCall, eN, eTup, nLst, nCall, aNil, aCons, eAnd, eOr, eNot, eIf, eChain, eSl, oSome, oNone, eTupRg, nLstRg, rOne, rTwo, eMt, eDict0, bVal, bCmp, bBl, bAnd, bOr, bNot, bYes, isBl, truth, Dv.isInt, setIm, setOw, lAt, lPut, eUser, nUser, uCall, apart, noAl, toSVs, toSV, putBack, bosAt, allIm, iSeq, iCall, iCallI, sFor, gSet, gTupD, gsCons, gsNil, gsCons, wipeR, okw, putB, e_lt, e_le, e_gt, e_ge, e_sub, e_addI, gNeg, gInt, List.length_cons, List.length_nil, List.map_cons, List.map_nil, List.cons_append, List.nil_append, List.getElem?_cons_zero, List.getElem?_cons_succ, List.getElem?_nil, List.replicate, List.set_cons_zero, List.set_cons_succ, List.all_cons, List.all_nil, decide_true, decide_false, Nat.sub_self, Nat.reduceAdd, Nat.reduceSub, Nat.reduceEqDiff, Nat.reduceBNe, Bool.not_true, Bool.not_false, Bool.and_true, Bool.true_and, Bool.and_self, Option.getD_some, Option.getD_none, if_true, if_false, ↓reduceIte, h1, Option.map_some]) <;> try rfl
    · (conv => lhs; simp only [defF, runF, entry, bos, sSeq, sNil, sIf, sSet, sOwn, sSetL, sPar, sRet, sRetL, sRetN, sExpr, M.bind, M.ret, M.opt, val, look, imm, vals, looks, imms, eVar, eC, eBin, eUn, eCall, eN, eTup, nLst, nCall, aNil, aCons, eAnd, eOr, eNot, eIf, eChain, eSl, oSome, oNone, eTupRg, nLstRg, rOne, rTwo, eMt, eDict0, bVal, bCmp, bBl, bAnd, bOr, bNot, bYes, isBl, truth, Dv.isInt, setIm, setOw, lAt, lPut, eUser, nUser, uCall, apart, noAl, toSVs, toSV, putBack, bosAt, allIm, iSeq, iCall, iCallI, sFor, gSet, gTupD, gsCons, gsNil, gsCons, wipeR, okw, putB, e_lt, e_le, e_gt, e_ge, e_sub, e_addI, gNeg, gInt, List.length_cons, List.length_nil, List.map_cons, List.map_nil, List.cons_append, List.nil_append, List.getElem?_cons_zero, List.getElem?_cons_succ, List.getElem?_nil, List.replicate, List.set_cons_zero, List.set_cons_succ, List.all_cons, List.all_nil, decide_true, decide_false, Nat.sub_self, Nat.reduceAdd, Nat.reduceSub, Nat.reduceEqDiff, Nat.reduceBNe, Bool.not_true, Bool.not_false, Bool.and_true, Bool.true_and, Bool.and_self, Option.getD_some, Option.getD_none, if_true, if_false, ↓reduceIte, Option.map_some]) <;> try rfl
theorem insU_len (i : Int) : ∀ l : List Int, (insU i l).length ≤ l.length + 1
  | [] => by simp [insU]
  | j :: r => by
    unfold insU
    have := insU_len i r
    by_cases h1 : i < j
    · rw [if_pos h1]; simp
    · rw [if_neg h1]
      by_cases h2 : i = j
      · rw [if_pos h2]; simp
      · rw [if_neg h2]; simp; omega
theorem sortU_len : ∀ l : List Int, (sortU l).length ≤ l.length
  | [] => by simp [sortU]
  | i :: r => by
    have := insU_len i (sortU r)
    have := sortU_len r
    rw [sortU, List.length_cons]
    omega
theorem ints_of {xs : List D} (h : xs.filter odd = []) : ∃ l, xs = iD l := by
  induction xs with
  | nil => exact ⟨[], rfl⟩
  | cons a r ih =>
    have ho : odd a = false := by
      cases q : odd a with
      | false => rfl
      | true => rw [List.filter_cons_of_pos q] at h; cases h
    rw [List.filter_cons_of_neg (by rw [ho]; exact Bool.false_ne_true)] at h
    obtain ⟨l, rfl⟩ := ih h
    have hi : ∃ i, a = .int i := by
      cases a <;> first | exact ⟨_, rfl⟩ | (cases ho; done)
    obtain ⟨i, rfl⟩ := hi
    exact ⟨i :: l, rfl⟩
theorem lotB_odd {n : Int} {xs : List D} (h : (xs.filter odd).isEmpty = false) : lotB n (.tup xs) = false := by
  have e : lotB n (.tup xs) = (xs.all (optB n) && asc xs) := rfl
  rw [e]
  have : xs.all (optB n) = false := by
    cases q : xs.all (optB n) with
    | false => rfl
    | true =>
      exfalso
      rw [List.all_eq_true] at q
      have z : xs.filter odd = [] := by
        rw [List.filter_eq_nil_iff]
        intro x hx
        obtain ⟨i, rfl⟩ := opt_int (q x hx)
        simp [odd, isI, isB]
      rw [z] at h
      cases h
  rw [this, Bool.false_and]
theorem turn_ok {b o t e u v : List D} {n : Int} {ds : List D} {va fi : Option D} {d : D} (hn : Near d) (hds : ds.length < 1000) : ∃ fi', (sSeq (sSet 9 (eAnd (eUn (gIsi "tuple") (eVar 8)) (eBin gEq (eN c__law_right_3) (eN (nLst aNil)))))
    (sExpr (eMt 7 cAppend (aCons (eAnd (eVar 9) (eAnd (eBin gEq (eN c__law_right_2) (eN (nLst aNil))) (eBin gEq (eN (nCall gList (aCons (eVar 8) aNil))) (eN (nCall gSortedS (aCons (eCall gSetI (aCons (eVar 8) aNil)) aNil)))))) aNil)))) (rr b o t e u v n ds (some d) fi) = .ok .nx (rr b o t e u v n (ds ++ [.bl (lotB n d)]) (some d) (some fi')) := by
  obtain ⟨hp, hx⟩ := hn
  have e1 := isi_tup d hp
  have f0 : few [] = some [] := rfl
  have ap : ∀ k : Bool, cAppend ds [.bl k] = some (.non, ds ++ [.bl k]) := fun k => by
    show (if ds.length < 1000000 then _ else _) = _
    rw [if_pos (by omega)]
  cases ht : isT d with
  | false =>
    have el : lotB n d = false := by cases d <;> first | rfl | (cases ht; done)
    rw [ht] at e1
    have a1 := ap false
    refine ⟨.bl false, ?_⟩
    rw [el]
    cases fi <;> ((conv => lhs; simp only [defF, runF, entry, bos, sSeq, sNil, sIf, sSet, sOwn, sSetL, sPar, sRet, sRetL, sRetN, sExpr, M.bind, M.ret, M.opt, val, look, imm, vals, looks, imms, eVar, eC, eBin, eUn, eCall, eN, eTup, nLst, nCall, aNil, aCons, eAnd, eOr, eNot, eIf, eChain, eSl, oSome, oNone, eTupRg, nLstRg, rOne, rTwo, eMt, eDict0, bVal, bCmp, bBl, bAnd, bOr, bNot, bYes, isBl, truth, Dv.isInt, setIm, setOw, lAt, lPut, eUser, nUser, uCall, apart, noAl, toSVs, toSV, putBack, bosAt, allIm, iSeq, iCall, iCallI, sFor, gSet, gTupD, gsCons, gsNil, gsCons, wipeR, okw, putB, e_lt, e_le, e_gt, e_ge, e_sub, e_addI, gNeg, gInt, List.length_cons, List.length_nil, List.map_cons, List.map_nil, List.cons_append, List.nil_append, List.getElem?_cons_zero, List.getElem?_cons_succ, List.getElem?_nil, List.replicate, List.set_cons_zero, List.set_cons_succ, List.all_cons, List.all_nil, decide_true, decide_false, Nat.sub_self, Nat.reduceAdd, Nat.reduceSub, Nat.reduceEqDiff, Nat.reduceBNe, Bool.not_true, Bool.not_false, Bool.and_true, Bool.true_and, Bool.and_self, Option.getD_some, Option.getD_none, if_true, if_false, ↓reduceIte, rr, Option.map_some, Option.map_none, e1, a1]) <;> try rfl)
  | true =>
    obtain ⟨xs, rfl⟩ : ∃ xs, d = .tup xs := by cases d <;> first | exact ⟨_, rfl⟩ | (cases ht; done)
    rw [ht] at e1
    obtain ⟨h1, h2⟩ := hx xs rfl
    have c3 := fun fi => right_3 (b := b) (o := o) (t := t) (e := e) (u := u) (v := v) (n := n) (ds := ds) (fi := fi) (xs := xs) (fun x hx => (h1 x hx).1) (by omega)
    have g3 := gEq_nil (xs := xs.filter odd) fun x hx => (h1 x (List.mem_filter.mp hx).1).2
    cases he : (xs.filter odd).isEmpty with
    | false =>
      have el := lotB_odd (n := n) he
      rw [he] at g3
      have a1 := ap false
      refine ⟨.bl false, ?_⟩
      rw [el]
      cases fi with
      | none =>
        have c3 := c3 none
        simp only [rr, Option.map_some, Option.map_none] at c3
        (conv => lhs; simp only [defF, runF, entry, bos, sSeq, sNil, sIf, sSet, sOwn, sSetL, sPar, sRet, sRetL, sRetN, sExpr, M.bind, M.ret, M.opt, val, look, imm, vals, looks, imms, eVar, eC, eBin, eUn, eCall, eN, eTup, nLst, nCall, aNil, aCons, eAnd, eOr, eNot, eIf, eChain, eSl, oSome, oNone, eTupRg, nLstRg, rOne, rTwo, eMt, eDict0, bVal, bCmp, bBl, bAnd, bOr, bNot, bYes, isBl, truth, Dv.isInt, setIm, setOw, lAt, lPut, eUser, nUser, uCall, apart, noAl, toSVs, toSV, putBack, bosAt, allIm, iSeq, iCall, iCallI, sFor, gSet, gTupD, gsCons, gsNil, gsCons, wipeR, okw, putB, e_lt, e_le, e_gt, e_ge, e_sub, e_addI, gNeg, gInt, List.length_cons, List.length_nil, List.map_cons, List.map_nil, List.cons_append, List.nil_append, List.getElem?_cons_zero, List.getElem?_cons_succ, List.getElem?_nil, List.replicate, List.set_cons_zero, List.set_cons_succ, List.all_cons, List.all_nil, decide_true, decide_false, Nat.sub_self, Nat.reduceAdd, Nat.reduceSub, Nat.reduceEqDiff, Nat.reduceBNe, Bool.not_true, Bool.not_false, Bool.and_true, Bool.true_and, Bool.and_self, Option.getD_some, Option.getD_none, if_true, if_false, ↓reduceIte, rr, Option.map_some, Option.map_none, e1, a1, c3, g3, f0]) <;> try rfl
      | some f =>
        have c3 := c3 (some f)
        simp only [rr, Option.map_some, Option.map_none] at c3
        (conv => lhs; simp only [defF, runF, entry, bos, sSeq, sNil, sIf, sSet, sOwn, sSetL, sPar, sRet, sRetL, sRetN, sExpr, M.bind, M.ret, M.opt, val, look, imm, vals, looks, imms, eVar, eC, eBin, eUn, eCall, eN, eTup, nLst, nCall, aNil, aCons, eAnd, eOr, eNot, eIf, eChain, eSl, oSome, oNone, eTupRg, nLstRg, rOne, rTwo, eMt, eDict0, bVal, bCmp, bBl, bAnd, bOr, bNot, bYes, isBl, truth, Dv.isInt, setIm, setOw, lAt, lPut, eUser, nUser, uCall, apart, noAl, toSVs, toSV, putBack, bosAt, allIm, iSeq, iCall, iCallI, sFor, gSet, gTupD, gsCons, gsNil, gsCons, wipeR, okw, putB, e_lt, e_le, e_gt, e_ge, e_sub, e_addI, gNeg, gInt, List.length_cons, List.length_nil, List.map_cons, List.map_nil, List.cons_append, List.nil_append, List.getElem?_cons_zero, List.getElem?_cons_succ, List.getElem?_nil, List.replicate, List.set_cons_zero, List.set_cons_succ, List.all_cons, List.all_nil, decide_true, decide_false, Nat.sub_self, Nat.reduceAdd, Nat.reduceSub, Nat.reduceEqDiff, Nat.reduceBNe, Bool.not_true, Bool.not_false, Bool.and_true, Bool.true_and, Bool.and_self, Option.getD_some, Option.getD_none, if_true, if_false, ↓reduceIte, rr, Option.map_some, Option.map_none, e1, a1, c3, g3, f0]) <;> try rfl
    | true =>
      rw [he] at g3
      obtain ⟨l, rfl⟩ := ints_of (List.isEmpty_iff.mp he)
      rw [List.length_map] at h2
      have c2 := fun fi => right_2 (b := b) (o := o) (t := t) (e := e) (u := u) (v := v) (n := n) (ds := ds) (fi := fi) (l := l) (by omega)
      have g2 : gEq (.lst (iD (l.filter fun i => !(decide (0 ≤ i) && decide (i < n))))) (.lst []) = some (.bl (decide ((l.filter fun i => !(decide (0 ≤ i) && decide (i < n))) = []))) := gEqL _ []
      have gl : gList [.tup (iD l)] = some (iD l) := rfl
      have gs : gSetI [.tup (iD l)] = some (.set (iD (sortU l))) := by
        unfold gSetI
        simp only [asInts_map]
        rw [if_pos (by omega)]
      have gso : gSortedS [.set (iD (sortU l))] = some (iD (sortU l)) := by
        show (if (iD (sortU l)).length < 64 then some (iD (sortU l)) else none) = _
        rw [if_pos (by have := sortU_len l; rw [List.length_map]; omega)]
      have g4 := gEqL l (sortU l)
      have key : lotB n (.tup (iD l)) = (decide ((l.filter fun i => !(decide (0 ≤ i) && decide (i < n))) = []) && decide (l = sortU l)) := by
        rw [Bool.eq_iff_iff, lotB_iff, Bool.and_eq_true, decide_eq_true_iff, decide_eq_true_iff, List.filter_eq_nil_iff]
        constructor
        · intro h
          refine ⟨fun x hx => ?_, lt_uniq h.1 (sortU_sorted l) fun k => mem_sortU.symm⟩
          have := h.2 x hx
          simp [this.1, this.2]
        · rintro ⟨q1, q2⟩
          refine ⟨by rw [q2]; exact sortU_sorted l, fun x hx => ?_⟩
          have := q1 x hx
          simpa using this
      rw [key]
      by_cases k1 : (l.filter fun i => !(decide (0 ≤ i) && decide (i < n))) = []
      · rw [decide_eq_true k1] at g2 ⊢
        have a1 := ap (decide (l = sortU l))
        refine ⟨.bl true, ?_⟩
        rw [Bool.true_and]
        have c2' := c2 (some (.bl true))
        simp only [rr, Option.map_some, Option.map_none] at c2'
        cases fi with
        | none =>
          have c3 := c3 none
          simp only [rr, Option.map_some, Option.map_none] at c3
          (conv => lhs; simp only [defF, runF, entry, bos, sSeq, sNil, sIf, sSet, sOwn, sSetL, sPar, sRet, sRetL, sRetN, sExpr, M.bind, M.ret, M.opt, val, look, imm, vals, looks, imms, eVar, eC, eBin, eUn, eCall, eN, eTup, nLst, nCall, aNil, aCons, eAnd, eOr, eNot, eIf, eChain, eSl, oSome, oNone, eTupRg, nLstRg, rOne, rTwo, eMt, eDict0, bVal, bCmp, bBl, bAnd, bOr, bNot, bYes, isBl, truth, Dv.isInt, setIm, setOw, lAt, lPut, eUser, nUser, uCall, apart, noAl, toSVs, toSV, putBack, bosAt, allIm, iSeq, iCall, iCallI, sFor, gSet, gTupD, gsCons, gsNil, gsCons, wipeR, okw, putB, e_lt, e_le, e_gt, e_ge, e_sub, e_addI, gNeg, gInt, List.length_cons, List.length_nil, List.map_cons, List.map_nil, List.cons_append, List.nil_append, List.getElem?_cons_zero, List.getElem?_cons_succ, List.getElem?_nil, List.replicate, List.set_cons_zero, List.set_cons_succ, List.all_cons, List.all_nil, decide_true, decide_false, Nat.sub_self, Nat.reduceAdd, Nat.reduceSub, Nat.reduceEqDiff, Nat.reduceBNe, Bool.not_true, Bool.not_false, Bool.and_true, Bool.true_and, Bool.and_self, Option.getD_some, Option.getD_none, if_true, if_false, ↓reduceIte, rr, Option.map_some, Option.map_none, e1, a1, c3, g3, f0, c2', g2, gl, gs, gso, g4]) <;> try rfl
        | some f =>
          have c3 := c3 (some f)
          simp only [rr, Option.map_some, Option.map_none] at c3
          (conv => lhs; simp only [defF, runF, entry, bos, sSeq, sNil, sIf, sSet, sOwn, sSetL, sPar, sRet, sRetL, sRetN, sExpr, M.bind, M.ret, M.opt, val, look, imm, vals, looks, imms, eVar, eC, eBin, eUn, eCall, eN, eTup, nLst, nCall, aNil, aCons, eAnd, eOr, eNot, eIf, eChain, eSl, oSome, oNone, eTupRg, nLstRg, rOne, rTwo, eMt, eDict0, bVal, bCmp, bBl, bAnd, bOr, bNot, bYes, isBl, truth, Dv.isInt, setIm, setOw, lAt, lPut, eUser, nUser, uCall, apart, noAl, toSVs, toSV, putBack, bosAt, allIm, iSeq, iCall, iCallI, sFor, gSet, gTupD, gsCons, gsNil, gsCons, wipeR, okw, putB, e_lt, e_le, e_gt, e_ge, e_sub, e_addI, gNeg, gInt, List.length_cons, List.length_nil, List.map_cons, List.map_nil, List.cons_append, List.nil_append, List.getElem?_cons_zero, List.getElem?_cons_succ, List.getElem?_nil, List.replicate, List.set_cons_zero, List.set_cons_succ, List.all_cons, List.all_nil, decide_true, decide_false, Nat.sub_self, Nat.reduceAdd, Nat.reduceSub, Nat.reduceEqDiff, Nat.reduceBNe, Bool.not_true, Bool.not_false, Bool.and_true, Bool.true_and, Bool.and_self, Option.getD_some, Option.getD_none, if_true, if_false, ↓reduceIte, rr, Option.map_some, Option.map_none, e1, a1, c3, g3, f0, c2', g2, gl, gs, gso, g4]) <;> try rfl
      · rw [decide_eq_false k1] at g2 ⊢
        have a1 := ap false
        refine ⟨.bl true, ?_⟩
        rw [Bool.false_and]
        have c2' := c2 (some (.bl true))
        simp only [rr, Option.map_some, Option.map_none] at c2'
        cases fi with
        | none =>
          have c3 := c3 none
          simp only [rr, Option.map_some, Option.map_none] at c3
          (conv => lhs; simp only [defF, runF, entry, bos, sSeq, sNil, sIf, sSet, sOwn, sSetL, sPar, sRet, sRetL, sRetN, sExpr, M.bind, M.ret, M.opt, val, look, imm, vals, looks, imms, eVar, eC, eBin, eUn, eCall, eN, eTup, nLst, nCall, aNil, aCons, eAnd, eOr, eNot, eIf, eChain, eSl, oSome, oNone, eTupRg, nLstRg, rOne, rTwo, eMt, eDict0, bVal, bCmp, bBl, bAnd, bOr, bNot, bYes, isBl, truth, Dv.isInt, setIm, setOw, lAt, lPut, eUser, nUser, uCall, apart, noAl, toSVs, toSV, putBack, bosAt, allIm, iSeq, iCall, iCallI, sFor, gSet, gTupD, gsCons, gsNil, gsCons, wipeR, okw, putB, e_lt, e_le, e_gt, e_ge, e_sub, e_addI, gNeg, gInt, List.length_cons, List.length_nil, List.map_cons, List.map_nil, List.cons_append, List.nil_append, List.getElem?_cons_zero, List.getElem?_cons_succ, List.getElem?_nil, List.replicate, List.set_cons_zero, List.set_cons_succ, List.all_cons, List.all_nil, decide_true, decide_false, Nat.sub_self, Nat.reduceAdd, Nat.reduceSub, Nat.reduceEqDiff, Nat.reduceBNe, Bool.not_true, Bool.not_false, Bool.and_true, Bool.true_and, Bool.and_self, Option.getD_some, Option.getD_none, if_true, if_false, ↓reduceIte, rr, Option.map_some, Option.map_none, e1, a1, c3, g3, f0, c2', g2]) <;> try rfl
        | some f =>
          have c3 := c3 (some f)
          simp only [rr, Option.map_some, Option.map_none] at c3
          (conv => lhs; simp only [defF, runF, entry, bos, sSeq, sNil, sIf, sSet, sOwn, sSetL, sPar, sRet, sRetL, sRetN, sExpr, M.bind, M.ret, M.opt, val, look, imm, vals, looks, imms, eVar, eC, eBin, eUn, eCall, eN, eTup, nLst, nCall, aNil, aCons, eAnd, eOr, eNot, eIf, eChain, eSl, oSome, oNone, eTupRg, nLstRg, rOne, rTwo, eMt, eDict0, bVal, bCmp, bBl, bAnd, bOr, bNot, bYes, isBl, truth, Dv.isInt, setIm, setOw, lAt, lPut, eUser, nUser, uCall, apart, noAl, toSVs, toSV, putBack, bosAt, allIm, iSeq, iCall, iCallI, sFor, gSet, gTupD, gsCons, gsNil, gsCons, wipeR, okw, putB, e_lt, e_le, e_gt, e_ge, e_sub, e_addI, gNeg, gInt, List.length_cons, List.length_nil, List.map_cons, List.map_nil, List.cons_append, List.nil_append, List.getElem?_cons_zero, List.getElem?_cons_succ, List.getElem?_nil, List.replicate, List.set_cons_zero, List.set_cons_succ, List.all_cons, List.all_nil, decide_true, decide_false, Nat.sub_self, Nat.reduceAdd, Nat.reduceSub, Nat.reduceEqDiff, Nat.reduceBNe, Bool.not_true, Bool.not_false, Bool.and_true, Bool.true_and, Bool.and_self, Option.getD_some, Option.getD_none, if_true, if_false, ↓reduceIte, rr, Option.map_some, Option.map_none, e1, a1, c3, g3, f0, c2', g2]) <;> try rfl
end K01
namespace K01
open PySem PySem.Spec PyProof.Rows L2 Dv
theorem rest_lot {n : Int} (h1 : 1 ≤ n) (a : List Int) : Lot n (rest n a) := by
  have q := picks_lot n.toNat fun i => !decide ((i : Int) ∈ a)
  exact ⟨q.1, fun x hx => by have := q.2 x hx; omega⟩
theorem right_57 {b : List D} {n : Int} {a : List Int} {o t d : Option SV} (h1 : 1 ≤ n) (h9 : n ≤ 9) : c__law_right_7 [some (.bo b), some (.im (.int n)), some (.im (.tup (iD a))), o, t, d, none, none, none, none, none] = .ok (iD (rest n a)) [some (.bo b), some (.im (.int n)), some (.im (.tup (iD a))), o, t, d, none, none, none, none, none] := by
  have r := rng1_ok (n := n) (by omega) (by omega)
  rw [range_ints] at r
  have c : c__law_right_7 [some (.bo b), some (.im (.int n)), some (.im (.tup (iD a))), o, t, d, none, none, none, none, none] = .ok (iD (((List.range n.toNat).map fun (i : Nat) => (i : Int)).filter fun i => !decide (i ∈ a))) [some (.bo b), some (.im (.int n)), some (.im (.tup (iD a))), o, t, d, none, none, none, none, none] :=
    nLc_int (fun i => !decide (i ∈ a)) (by conv => lhs; simp only [defF, runF, entry, bos, sSeq, sNil, sIf, sSet, sOwn, sSetL, sPar, sRet, sRetL, sRetN, sExpr, M.bind, M.ret, M.opt, val, look, imm, vals, looks, imms, eVar, eC, eBin, eUn, eCall, eN, eTup, nLst, nCall, aNil, aCons, eAnd, eOr, eNot, eIf, eChain, eSl, oSome, oNone, eTupRg, nLstRg, rOne, rTwo, eMt, eDict0, bVal, bCmp, bBl, bAnd, bOr, bNot, bYes, isBl, truth, Dv.isInt, setIm, setOw, lAt, lPut, eUser, nUser, uCall, apart, noAl, toSVs, toSV, putBack, bosAt, allIm, iSeq, iCall, iCallI, sFor, gSet, gTupD, gsCons, gsNil, gsCons, wipeR, okw, putB, e_lt, e_le, e_gt, e_ge, e_sub, e_addI, gNeg, gInt, List.length_cons, List.length_nil, List.map_cons, List.map_nil, List.cons_append, List.nil_append, List.getElem?_cons_zero, List.getElem?_cons_succ, List.getElem?_nil, List.replicate, List.set_cons_zero, List.set_cons_succ, List.all_cons, List.all_nil, decide_true, decide_false, Nat.sub_self, Nat.reduceAdd, Nat.reduceSub, Nat.reduceEqDiff, Nat.reduceBNe, Bool.not_true, Bool.not_false, Bool.and_true, Bool.true_and, Bool.and_self, Option.getD_some, Option.getD_none, if_true, if_false, ↓reduceIte, r]) rfl (by show 10 < 11; decide) (by simp; omega) fun i hi => by
      have g := gNotInT i a
      constructor
      · (conv => lhs; simp only [defF, runF, entry, bos, sSeq, sNil, sIf, sSet, sOwn, sSetL, sPar, sRet, sRetL, sRetN, sExpr, M.bind, M.ret, M.opt, val, look, imm, vals, looks, imms, eVar, eC, eBin, eUn, eCall, eN, eTup, nLst, nCall, aNil, aCons, eAnd, eOr, eNot, eIf, eChain, eSl, oSome, oNone, eTupRg, nLstRg, rOne, rTwo, eMt, eDict0, bVal, bCmp, bBl, bAnd, bOr, bNot, bYes, isBl, truth, Dv.isInt, setIm, setOw, lAt, lPut, eUser, nUser, uCall, apart, noAl, toSVs, toSV, putBack, bosAt, allIm, iSeq, iCall, iCallI, sFor, gSet, gTupD, gsCons, gsNil, gsCons, wipeR, okw, putB, e_lt, e_le, e_gt, e_ge, e_sub, e_addI, gNeg, gInt, List.length_cons, List.length_nil, List.map_cons, List.map_nil, List.cons_append, List.nil_append, List.getElem?_cons_zero, List.getElem?_cons_succ, List.getElem?_nil, List.replicate, List.set_cons_zero, List.set_cons_succ, List.all_cons, List.all_nil, decide_true, decide_false, Nat.sub_self, Nat.reduceAdd, Nat.reduceSub, Nat.reduceEqDiff, Nat.reduceBNe, Bool.not_true, Bool.not_false, Bool.and_true, Bool.true_and, Bool.and_self, Option.getD_some, Option.getD_none, if_true, if_false, ↓reduceIte, g]) <;> try rfl
      · (conv => lhs; simp only [defF, runF, entry, bos, sSeq, sNil, sIf, sSet, sOwn, sSetL, sPar, sRet, sRetL, sRetN, sExpr, M.bind, M.ret, M.opt, val, look, imm, vals, looks, imms, eVar, eC, eBin, eUn, eCall, eN, eTup, nLst, nCall, aNil, aCons, eAnd, eOr, eNot, eIf, eChain, eSl, oSome, oNone, eTupRg, nLstRg, rOne, rTwo, eMt, eDict0, bVal, bCmp, bBl, bAnd, bOr, bNot, bYes, isBl, truth, Dv.isInt, setIm, setOw, lAt, lPut, eUser, nUser, uCall, apart, noAl, toSVs, toSV, putBack, bosAt, allIm, iSeq, iCall, iCallI, sFor, gSet, gTupD, gsCons, gsNil, gsCons, wipeR, okw, putB, e_lt, e_le, e_gt, e_ge, e_sub, e_addI, gNeg, gInt, List.length_cons, List.length_nil, List.map_cons, List.map_nil, List.cons_append, List.nil_append, List.getElem?_cons_zero, List.getElem?_cons_succ, List.getElem?_nil, List.replicate, List.set_cons_zero, List.set_cons_succ, List.all_cons, List.all_nil, decide_true, decide_false, Nat.sub_self, Nat.reduceAdd, Nat.reduceSub, Nat.reduceEqDiff, Nat.reduceBNe, Bool.not_true, Bool.not_false, Bool.and_true, Bool.true_and, Bool.and_self, Option.getD_some, Option.getD_none, if_true, if_false, ↓reduceIte]) <;> try rfl
  rw [picks_filter] at c
  exact c
theorem right_5_eq : c__law_right_5 = c__law_right_7 := rfl
theorem right_6 {b : List D} {n : Int} {a c : List Int} {t : Option SV} (hl : a.length ≤ 1000000) : c__law_right_6 [some (.bo b), some (.im (.int n)), some (.im (.tup (iD a))), some (.im (.tup (iD c))), t, none, none, none, none, none, none] = .ok (iD (meet a c)) [some (.bo b), some (.im (.int n)), some (.im (.tup (iD a))), some (.im (.tup (iD c))), t, none, none, none, none, none, none] :=
  nLc_int (fun i => decide (i ∈ c)) (by conv => lhs; simp only [defF, runF, entry, bos, sSeq, sNil, sIf, sSet, sOwn, sSetL, sPar, sRet, sRetL, sRetN, sExpr, M.bind, M.ret, M.opt, val, look, imm, vals, looks, imms, eVar, eC, eBin, eUn, eCall, eN, eTup, nLst, nCall, aNil, aCons, eAnd, eOr, eNot, eIf, eChain, eSl, oSome, oNone, eTupRg, nLstRg, rOne, rTwo, eMt, eDict0, bVal, bCmp, bBl, bAnd, bOr, bNot, bYes, isBl, truth, Dv.isInt, setIm, setOw, lAt, lPut, eUser, nUser, uCall, apart, noAl, toSVs, toSV, putBack, bosAt, allIm, iSeq, iCall, iCallI, sFor, gSet, gTupD, gsCons, gsNil, gsCons, wipeR, okw, putB, e_lt, e_le, e_gt, e_ge, e_sub, e_addI, gNeg, gInt, List.length_cons, List.length_nil, List.map_cons, List.map_nil, List.cons_append, List.nil_append, List.getElem?_cons_zero, List.getElem?_cons_succ, List.getElem?_nil, List.replicate, List.set_cons_zero, List.set_cons_succ, List.all_cons, List.all_nil, decide_true, decide_false, Nat.sub_self, Nat.reduceAdd, Nat.reduceSub, Nat.reduceEqDiff, Nat.reduceBNe, Bool.not_true, Bool.not_false, Bool.and_true, Bool.true_and, Bool.and_self, Option.getD_some, Option.getD_none, if_true, if_false, ↓reduceIte]) rfl (by show 10 < 11; decide) hl fun i hi => by
    have g := gInT i c
    constructor
    · (conv => lhs; simp only [defF, runF, entry, bos, sSeq, sNil, sIf, sSet, sOwn, sSetL, sPar, sRet, sRetL, sRetN, sExpr, M.bind, M.ret, M.opt, val, look, imm, vals, looks, imms, eVar, eC, eBin, eUn, eCall, eN, eTup, nLst, nCall, aNil, aCons, eAnd, eOr, eNot, eIf, eChain, eSl, oSome, oNone, eTupRg, nLstRg, rOne, rTwo, eMt, eDict0, bVal, bCmp, bBl, bAnd, bOr, bNot, bYes, isBl, truth, Dv.isInt, setIm, setOw, lAt, lPut, eUser, nUser, uCall, apart, noAl, toSVs, toSV, putBack, bosAt, allIm, iSeq, iCall, iCallI, sFor, gSet, gTupD, gsCons, gsNil, gsCons, wipeR, okw, putB, e_lt, e_le, e_gt, e_ge, e_sub, e_addI, gNeg, gInt, List.length_cons, List.length_nil, List.map_cons, List.map_nil, List.cons_append, List.nil_append, List.getElem?_cons_zero, List.getElem?_cons_succ, List.getElem?_nil, List.replicate, List.set_cons_zero, List.set_cons_succ, List.all_cons, List.all_nil, decide_true, decide_false, Nat.sub_self, Nat.reduceAdd, Nat.reduceSub, Nat.reduceEqDiff, Nat.reduceBNe, Bool.not_true, Bool.not_false, Bool.and_true, Bool.true_and, Bool.and_self, Option.getD_some, Option.getD_none, if_true, if_false, ↓reduceIte, g]) <;> try rfl
    · (conv => lhs; simp only [defF, runF, entry, bos, sSeq, sNil, sIf, sSet, sOwn, sSetL, sPar, sRet, sRetL, sRetN, sExpr, M.bind, M.ret, M.opt, val, look, imm, vals, looks, imms, eVar, eC, eBin, eUn, eCall, eN, eTup, nLst, nCall, aNil, aCons, eAnd, eOr, eNot, eIf, eChain, eSl, oSome, oNone, eTupRg, nLstRg, rOne, rTwo, eMt, eDict0, bVal, bCmp, bBl, bAnd, bOr, bNot, bYes, isBl, truth, Dv.isInt, setIm, setOw, lAt, lPut, eUser, nUser, uCall, apart, noAl, toSVs, toSV, putBack, bosAt, allIm, iSeq, iCall, iCallI, sFor, gSet, gTupD, gsCons, gsNil, gsCons, wipeR, okw, putB, e_lt, e_le, e_gt, e_ge, e_sub, e_addI, gNeg, gInt, List.length_cons, List.length_nil, List.map_cons, List.map_nil, List.cons_append, List.nil_append, List.getElem?_cons_zero, List.getElem?_cons_succ, List.getElem?_nil, List.replicate, List.set_cons_zero, List.set_cons_succ, List.all_cons, List.all_nil, decide_true, decide_false, Nat.sub_self, Nat.reduceAdd, Nat.reduceSub, Nat.reduceEqDiff, Nat.reduceBNe, Bool.not_true, Bool.not_false, Bool.and_true, Bool.true_and, Bool.and_self, Option.getD_some, Option.getD_none, if_true, if_false, ↓reduceIte]) <;> try rfl
theorem right_1 {b o t e u v ds : List D} {n : Int} {va fi : Option D} (h1 : 1 ≤ n) (h9 : n ≤ 9) (hv : ∀ d ∈ v, Near d) (hl : v.length ≤ 1000000) (hb : okw [8] (rr b o t e u v n ds va fi) = true) : c__law_right_1 (rr b o t e u v n ds va fi) = .ok (v.map fun d => .bl (lotB n d)) (rr b o t e u v n ds va fi) := by
  have q := nLc_im (v := 8) (fi := iSeq (eVar 6)) (gt := bYes) (fe := eUser F_is_lot (aCons (eVar 1) (aCons (eVar 8) aNil))) (ρ := rr b o t e u v n ds va fi) (xs := v) (fun _ => true) (fun d => .bl (lotB n d)) (by conv => lhs; simp only [defF, runF, entry, bos, sSeq, sNil, sIf, sSet, sOwn, sSetL, sPar, sRet, sRetL, sRetN, sExpr, M.bind, M.ret, M.opt, val, look, imm, vals, looks, imms, eVar, eC, eBin, eUn, eCall, eN, eTup, nLst, nCall, aNil, aCons, eAnd, eOr, eNot, eIf, eChain, eSl, oSome, oNone, eTupRg, nLstRg, rOne, rTwo, eMt, eDict0, bVal, bCmp, bBl, bAnd, bOr, bNot, bYes, isBl, truth, Dv.isInt, setIm, setOw, lAt, lPut, eUser, nUser, uCall, apart, noAl, toSVs, toSV, putBack, bosAt, allIm, iSeq, iCall, iCallI, sFor, gSet, gTupD, gsCons, gsNil, gsCons, wipeR, okw, putB, e_lt, e_le, e_gt, e_ge, e_sub, e_addI, gNeg, gInt, List.length_cons, List.length_nil, List.map_cons, List.map_nil, List.cons_append, List.nil_append, List.getElem?_cons_zero, List.getElem?_cons_succ, List.getElem?_nil, List.replicate, List.set_cons_zero, List.set_cons_succ, List.all_cons, List.all_nil, decide_true, decide_false, Nat.sub_self, Nat.reduceAdd, Nat.reduceSub, Nat.reduceEqDiff, Nat.reduceBNe, Bool.not_true, Bool.not_false, Bool.and_true, Bool.true_and, Bool.and_self, Option.getD_some, Option.getD_none, if_true, if_false, ↓reduceIte, rr]) hb (by show 8 < 11; decide) hl (fun d hd => by
    have w := is_lot_ok (n := n) h1 h9 (hv d hd).1 fun xs e => ⟨fun x hx => (((hv d hd).2 xs e).1 x hx).1, by have := ((hv d hd).2 xs e).2; omega⟩
    refine ⟨rfl, fun _ => ?_⟩
    (conv => lhs; simp only [defF, runF, entry, bos, sSeq, sNil, sIf, sSet, sOwn, sSetL, sPar, sRet, sRetL, sRetN, sExpr, M.bind, M.ret, M.opt, val, look, imm, vals, looks, imms, eVar, eC, eBin, eUn, eCall, eN, eTup, nLst, nCall, aNil, aCons, eAnd, eOr, eNot, eIf, eChain, eSl, oSome, oNone, eTupRg, nLstRg, rOne, rTwo, eMt, eDict0, bVal, bCmp, bBl, bAnd, bOr, bNot, bYes, isBl, truth, Dv.isInt, setIm, setOw, lAt, lPut, eUser, nUser, uCall, apart, noAl, toSVs, toSV, putBack, bosAt, allIm, iSeq, iCall, iCallI, sFor, gSet, gTupD, gsCons, gsNil, gsCons, wipeR, okw, putB, e_lt, e_le, e_gt, e_ge, e_sub, e_addI, gNeg, gInt, List.length_cons, List.length_nil, List.map_cons, List.map_nil, List.cons_append, List.nil_append, List.getElem?_cons_zero, List.getElem?_cons_succ, List.getElem?_nil, List.replicate, List.set_cons_zero, List.set_cons_succ, List.all_cons, List.all_nil, decide_true, decide_false, Nat.sub_self, Nat.reduceAdd, Nat.reduceSub, Nat.reduceEqDiff, Nat.reduceBNe, Bool.not_true, Bool.not_false, Bool.and_true, Bool.true_and, Bool.and_self, Option.getD_some, Option.getD_none, if_true, if_false, ↓reduceIte, rr, w]) <;> try rfl)
  rw [List.filter_eq_self.mpr (by simp)] at q
  exact q
theorem near_tupI {l : List Int} (h : l.length < 64) : Near (.tup (iD l)) := ⟨rfl, fun xs e => by
  cases e
  exact ⟨fun x hx => by obtain ⟨i, _, rfl⟩ := List.mem_map.mp hx; exact ⟨rfl, pl_int _ _⟩, by rw [List.length_map]; exact h⟩⟩
theorem near_tup2 {l : List Int} {d : D} (h : l.length < 60) (h1 : plain d = true) (h2 : pl 48 d = true) : Near (.tup (iD l ++ [d])) := ⟨rfl, fun xs e => by
  cases e
  refine ⟨fun x hx => ?_, by rw [List.length_append, List.length_map, List.length_singleton]; omega⟩
  rcases List.mem_append.mp hx with hx | hx
  · obtain ⟨i, _, rfl⟩ := List.mem_map.mp hx; exact ⟨rfl, pl_int _ _⟩
  · rw [List.mem_singleton.mp hx]; exact ⟨h1, h2⟩⟩
theorem near_one {d : D} (h1 : plain d = true) (h2 : pl 48 d = true) : Near (.tup [d]) := near_tup2 (l := []) (by decide) h1 h2
theorem near_no {d : D} (h1 : plain d = true) (h2 : isT d = false) : Near d := ⟨h1, fun xs e => by rw [e] at h2; cases h2⟩
theorem loop_ok {b o t e u v : List D} {n : Int} (hv : ∀ d ∈ v, Near d) (hl : v.length ≤ 900) : ∃ va fi, l__law_right_4 (rr b o t e u v n [] none none) = .ok .nx (rr b o t e u v n (v.map fun d => .bl (lotB n d)) va fi) := by
  obtain ⟨ρ', e1, va, fi, e2⟩ := for_idx (gg := gSet 8) (f := (sSeq (sSet 9 (eAnd (eUn (gIsi "tuple") (eVar 8)) (eBin gEq (eN c__law_right_3) (eN (nLst aNil)))))
    (sExpr (eMt 7 cAppend (aCons (eAnd (eVar 9) (eAnd (eBin gEq (eN c__law_right_2) (eN (nLst aNil))) (eBin gEq (eN (nCall gList (aCons (eVar 8) aNil))) (eN (nCall gSortedS (aCons (eCall gSetI (aCons (eVar 8) aNil)) aNil)))))) aNil))))) (N := v.length)
    (fun pre ρ => ∃ va fi, ρ = rr b o t e u v n (pre.map fun d => match d with
      | .im d => .bl (lotB n d)
      | .tw _ => .non) va fi) (v.map .im) [] (rr b o t e u v n [] none none) (by simp) ⟨none, none, rfl⟩ (by
    rintro pre d ρ hd hp ⟨va, fi, rfl⟩
    obtain ⟨x, hx, rfl⟩ := List.mem_map.mp hd
    obtain ⟨fi', tk⟩ := turn_ok (b := b) (o := o) (t := t) (e := e) (u := u) (v := v) (n := n) (ds := pre.map fun d => match d with
      | .im d => .bl (lotB n d)
      | .tw _ => .non) (va := va) (fi := fi) (hv x hx) (by rw [List.length_map]; omega)
    refine ⟨rr b o t e u v n (pre.map fun d => match d with
      | .im d => .bl (lotB n d)
      | .tw _ => .non) (some x) fi, .nx, _, ?_, tk, .inl rfl, some x, some fi', by rw [List.map_append]; rfl⟩
    cases va <;> rfl)
  rw [List.nil_append, List.map_map] at e2
  refine ⟨va, fi, ?_⟩
  have e0 : iSeq (eVar 6) (rr b o t e u v n [] none none) = .ok (v.map .im) (rr b o t e u v n [] none none) := by conv => lhs; simp only [defF, runF, entry, bos, sSeq, sNil, sIf, sSet, sOwn, sSetL, sPar, sRet, sRetL, sRetN, sExpr, M.bind, M.ret, M.opt, val, look, imm, vals, looks, imms, eVar, eC, eBin, eUn, eCall, eN, eTup, nLst, nCall, aNil, aCons, eAnd, eOr, eNot, eIf, eChain, eSl, oSome, oNone, eTupRg, nLstRg, rOne, rTwo, eMt, eDict0, bVal, bCmp, bBl, bAnd, bOr, bNot, bYes, isBl, truth, Dv.isInt, setIm, setOw, lAt, lPut, eUser, nUser, uCall, apart, noAl, toSVs, toSV, putBack, bosAt, allIm, iSeq, iCall, iCallI, sFor, gSet, gTupD, gsCons, gsNil, gsCons, wipeR, okw, putB, e_lt, e_le, e_gt, e_ge, e_sub, e_addI, gNeg, gInt, List.length_cons, List.length_nil, List.map_cons, List.map_nil, List.cons_append, List.nil_append, List.getElem?_cons_zero, List.getElem?_cons_succ, List.getElem?_nil, List.replicate, List.set_cons_zero, List.set_cons_succ, List.all_cons, List.all_nil, decide_true, decide_false, Nat.sub_self, Nat.reduceAdd, Nat.reduceSub, Nat.reduceEqDiff, Nat.reduceBNe, Bool.not_true, Bool.not_false, Bool.and_true, Bool.true_and, Bool.and_self, Option.getD_some, Option.getD_none, if_true, if_false, ↓reduceIte, rr]
  rw [e2] at e1
  exact sFor_ok e0 e1
end K01
namespace K01
open PySem PySem.Spec PyProof.Rows L2 Dv
theorem sub_lot {n : Int} {a l : List Int} (ha : Lot n a) (h : l.Sublist a) : Lot n l := ⟨ha.1.sublist h, fun x hx => ha.2 x (h.subset hx)⟩
theorem sort_lot {n : Int} {a b : List Int} (ha : Lot n a) (hb : Lot n b) : Lot n (sortU (a ++ b)) := ⟨sortU_sorted _, fun x hx => by
  rw [mem_sortU, List.mem_append] at hx
  rcases hx with hx | hx
  · exact ha.2 x hx
  · exact hb.2 x hx⟩
theorem std_fine (a b : List Int) : pl 49 (.str (std a b)) = true ∧ cost (.str (std a b)) ≤ 100 := by
  unfold std
  by_cases e1 : a = b
  · rw [if_pos e1]; constructor <;> decide +kernel
  · rw [if_neg e1]
    by_cases e2 : meet a b = []
    · rw [if_pos e2]; constructor <;> decide +kernel
    · rw [if_neg e2]
      by_cases e3 : meet a b = a
      · rw [if_pos e3]; constructor <;> decide +kernel
      · rw [if_neg e3]
        by_cases e4 : meet a b = b
        · rw [if_pos e4]; constructor <;> decide +kernel
        · rw [if_neg e4]; constructor <;> decide +kernel
theorem lot_fine {n : Int} {l : List Int} (h : Lot n l) (h9 : n ≤ 9) : pl 49 (.tup (iD l)) = true ∧ cost (.tup (iD l)) ≤ 300 := by
  refine ⟨pl_tupI 48 l, ?_⟩
  have := Lot_len h h9
  rw [cost, costs_ints l fun i hi => by have := h.2 i hi; omega]
  omega
def told (n : Int) (a b : List Int) : List D := [.str (std a b), .str (std b a), .tup (iD (sortU (a ++ b))), .tup (iD (meet a b)), .tup (iD (rest n a))]
theorem told_repr {n : Int} {a b : List Int} (h1 : 1 ≤ n) (h9 : n ≤ 9) (ha : Lot n a) (hb : Lot n b) : gRepr [.lst (told n a b)] = some (.str (shownD (.lst (told n a b)))) := by
  have f1 := std_fine a b
  have f2 := std_fine b a
  have f3 := lot_fine (sort_lot ha hb) h9
  have f4 := lot_fine (ha.mt b) h9
  have f5 := lot_fine (rest_lot h1 a) h9
  refine repr_ok ?_ ?_
  · rw [pl.eq_def]
    show pls 49 (told n a b) = true
    refine pls_of fun x hx => ?_
    simp only [told, List.mem_cons, List.not_mem_nil, or_false] at hx
    rcases hx with rfl | rfl | rfl | rfl | rfl
    · exact f1.1
    · exact f2.1
    · exact f3.1
    · exact f4.1
    · exact f5.1
  · rw [cost]
    simp only [told, costs]
    have := f1.2; have := f2.2; have := f3.2; have := f4.2; have := f5.2
    omega
def nears (n : Int) (a : List Int) : List D := [.tup (iD a), .lst (iD a), .tup (iD a).reverse, .tup (iD a ++ Dv.cutD (iD a) (some (-1)) none), .tup (iD a ++ [.int n]), .tup (D.int (-1) :: iD a), .tup (iD a ++ [.bl true]), .non, .int 0, .str "0", .dct [] [], .tup (iD a ++ [.str "0"]), .tup [.non], .tup [.int 1000000000000000000000000000000000000000000000000000000000000]]
theorem cut_ints (a : List Int) : ∃ l, Dv.cutD (iD a) (some (-1)) none = iD l ∧ l.length ≤ a.length := by
  unfold Dv.cutD
  refine ⟨(a.drop (HT.sIx (iD a).length 0 (some (-1)))).take (HT.sIx (iD a).length (iD a).length none - HT.sIx (iD a).length 0 (some (-1))), ?_, ?_⟩
  · show _ = List.map D.int _
    rw [List.map_take, List.map_drop]
  · rw [List.length_take, List.length_drop]; omega
theorem nears_ok {n : Int} {a : List Int} (hl : a.length ≤ 9) : ∀ d ∈ nears n a, Near d := by
  intro d hd
  simp only [nears, List.mem_cons, List.not_mem_nil, or_false] at hd
  rcases hd with rfl | rfl | rfl | rfl | rfl | rfl | rfl | rfl | rfl | rfl | rfl | rfl | rfl | rfl
  · exact near_tupI (by omega)
  · exact near_no rfl rfl
  · rw [← List.map_reverse]; exact near_tupI (by rw [List.length_reverse]; omega)
  · obtain ⟨l, e, h⟩ := cut_ints a
    rw [e, ← List.map_append]; exact near_tupI (by rw [List.length_append]; omega)
  · exact near_tup2 (by omega) rfl (pl_int _ _)
  · exact near_tupI (l := -1 :: a) (by rw [List.length_cons]; omega)
  · exact near_tup2 (by omega) rfl (pl_bl _ _)
  · exact near_no rfl rfl
  · exact near_no rfl rfl
  · exact near_no rfl rfl
  · exact near_no rfl rfl
  · exact near_tup2 (by omega) rfl (by decide +kernel)
  · exact near_one rfl (by rw [pl.eq_def])
  · exact near_one rfl (pl_int _ _)
theorem rg_ok {n : Int} (h1 : 1 ≤ n) (h9 : n ≤ 9) : ∃ l, rgC (0, n) = some (iD l) ∧ Lot n l := by
  refine ⟨(List.range n.toNat).map fun (i : Nat) => (i : Int), ?_, ?_⟩
  · have e : rgOk 0 n = true := by
      unfold rgOk rangeOk
      simp only [Bool.and_eq_true, decide_eq_true_iff]
      omega
    unfold rgC
    simp only [e]
    unfold rgD
    rw [Int.sub_zero]
    show _ = some (((List.range n.toNat).map fun (i : Nat) => (i : Int)).map D.int)
    rw [List.map_map]
    congr 1
    apply List.map_congr_left
    intro i _
    show D.int (0 + (i : Int)) = D.int (i : Int)
    rw [Int.zero_add]
  · have full := picks_lot n.toNat fun _ => true
    have ef : picks n.toNat (fun _ => true) = (List.range n.toNat).map fun (i : Nat) => (i : Int) := by
      unfold picks
      rw [List.filter_eq_self.mpr (by simp)]
    rw [ef] at full
    exact ⟨full.1, fun x hx => by have := full.2 x hx; omega⟩
theorem gAddT {xs ys : List D} (h : xs.length + ys.length ≤ 1000000) : gAdd (.tup xs) (.tup ys) = some (.tup (xs ++ ys)) := by
  show (if xs.length + ys.length ≤ 1000000 then _ else _) = _
  rw [if_pos h]
theorem gAddL {xs ys : List D} (h : xs.length + ys.length ≤ 1000000) : gAdd (.lst xs) (.lst ys) = some (.lst (xs ++ ys)) := by
  show (if xs.length + ys.length ≤ 1000000 then _ else _) = _
  rw [if_pos h]
theorem right_ok {xs : List D} (hb : BagOk xs) : ∃ ys, F__law_right [.bo xs] = some (.im (.bl true), [some ys]) ∧ BagOk ys := by
  obtain ⟨d1, b1, m1, e1, hb1⟩ := one_of_ok (items := [.int 1, .int 2, .int 4, .int 7, .int 9]) hb (by simp) (by simp)
  have hn : ∃ n : Int, d1 = .int n ∧ 1 ≤ n ∧ n ≤ 9 := by
    simp only [List.mem_cons, List.not_mem_nil, or_false] at m1
    rcases m1 with rfl | rfl | rfl | rfl | rfl
    · exact ⟨1, rfl, by decide, by decide⟩
    · exact ⟨2, rfl, by decide, by decide⟩
    · exact ⟨4, rfl, by decide, by decide⟩
    · exact ⟨7, rfl, by decide, by decide⟩
    · exact ⟨9, rfl, by decide, by decide⟩
  obtain ⟨n, rfl, h1, h9⟩ := hn
  obtain ⟨a, b2, e2, ha, hb2⟩ := lot_ok (n := n) hb1 h1 h9
  obtain ⟨a', b3, e3, ha', hb3⟩ := lot_ok (n := n) hb2 h1 h9
  obtain ⟨rl, er, hr⟩ := rg_ok h1 h9
  have al := Lot_len ha h9
  have cu : gSl (.tup (iD a)) (some 1) none = some (.tup (iD (a.drop 1))) := by
    show some (D.tup (Dv.cutD (iD a) (some 1) none)) = _
    rw [cut1]
    show some (D.tup ((a.map D.int).drop 1)) = _
    rw [← List.map_drop]
  obtain ⟨d2, b4, m2, e4, hb4⟩ := one_of_ok (items := [.tup (iD a'), .tup (iD (a.drop 1)), .tup (iD a), .tup (iD rl), .tup (iD (rest n a))]) hb3 (by simp) (by simp)
  have hc : ∃ c, d2 = .tup (iD c) ∧ Lot n c := by
    simp only [List.mem_cons, List.not_mem_nil, or_false] at m2
    rcases m2 with rfl | rfl | rfl | rfl | rfl
    · exact ⟨_, rfl, ha'⟩
    · exact ⟨_, rfl, sub_lot ha (List.drop_sublist 1 a)⟩
    · exact ⟨_, rfl, ha⟩
    · exact ⟨_, rfl, hr⟩
    · exact ⟨_, rfl, rest_lot h1 a⟩
  obtain ⟨c, rfl, hc⟩ := hc
  have cl := Lot_len hc h9
  have f5 : few [D.int 1, .int 2, .int 4, .int 7, .int 9] = some [.int 1, .int 2, .int 4, .int 7, .int 9] := rfl
  have f5' : ∀ p q r s t : D, few [p, q, r, s, t] = some [p, q, r, s, t] := fun _ _ _ _ _ => rfl
  have f4 : ∀ p q r s : D, few [p, q, r, s] = some [p, q, r, s] := fun _ _ _ _ => rfl
  have f1 : ∀ p : D, few [p] = some [p] := fun _ => rfl
  have f0 : few [] = some [] := rfl
  have f14 : ∀ p q r s t p' q' r' s' t' p'' q'' r'' s'' : D, few [p, q, r, s, t, p', q', r', s', t', p'', q'', r'', s''] = some [p, q, r, s, t, p', q', r', s', t', p'', q'', r'', s''] := fun _ _ _ _ _ _ _ _ _ _ _ _ _ _ => rfl
  have c7 := right_57 (b := b3) (n := n) (a := a) (o := none) (t := none) (d := none) h1 h9
  have c6 := right_6 (b := b4) (n := n) (a := a) (c := c) (t := some (.im (.lst (told n a c)))) (by omega)
  have c5 := right_57 (b := b4) (n := n) (a := a) (o := some (.im (.tup (iD c)))) (t := some (.im (.lst (told n a c)))) (d := some (.im (.lst [.str (std a c), .str (std c a), .tup (iD (sortU (a ++ c))), .tup (iD (meet a c))]))) h1 h9
  rw [← right_5_eq] at c5
  have s1 := standing_ok h1 h9 ha hc
  have s2 := standing_ok h1 h9 hc ha
  have s3 := together_ok h1 h9 ha hc
  have s4 := common_ok h1 h9 ha hc
  have s5 := left_out_ok h1 h9 ha
  have w1 := word_ok h9 ha hc
  have w2 := word_ok h9 hc ha
  have gl : ∀ l : List Int, gTuple [.lst (iD l)] = some (.tup (iD l)) := fun l => rfl
  have ad : gAdd (.tup (iD a)) (.tup (iD c)) = some (.tup (iD (a ++ c))) := by
    rw [gAddT (by rw [List.length_map, List.length_map]; omega), ← List.map_append]
  have gs : gSetI [.tup (iD (a ++ c))] = some (.set (iD (sortU (a ++ c)))) := by
    unfold gSetI
    simp only [asInts_map]
    rw [if_pos (by rw [List.length_append]; omega)]
  have gso : gSortedS [.set (iD (sortU (a ++ c)))] = some (iD (sortU (a ++ c))) := by
    show (if (iD (sortU (a ++ c))).length < 64 then some (iD (sortU (a ++ c))) else none) = _
    rw [if_pos (by have := sortU_len (a ++ c); rw [List.length_append] at this; rw [List.length_map]; omega)]
  have ad2 : gAdd (.lst [.str (std a c), .str (std c a), .tup (iD (sortU (a ++ c))), .tup (iD (meet a c))]) (.lst [.tup (iD (rest n a))]) = some (.lst (told n a c)) := gAddL (by simp)
  have rp := told_repr h1 h9 ha hc
  have ns := ne_self (shownD (.lst (told n a c)))
  have g1 : gList [.tup (iD a)] = some (iD a) := rfl
  have g2 : gRev (.tup (iD a)) = some (.tup (iD a).reverse) := rfl
  have g3 : gSl (.tup (iD a)) (some (-1)) none = some (.tup (Dv.cutD (iD a) (some (-1)) none)) := rfl
  have lcut : (Dv.cutD (iD a) (some (-1)) none).length ≤ 9 := by
    obtain ⟨l, e, h⟩ := cut_ints a
    rw [e, List.length_map]; omega
  have q1 : gAdd (.tup (iD a)) (.tup (Dv.cutD (iD a) (some (-1)) none)) = some (.tup (iD a ++ Dv.cutD (iD a) (some (-1)) none)) := gAddT (by rw [List.length_map]; omega)
  have q2 : ∀ x : D, gAdd (.tup (iD a)) (.tup [x]) = some (.tup (iD a ++ [x])) := fun x => gAddT (by rw [List.length_map, List.length_singleton]; omega)
  have q3 : gAdd (.tup [.int (-1)]) (.tup (iD a)) = some (.tup (D.int (-1) :: iD a)) := gAddT (by rw [List.length_map, List.length_singleton]; omega)
  have p60 : gPow (.int 10) (.int 60) = some (.int 1000000000000000000000000000000000000000000000000000000000000) := by kernel_rfl
  obtain ⟨va, fi, lo⟩ := loop_ok (b := b4) (o := iD a) (t := iD c) (e := told n a c) (u := [.str (std a c), .str (std c a), .tup (iD (sortU (a ++ c))), .tup (iD (meet a c))]) (v := nears n a) (n := n) (nears_ok al) (by simp [nears])
  have r1 := right_1 (b := b4) (o := iD a) (t := iD c) (e := told n a c) (u := [.str (std a c), .str (std c a), .tup (iD (sortU (a ++ c))), .tup (iD (meet a c))]) (v := nears n a) (n := n) (ds := (nears n a).map fun d => .bl (lotB n d)) (va := va) (fi := fi) h1 h9 (nears_ok al) (by simp [nears]) (by cases va <;> rfl)
  have rp2 : gRepr [.lst ((nears n a).map fun d => .bl (lotB n d))] = some (.str (shownD (.lst ((nears n a).map fun d => .bl (lotB n d))))) := by
    obtain ⟨k1, k2⟩ := bls_fine (lotB n) (nears n a)
    refine repr_ok ?_ ?_
    · rw [pl.eq_def]; exact k1
    · rw [cost, k2]; simp [nears]
  have es := eq_self_ (shownD (.lst ((nears n a).map fun d => .bl (lotB n d))))
  generalize hsh : shownD (.lst ((nears n a).map fun d => .bl (lotB n d))) = sh at rp2 es
  generalize hsh2 : shownD (.lst (told n a c)) = sh2 at rp ns
  have etold : [D.str (std a c), .str (std c a), .tup (iD (sortU (a ++ c))), .tup (iD (meet a c)), .tup (iD (rest n a))] = told n a c := rfl
  have enear : [D.tup (iD a), .lst (iD a), .tup (iD a).reverse, .tup (iD a ++ Dv.cutD (iD a) (some (-1)) none), .tup (iD a ++ [.int n]), .tup (D.int (-1) :: iD a), .tup (iD a ++ [.bl true]), .non, .int 0, .str "0", .dct [] [], .tup (iD a ++ [.str "0"]), .tup [.non], .tup [.int 1000000000000000000000000000000000000000000000000000000000000]] = nears n a := rfl
  have fto : few (told n a c) = some (told n a c) := rfl
  have fne : few (nears n a) = some (nears n a) := rfl
  generalize hto : told n a c = to at *
  generalize hne : nears n a = ne at *
  simp only [rr, Option.map_none] at lo
  simp only [rr] at r1
  have bz : bos [va.map SV.im, fi.map SV.im, none] = [] := by cases va <;> cases fi <;> rfl
  refine ⟨b4, ?_, hb4⟩
  conv => lhs; simp only [defF, runF, entry, bos, sSeq, sNil, sIf, sSet, sOwn, sSetL, sPar, sRet, sRetL, sRetN, sExpr, M.bind, M.ret, M.opt, val, look, imm, vals, looks, imms, eVar, eC, eBin, eUn, eCall, eN, eTup, nLst, nCall, aNil, aCons, eAnd, eOr, eNot, eIf, eChain, eSl, oSome, oNone, eTupRg, nLstRg, rOne, rTwo, eMt, eDict0, bVal, bCmp, bBl, bAnd, bOr, bNot, bYes, isBl, truth, Dv.isInt, setIm, setOw, lAt, lPut, eUser, nUser, uCall, apart, noAl, toSVs, toSV, putBack, bosAt, allIm, iSeq, iCall, iCallI, sFor, gSet, gTupD, gsCons, gsNil, gsCons, wipeR, okw, putB, e_lt, e_le, e_gt, e_ge, e_sub, e_addI, gNeg, gInt, List.length_cons, List.length_nil, List.map_cons, List.map_nil, List.cons_append, List.nil_append, List.getElem?_cons_zero, List.getElem?_cons_succ, List.getElem?_nil, List.replicate, List.set_cons_zero, List.set_cons_succ, List.all_cons, List.all_nil, decide_true, decide_false, Nat.sub_self, Nat.reduceAdd, Nat.reduceSub, Nat.reduceEqDiff, Nat.reduceBNe, Bool.not_true, Bool.not_false, Bool.and_true, Bool.true_and, Bool.and_self, Option.getD_some, Option.getD_none, if_true, if_false, ↓reduceIte, bz, F__law_right, s__law_right, e1, e2, e3, e4, er, cu, f5, f5', f4, f1, f0, f14, c7, c6, c5, s1, s2, s3, s4, s5, w1, w2, gl, ad, gs, gso, ad2, rp, ns, g1, g2, g3, q1, q2, q3, p60, etold, enear, fto, fne, lo, r1, rp2, es]
theorem law_1 {b : List D} {s at_ : SV} (hb : BagOk b) : ∃ b', c_law_1 [some s, some at_, some (.ow b), none, none] = .ok [] [some s, some at_, some (.ow b'), none, none] ∧ BagOk b' := by
  have r := rng1_ok (n := 8) (by decide) (by decide)
  obtain ⟨sel, zs, ρ', e1, ⟨ys, e2, hy⟩, e3, e4⟩ := nLc_inv (vs := [4]) (fi := iCall rng1 (aCons (eC (.int 8)) aNil)) (g := gSet 4) (gt := bNot (bVal (eUser F__law_right (aCons (eVar 2) aNil)))) (fe := eC (.int 1))
    (ρ := [some s, some at_, some (.ow b), none, none]) (ds := ((List.range (8 : Int).toNat).map fun (i : Nat) => D.int (i : Int)).map .im)
    (fun ρ => ∃ ys, ρ = [some s, some at_, some (.ow ys), none, none] ∧ BagOk ys) (fun d x => False) (by conv => lhs; simp only [defF, runF, entry, bos, sSeq, sNil, sIf, sSet, sOwn, sSetL, sPar, sRet, sRetL, sRetN, sExpr, M.bind, M.ret, M.opt, val, look, imm, vals, looks, imms, eVar, eC, eBin, eUn, eCall, eN, eTup, nLst, nCall, aNil, aCons, eAnd, eOr, eNot, eIf, eChain, eSl, oSome, oNone, eTupRg, nLstRg, rOne, rTwo, eMt, eDict0, bVal, bCmp, bBl, bAnd, bOr, bNot, bYes, isBl, truth, Dv.isInt, setIm, setOw, lAt, lPut, eUser, nUser, uCall, apart, noAl, toSVs, toSV, putBack, bosAt, allIm, iSeq, iCall, iCallI, sFor, gSet, gTupD, gsCons, gsNil, gsCons, wipeR, okw, putB, e_lt, e_le, e_gt, e_ge, e_sub, e_addI, gNeg, gInt, List.length_cons, List.length_nil, List.map_cons, List.map_nil, List.cons_append, List.nil_append, List.getElem?_cons_zero, List.getElem?_cons_succ, List.getElem?_nil, List.replicate, List.set_cons_zero, List.set_cons_succ, List.all_cons, List.all_nil, decide_true, decide_false, Nat.sub_self, Nat.reduceAdd, Nat.reduceSub, Nat.reduceEqDiff, Nat.reduceBNe, Bool.not_true, Bool.not_false, Bool.and_true, Bool.true_and, Bool.and_self, Option.getD_some, Option.getD_none, if_true, if_false, ↓reduceIte, r]) rfl (by decide) ⟨b, rfl, hb⟩ (by
    rintro d hd ρ ⟨ys, rfl, hy⟩
    obtain ⟨x, hx, rfl⟩ := List.mem_map.mp hd
    obtain ⟨i, hi, rfl⟩ := List.mem_map.mp hx
    obtain ⟨zs, e, hz⟩ := right_ok hy
    refine ⟨[some s, some at_, some (.ow ys), none, some (.im (.int (i : Int)))], false, [some s, some at_, some (.ow zs), none, some (.im (.int (i : Int)))], by (conv => lhs; simp only [defF, runF, entry, bos, sSeq, sNil, sIf, sSet, sOwn, sSetL, sPar, sRet, sRetL, sRetN, sExpr, M.bind, M.ret, M.opt, val, look, imm, vals, looks, imms, eVar, eC, eBin, eUn, eCall, eN, eTup, nLst, nCall, aNil, aCons, eAnd, eOr, eNot, eIf, eChain, eSl, oSome, oNone, eTupRg, nLstRg, rOne, rTwo, eMt, eDict0, bVal, bCmp, bBl, bAnd, bOr, bNot, bYes, isBl, truth, Dv.isInt, setIm, setOw, lAt, lPut, eUser, nUser, uCall, apart, noAl, toSVs, toSV, putBack, bosAt, allIm, iSeq, iCall, iCallI, sFor, gSet, gTupD, gsCons, gsNil, gsCons, wipeR, okw, putB, e_lt, e_le, e_gt, e_ge, e_sub, e_addI, gNeg, gInt, List.length_cons, List.length_nil, List.map_cons, List.map_nil, List.cons_append, List.nil_append, List.getElem?_cons_zero, List.getElem?_cons_succ, List.getElem?_nil, List.replicate, List.set_cons_zero, List.set_cons_succ, List.all_cons, List.all_nil, decide_true, decide_false, Nat.sub_self, Nat.reduceAdd, Nat.reduceSub, Nat.reduceEqDiff, Nat.reduceBNe, Bool.not_true, Bool.not_false, Bool.and_true, Bool.true_and, Bool.and_self, Option.getD_some, Option.getD_none, if_true, if_false, ↓reduceIte]) <;> try rfl, ?_, (fun z => nomatch z), fun _ => ⟨zs, by rfl, hz⟩⟩
    conv => lhs; simp only [defF, runF, entry, bos, sSeq, sNil, sIf, sSet, sOwn, sSetL, sPar, sRet, sRetL, sRetN, sExpr, M.bind, M.ret, M.opt, val, look, imm, vals, looks, imms, eVar, eC, eBin, eUn, eCall, eN, eTup, nLst, nCall, aNil, aCons, eAnd, eOr, eNot, eIf, eChain, eSl, oSome, oNone, eTupRg, nLstRg, rOne, rTwo, eMt, eDict0, bVal, bCmp, bBl, bAnd, bOr, bNot, bYes, isBl, truth, Dv.isInt, setIm, setOw, lAt, lPut, eUser, nUser, uCall, apart, noAl, toSVs, toSV, putBack, bosAt, allIm, iSeq, iCall, iCallI, sFor, gSet, gTupD, gsCons, gsNil, gsCons, wipeR, okw, putB, e_lt, e_le, e_gt, e_ge, e_sub, e_addI, gNeg, gInt, List.length_cons, List.length_nil, List.map_cons, List.map_nil, List.cons_append, List.nil_append, List.getElem?_cons_zero, List.getElem?_cons_succ, List.getElem?_nil, List.replicate, List.set_cons_zero, List.set_cons_succ, List.all_cons, List.all_nil, decide_true, decide_false, Nat.sub_self, Nat.reduceAdd, Nat.reduceSub, Nat.reduceEqDiff, Nat.reduceBNe, Bool.not_true, Bool.not_false, Bool.and_true, Bool.true_and, Bool.and_self, Option.getD_some, Option.getD_none, if_true, if_false, ↓reduceIte, e])
  cases e4 with
  | cons h _ => exact h.elim
  | nil =>
    subst e2
    exact ⟨ys, e1, hy⟩
theorem law_2 {ns : List Int} (hl : ns.length ≤ 1000000) : ∃ a b, l_law_2 [some (.im (.lst (iD ns))), none, none, none, none] = .ok .nx [some (.im (.lst (iD ns))), a, b, none, none] ∧ (∀ xs, a ≠ some (.bo xs)) ∧ (∀ xs, b ≠ some (.bo xs)) := by
  have len : gLen [.lst (iD ns)] = some (.int (ns.length : Int)) := gLenL ns
  have k : ∃ k : Int, 1 ≤ k ∧ k ≤ 3 ∧ iCall rng1 (aCons (eCall gMax2 (aCons (eC (.int 1)) (aCons (eCall gMin2 (aCons (eC (.int 3)) (aCons (eCall gLen (aCons (eVar 0) aNil)) aNil))) aNil))) aNil) [some (.im (.lst (iD ns))), none, none, none, none] = .ok (((List.range k.toNat).map fun (i : Nat) => D.int (i : Int)).map .im) [some (.im (.lst (iD ns))), none, none, none, none] := by
    refine ⟨if (if (ns.length : Int) < 3 then (ns.length : Int) else 3) > 1 then (if (ns.length : Int) < 3 then (ns.length : Int) else 3) else 1, ?_, ?_, ?_⟩
    · split <;> omega
    · split <;> split <;> omega
    · have r := rng1_ok (n := if (if (ns.length : Int) < 3 then (ns.length : Int) else 3) > 1 then (if (ns.length : Int) < 3 then (ns.length : Int) else 3) else 1) (by split <;> split <;> omega) (by split <;> split <;> omega)
      conv => lhs; simp only [defF, runF, entry, bos, sSeq, sNil, sIf, sSet, sOwn, sSetL, sPar, sRet, sRetL, sRetN, sExpr, M.bind, M.ret, M.opt, val, look, imm, vals, looks, imms, eVar, eC, eBin, eUn, eCall, eN, eTup, nLst, nCall, aNil, aCons, eAnd, eOr, eNot, eIf, eChain, eSl, oSome, oNone, eTupRg, nLstRg, rOne, rTwo, eMt, eDict0, bVal, bCmp, bBl, bAnd, bOr, bNot, bYes, isBl, truth, Dv.isInt, setIm, setOw, lAt, lPut, eUser, nUser, uCall, apart, noAl, toSVs, toSV, putBack, bosAt, allIm, iSeq, iCall, iCallI, sFor, gSet, gTupD, gsCons, gsNil, gsCons, wipeR, okw, putB, e_lt, e_le, e_gt, e_ge, e_sub, e_addI, gNeg, gInt, List.length_cons, List.length_nil, List.map_cons, List.map_nil, List.cons_append, List.nil_append, List.getElem?_cons_zero, List.getElem?_cons_succ, List.getElem?_nil, List.replicate, List.set_cons_zero, List.set_cons_succ, List.all_cons, List.all_nil, decide_true, decide_false, Nat.sub_self, Nat.reduceAdd, Nat.reduceSub, Nat.reduceEqDiff, Nat.reduceBNe, Bool.not_true, Bool.not_false, Bool.and_true, Bool.true_and, Bool.and_self, Option.getD_some, Option.getD_none, if_true, if_false, ↓reduceIte, len, gMin2, gMax2, r]
  obtain ⟨k, k1, k3, it⟩ := k
  obtain ⟨ρ', e1, a, b, e2, e3, e4⟩ := for_inv (gg := gSet 1) (f := (sSeq (sOwn 2 (nUser F__law_bag (aCons (eVar 0) (aCons (eVar 1) aNil))))
    (sIf (bCmp gNe (eN c_law_1) (eN (nLst aNil)))
    (sRet (eC (.bl false)))
    sNil))) (fun ρ => ∃ a b, ρ = [some (.im (.lst (iD ns))), a, b, none, none] ∧ (∀ xs, a ≠ some (.bo xs)) ∧ (∀ xs, b ≠ some (.bo xs))) (((List.range k.toNat).map fun (i : Nat) => D.int (i : Int)).map .im) [some (.im (.lst (iD ns))), none, none, none, none] ⟨none, none, rfl, (fun _ z => nomatch z), (fun _ z => nomatch z)⟩ (by
    rintro d hd ρ ⟨a, b, rfl, ha, hb⟩
    obtain ⟨x, hx, rfl⟩ := List.mem_map.mp hd
    obtain ⟨i, hi, rfl⟩ := List.mem_map.mp hx
    have hi := List.mem_range.mp hi
    obtain ⟨xs, eb, hbag⟩ := bag_ok (ns := ns) (a := (i : Int)) (by omega)
    rw [← f_bag] at eb
    obtain ⟨ys, ec, hy⟩ := law_1 (s := .im (.lst (iD ns))) (at_ := .im (.int (i : Int))) hbag
    have f0 : few [] = some [] := rfl
    have ne0 : gNe (.lst []) (.lst []) = some (.bl false) := by
      show gNeP (.lst []) (.lst []) = _
      unfold gNeP
      have h2 : pl 50 (.lst []) = true := by rw [pl.eq_def]; exact pls_of fun x hx => nomatch hx
      rw [h2]
      rfl
    refine ⟨[some (.im (.lst (iD ns))), some (.im (.int (i : Int))), b, none, none], .nx, [some (.im (.lst (iD ns))), some (.im (.int (i : Int))), some (.ow ys), none, none], ?_, ?_, .inl rfl, _, _, rfl, (fun _ z => nomatch z), fun _ z => nomatch z⟩
    · cases a with
      | none => rfl
      | some a => cases a with
        | bo xs => exact absurd rfl (ha xs)
        | _ => rfl
    · cases b with
      | none => conv => lhs; simp only [defF, runF, entry, bos, sSeq, sNil, sIf, sSet, sOwn, sSetL, sPar, sRet, sRetL, sRetN, sExpr, M.bind, M.ret, M.opt, val, look, imm, vals, looks, imms, eVar, eC, eBin, eUn, eCall, eN, eTup, nLst, nCall, aNil, aCons, eAnd, eOr, eNot, eIf, eChain, eSl, oSome, oNone, eTupRg, nLstRg, rOne, rTwo, eMt, eDict0, bVal, bCmp, bBl, bAnd, bOr, bNot, bYes, isBl, truth, Dv.isInt, setIm, setOw, lAt, lPut, eUser, nUser, uCall, apart, noAl, toSVs, toSV, putBack, bosAt, allIm, iSeq, iCall, iCallI, sFor, gSet, gTupD, gsCons, gsNil, gsCons, wipeR, okw, putB, e_lt, e_le, e_gt, e_ge, e_sub, e_addI, gNeg, gInt, List.length_cons, List.length_nil, List.map_cons, List.map_nil, List.cons_append, List.nil_append, List.getElem?_cons_zero, List.getElem?_cons_succ, List.getElem?_nil, List.replicate, List.set_cons_zero, List.set_cons_succ, List.all_cons, List.all_nil, decide_true, decide_false, Nat.sub_self, Nat.reduceAdd, Nat.reduceSub, Nat.reduceEqDiff, Nat.reduceBNe, Bool.not_true, Bool.not_false, Bool.and_true, Bool.true_and, Bool.and_self, Option.getD_some, Option.getD_none, if_true, if_false, ↓reduceIte, eb, ec, f0, ne0]
      | some b => cases b with
        | bo xs => exact absurd rfl (hb xs)
        | im d => conv => lhs; simp only [defF, runF, entry, bos, sSeq, sNil, sIf, sSet, sOwn, sSetL, sPar, sRet, sRetL, sRetN, sExpr, M.bind, M.ret, M.opt, val, look, imm, vals, looks, imms, eVar, eC, eBin, eUn, eCall, eN, eTup, nLst, nCall, aNil, aCons, eAnd, eOr, eNot, eIf, eChain, eSl, oSome, oNone, eTupRg, nLstRg, rOne, rTwo, eMt, eDict0, bVal, bCmp, bBl, bAnd, bOr, bNot, bYes, isBl, truth, Dv.isInt, setIm, setOw, lAt, lPut, eUser, nUser, uCall, apart, noAl, toSVs, toSV, putBack, bosAt, allIm, iSeq, iCall, iCallI, sFor, gSet, gTupD, gsCons, gsNil, gsCons, wipeR, okw, putB, e_lt, e_le, e_gt, e_ge, e_sub, e_addI, gNeg, gInt, List.length_cons, List.length_nil, List.map_cons, List.map_nil, List.cons_append, List.nil_append, List.getElem?_cons_zero, List.getElem?_cons_succ, List.getElem?_nil, List.replicate, List.set_cons_zero, List.set_cons_succ, List.all_cons, List.all_nil, decide_true, decide_false, Nat.sub_self, Nat.reduceAdd, Nat.reduceSub, Nat.reduceEqDiff, Nat.reduceBNe, Bool.not_true, Bool.not_false, Bool.and_true, Bool.true_and, Bool.and_self, Option.getD_some, Option.getD_none, if_true, if_false, ↓reduceIte, eb, ec, f0, ne0]
        | ow d => conv => lhs; simp only [defF, runF, entry, bos, sSeq, sNil, sIf, sSet, sOwn, sSetL, sPar, sRet, sRetL, sRetN, sExpr, M.bind, M.ret, M.opt, val, look, imm, vals, looks, imms, eVar, eC, eBin, eUn, eCall, eN, eTup, nLst, nCall, aNil, aCons, eAnd, eOr, eNot, eIf, eChain, eSl, oSome, oNone, eTupRg, nLstRg, rOne, rTwo, eMt, eDict0, bVal, bCmp, bBl, bAnd, bOr, bNot, bYes, isBl, truth, Dv.isInt, setIm, setOw, lAt, lPut, eUser, nUser, uCall, apart, noAl, toSVs, toSV, putBack, bosAt, allIm, iSeq, iCall, iCallI, sFor, gSet, gTupD, gsCons, gsNil, gsCons, wipeR, okw, putB, e_lt, e_le, e_gt, e_ge, e_sub, e_addI, gNeg, gInt, List.length_cons, List.length_nil, List.map_cons, List.map_nil, List.cons_append, List.nil_append, List.getElem?_cons_zero, List.getElem?_cons_succ, List.getElem?_nil, List.replicate, List.set_cons_zero, List.set_cons_succ, List.all_cons, List.all_nil, decide_true, decide_false, Nat.sub_self, Nat.reduceAdd, Nat.reduceSub, Nat.reduceEqDiff, Nat.reduceBNe, Bool.not_true, Bool.not_false, Bool.and_true, Bool.true_and, Bool.and_self, Option.getD_some, Option.getD_none, if_true, if_false, ↓reduceIte, eb, ec, f0, ne0])
  subst e2
  exact ⟨a, b, sFor_ok it e1, e3, e4⟩
theorem fact : ∀ ns : List Int, ns.length ≤ 63 → F_law [.im (.lst (ns.map D.int))] = some (.im (.bl true), []) := by
  intro ns hn
  obtain ⟨a, b, l2, ha, hb⟩ := law_2 (ns := ns) (by omega)
  have nil5 : Lot 5 [] := ⟨.nil, fun _ h => nomatch h⟩
  have t1 : F_standing [.im (.int 5), .im (.tup []), .im (.tup [.int 1])] = some (.im (.str "apart"), []) := by kernel_rfl
  have t2 : F_standing [.im (.int 5), .im (.tup []), .im (.tup [])] = some (.im (.str "equal"), []) := by kernel_rfl
  have t3 : F_standing [.im (.int 5), .im (.tup [.int 0, .int 1]), .im (.tup [.int 1, .int 2])] = some (.im (.str "across"), []) := by kernel_rfl
  have t4 : F_left_out [.im (.int 1), .im (.tup [])] = some (.im (.tup [.int 0]), []) := by kernel_rfl
  have t5 : F_is_lot [.im (.int 3), .im (.tup [])] = some (.im (.bl true), []) := by kernel_rfl
  have f0 : few [] = some [] := rfl
  have f1 : ∀ x : D, few [x] = some [x] := fun _ => rfl
  have f2 : ∀ x y : D, few [x, y] = some [x, y] := fun _ _ => rfl
  have f5 : ∀ p q r s t : D, few [p, q, r, s, t] = some [p, q, r, s, t] := fun _ _ _ _ _ => rfl
  have rp : gRepr [.lst [.str "apart", .str "equal", .str "across", .tup [.int 0], .bl true]] = some (.str (shownD (.lst [.str "apart", .str "equal", .str "across", .tup [.int 0], .bl true]))) := repr_ok (by decide +kernel) (by decide +kernel)
  have es := eq_self_ (shownD (.lst [.str "apart", .str "equal", .str "across", .tup [.int 0], .bl true]))
  generalize hsh : shownD (.lst [.str "apart", .str "equal", .str "across", .tup [.int 0], .bl true]) = sh at rp es
  have bz : ∀ c : Option SV, (∀ xs, c ≠ some (.bo xs)) → ∀ r, bos (c :: r) = (match bos r with | [] => [] | t => none :: t) := fun c hc r => by
    cases c with
    | none => rfl
    | some c => cases c with
      | bo xs => exact absurd rfl (hc xs)
      | _ => rfl
  have b1 := bz a ha
  have b2 := bz b hb
  show F_law [.im (.lst (iD ns))] = _
  conv => lhs; simp only [defF, runF, entry, bos, sSeq, sNil, sIf, sSet, sOwn, sSetL, sPar, sRet, sRetL, sRetN, sExpr, M.bind, M.ret, M.opt, val, look, imm, vals, looks, imms, eVar, eC, eBin, eUn, eCall, eN, eTup, nLst, nCall, aNil, aCons, eAnd, eOr, eNot, eIf, eChain, eSl, oSome, oNone, eTupRg, nLstRg, rOne, rTwo, eMt, eDict0, bVal, bCmp, bBl, bAnd, bOr, bNot, bYes, isBl, truth, Dv.isInt, setIm, setOw, lAt, lPut, eUser, nUser, uCall, apart, noAl, toSVs, toSV, putBack, bosAt, allIm, iSeq, iCall, iCallI, sFor, gSet, gTupD, gsCons, gsNil, gsCons, wipeR, okw, putB, e_lt, e_le, e_gt, e_ge, e_sub, e_addI, gNeg, gInt, List.length_cons, List.length_nil, List.map_cons, List.map_nil, List.cons_append, List.nil_append, List.getElem?_cons_zero, List.getElem?_cons_succ, List.getElem?_nil, List.replicate, List.set_cons_zero, List.set_cons_succ, List.all_cons, List.all_nil, decide_true, decide_false, Nat.sub_self, Nat.reduceAdd, Nat.reduceSub, Nat.reduceEqDiff, Nat.reduceBNe, Bool.not_true, Bool.not_false, Bool.and_true, Bool.true_and, Bool.and_self, Option.getD_some, Option.getD_none, if_true, if_false, ↓reduceIte, F_law, s_law, l2, t1, t2, t3, t4, t5, f0, f1, f2, f5, rp, es, b1, b2]
end K01
open PySem PySem.W PySem.Calls PyProof.Rows in
theorem PySem.Challenge.cw_oneaxis_k01_whole_two_lots_holds : PySem.Challenge.rw_oneaxis_k01_whole_two_lots.Holds := by
  w_on; o_law
  refine HandSHeadRun.head_any (r := OpenLaw.row PySem.Challenge.rw_oneaxis_k01_whole_two_lots) (q := view (OpenLaw.row PySem.Challenge.rw_oneaxis_k01_whole_two_lots).prog [28]) (H := K01.hk) (ob := K01.ob) (M := 12000) (loose := K01.loose) (d := HandSHeadRun.topDef (OpenLaw.row PySem.Challenge.rw_oneaxis_k01_whole_two_lots).prog 28) (kwd := []) K01.ob_eq
    (by kernel_rfl) (fun s => by kernel_rfl) K01.run (by kernel_rfl) (by kernel_rfl) (by kernel_rfl) (by rfl) (by first | assumption | decide +kernel) (by decide +kernel) ⟨rfl, rfl, rfl, rfl, rfl, by decide +kernel⟩ ?hw ?hc
  case hw => w_witness2
  case hc =>
    refine Dv.walkG (l := PySem.Challenge.rw_oneaxis_k01_whole_two_lots) (n := 63) (k := 9) (x := "script") rfl (by decide) (by kernel_rfl) ⟨rfl, by decide, by decide⟩ ?F
    intro w mg fa h Y G hmg0
    obtain ⟨K, KX, c⟩ := Y
    have hmg : mg ("law" : PySem.Str) = some (.ref fa) := by
      have e : (HandSHeadRun.topDef (OpenLaw.row PySem.Challenge.rw_oneaxis_k01_whole_two_lots).prog 28).name = ("law" : PySem.Str) := by kernel_rfl
      rw [← e]
      exact hmg0
    obtain ⟨Z⟩ := K01.facts KX G c
    have ef := hmg.symm.trans Z.g_law
    cases ef
    exact ⟨K, Z.d_law, K01.F_law, KX, fun s u => L2.FunD.bindsA (ps := ["script"]) Z.F_law (fun _ _ _ _ _ _ us hl => match us, hl with | [_], _ => rfl) s [u] rfl, K01.fact, fun base _ _ => K01.ok_law Z⟩
