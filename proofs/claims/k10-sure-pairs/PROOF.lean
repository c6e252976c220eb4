import PyProof.Rows.All
import Wide.All
import OpenK.AllK
import Wide.FinOn
import KE.KStateDown
import Lean
import HandS.Base
import HandS.Call
import HandS.List
import HandS.Comp
import HandS.Ends
import HandS.Words
import HandS.Wide
import HandS.IsInst
import HandS.Strs
import HandS.Flow
import HandS.Defaults
import HandS.Exc
import HandS.Deep
import HandS.TupAny
import HandS.Style
import HandS.SortInts
import HandS.RaiseMore
import HandS.Codes
import HandS.SetFor
import HandS.Conv
import PyProof.ReprReads
import HandS.Iter
import HandS.Zip
import HandS.Dict
import HandS.TupSets
import HandS.More
import HandS.WordsExc
import HandS.Head0
import HandS.Head1
import HandS.Head2
import HandS.HeadEnd
import HandS.HeadHook1
import HandS.HeadHook2
import HandS.WideBits
import KE.BitLaws
import HandS.Star
import KE.KIndexOf
import KE.DataMinMax
import KE.DataCmp
import KE.SortData
import KE.GoesEnum
import HandS.TupMul
import HandS.Remove
import HandS.TryOnly
import PySem.Challenge.RW_oneaxis_k10_whole_sure_pairs_of_peaks
set_option Elab.async false
set_option linter.all false
set_option maxRecDepth 100000
set_option maxHeartbeats 0
set_option exponentiation.threshold 5000
namespace Dv
open PySem PySem.Spec PyProof.Rows L2
abbrev St := L2.St
inductive D where
  | non
  | bl (b : Bool)
  | int (i : Int)
  | str (x : Str)
  | tup (xs : List D)
  | lst (xs : List D)
  | dct (ks vs : List D)
  | set (xs : List D)
  | obj (c : Str) (ns : List Str) (xs : List D)
  | ref (a : Addr)
structure Gp where
  K : PySem.W.Frag
  mg : Str → Option Value
  P : Program
  w : World
abbrev Gx (X : Cx) : Gp := ⟨X.K, X.mg, X.prog, X.w⟩
def keyD : Key → D
  | .inl i => .int i
  | .inr x => .str x
def TupV (K : PySem.W.Frag) (H : Hp) (a : Addr) (vs : List V) : Prop :=
  (∃ o, H a = some (.frz o (.tup vs)) ∧ o.dict = none) ∨
    ∃ (o : Obj) (its : Array Value) (n : Nat), K.lookup a = some o ∧ o.cls = .type "tuple" ∧ o.dict = none ∧ o.data = .seq its n ∧ its.size ≤ sizeLine ∧ Vals vs its.toList
theorem TupV.sq {K : PySem.W.Frag} {H : Hp} {a : Addr} {vs : List V} (h : TupV K H a vs) : SqT K H a vs := by
  rcases h with ⟨o, h, _⟩ | ⟨o, its, n, h1, h2, _, h3, h4, h5⟩
  · exact .inl (.inr ⟨o, h⟩)
  · exact .inr ⟨o, its, n, h1, h2, h3, h4, h5⟩
theorem TupV.mono {K : PySem.W.Frag} {H H' : Hp} {a : Addr} {vs : List V} (e : Same H H') (h : TupV K H a vs) : TupV K H' a vs := by
  rcases h with ⟨o, h, d⟩ | h
  · exact .inl ⟨o, e _ _ h, d⟩
  · exact .inr h
mutual
inductive RD (G : Gp) (H : Hp) : V → D → Prop
  | non : RD G H .non .non
  | bl (b : Bool) : RD G H (.bl b) (.bl b)
  | int (i : Int) : RD G H (.int i) (.int i)
  | str (x : Str) : RD G H (.str x) (.str x)
  | ref (a : Addr) : RD G H (.ref a) (.ref a)
  | lst {a : Addr} {vs : List V} {ds : List D} : SqL G.K H a vs → RDs G H vs ds → RD G H (.ref a) (.lst ds)
  | tup {a : Addr} {vs : List V} {ds : List D} : TupV G.K H a vs → RDs G H vs ds → RD G H (.ref a) (.tup ds)
  | dct {a : Addr} {kvs : List (Key × V)} {ds : List D} : H a = some (.dK kvs) → RDs G H (kvs.map (·.2)) ds → RD G H (.ref a) (.dct (kvs.map fun p => keyD p.1) ds)
  | dctT {a : Addr} {kvs : List (List Key × V)} {ds : List D} : H a = some (.dT kvs) → RDs G H (kvs.map (·.2)) ds → RD G H (.ref a) (.dct (kvs.map fun p => .tup (p.1.map keyD)) ds)
  | set {a : Addr} {S : Int → Bool} {n : Nat} {ns : List Int} : H a = some (SetO G.w a S n) → ns.Pairwise (· < ·) → (∀ k, S k = true ↔ k ∈ ns) → ns.length = n → RD G H (.ref a) (.set (ns.map .int))
  | obj {a C dx : Addr} {fs : List (Str × V)} {c : Str} {ds : List D} : H a = some (.ins C dx fs) → G.mg c = some (.ref C) → RDs G H (fs.map (·.2)) ds → RD G H (.ref a) (.obj c (fs.map (·.1)) ds)
inductive RDs (G : Gp) (H : Hp) : List V → List D → Prop
  | nil : RDs G H [] []
  | cons {v : V} {vs : List V} {d : D} {ds : List D} : RD G H v d → RDs G H vs ds → RDs G H (v :: vs) (d :: ds)
end
theorem Same.rd {H H' : Hp} {a : Addr} {u : HO} (e : Same H H') (h : Rd H a u) : Rd H' a u := by
  rcases h with h | ⟨o, h⟩
  · exact .inl (e a _ h)
  · exact .inr ⟨o, e a _ h⟩
theorem Same.tupq {K : PySem.W.Frag} {H H' : Hp} {a : Addr} {xs : List V} (e : Same H H') (h : SqT K H a xs) : SqT K H' a xs := by
  rcases h with h | h
  · exact .inl (Same.rd e h)
  · exact .inr h
mutual
theorem RD.mono {G : Gp} {H H' : Hp} (e : Same H H') : ∀ {v : V} {d : D}, RD G H v d → RD G H' v d
  | _, _, .non => .non
  | _, _, .bl b => .bl b
  | _, _, .int i => .int i
  | _, _, .str x => .str x
  | _, _, .ref a => .ref a
  | _, _, .lst h r => .lst (e.seq h) (RDs.mono e r)
  | _, _, .tup h r => .tup (h.mono e) (RDs.mono e r)
  | _, _, .dct h r => .dct (e _ _ h) (RDs.mono e r)
  | _, _, .dctT h r => .dctT (e _ _ h) (RDs.mono e r)
  | _, _, .set h a b c => .set (e _ _ h) a b c
  | _, _, .obj h m r => .obj (e _ _ h) m (RDs.mono e r)
theorem RDs.mono {G : Gp} {H H' : Hp} (e : Same H H') : ∀ {vs : List V} {ds : List D}, RDs G H vs ds → RDs G H' vs ds
  | _, _, .nil => .nil
  | _, _, .cons a b => .cons (RD.mono e a) (RDs.mono e b)
end
theorem RDs.len {G : Gp} {H : Hp} : ∀ {vs : List V} {ds : List D}, RDs G H vs ds → vs.length = ds.length
  | _, _, .nil => rfl
  | _, _, .cons _ b => by rw [List.length_cons, List.length_cons, RDs.len b]
theorem RDs.get {G : Gp} {H : Hp} : ∀ {vs : List V} {ds : List D} {i : Nat} {d : D}, RDs G H vs ds → ds[i]? = some d → ∃ v, vs[i]? = some v ∧ RD G H v d
  | _, _, _, _, .nil, e => by simp at e
  | _, _, 0, _, .cons a _, e => by simp at e; subst e; exact ⟨_, rfl, a⟩
  | _, _, i + 1, d, .cons _ b, e => by
    obtain ⟨v, h1, h2⟩ := RDs.get (i := i) (d := d) b (by simpa using e)
    exact ⟨v, by simpa using h1, h2⟩
theorem RDs.getV {G : Gp} {H : Hp} : ∀ {vs : List V} {ds : List D} {i : Nat} {v : V}, RDs G H vs ds → vs[i]? = some v → ∃ d, ds[i]? = some d ∧ RD G H v d
  | _, _, _, _, .nil, e => by simp at e
  | _, _, 0, _, .cons a _, e => by simp at e; subst e; exact ⟨_, rfl, a⟩
  | _, _, i + 1, d, .cons _ b, e => by
    obtain ⟨v, h1, h2⟩ := RDs.getV (i := i) (v := d) b (by simpa using e)
    exact ⟨v, by simpa using h1, h2⟩
theorem RDs.app {G : Gp} {H : Hp} : ∀ {vs ws : List V} {ds es : List D}, RDs G H vs ds → RDs G H ws es → RDs G H (vs ++ ws) (ds ++ es)
  | _, _, _, _, .nil, b => b
  | _, _, _, _, .cons a r, b => .cons a (RDs.app r b)
theorem RDs.take {G : Gp} {H : Hp} : ∀ {vs : List V} {ds : List D} (n : Nat), RDs G H vs ds → RDs G H (vs.take n) (ds.take n)
  | _, _, 0, _ => .nil
  | _, _, _ + 1, .nil => .nil
  | _, _, n + 1, .cons a r => .cons a (RDs.take n r)
theorem RDs.drop {G : Gp} {H : Hp} : ∀ {vs : List V} {ds : List D} (n : Nat), RDs G H vs ds → RDs G H (vs.drop n) (ds.drop n)
  | _, _, 0, r => r
  | _, _, _ + 1, .nil => .nil
  | _, _, n + 1, .cons _ r => RDs.drop n r
theorem RDs.upd {G : Gp} {H : Hp} {v : V} {d : D} (q : RD G H v d) : ∀ {vs : List V} {ds : List D} (n : Nat), RDs G H vs ds → RDs G H (vs.set n v) (ds.set n d)
  | _, _, _, .nil => .nil
  | _, _, 0, .cons _ r => .cons q r
  | _, _, n + 1, .cons a r => .cons a (RDs.upd q n r)
theorem RDs.rev {G : Gp} {H : Hp} : ∀ {vs : List V} {ds : List D}, RDs G H vs ds → RDs G H vs.reverse ds.reverse
  | _, _, .nil => .nil
  | _, _, .cons a r => by rw [List.reverse_cons, List.reverse_cons]; exact (RDs.rev r).app (.cons a .nil)
theorem RDs.map_int {G : Gp} {H : Hp} : ∀ ns : List Int, RDs G H (ns.map V.int) (ns.map D.int)
  | [] => .nil
  | n :: r => .cons (.int n) (RDs.map_int r)
theorem RDs.ints {G : Gp} {H : Hp} : ∀ {ns : List Int} {vs : List V}, RDs G H vs (ns.map D.int) → vs = ns.map V.int
  | [], _, h => by cases h; rfl
  | n :: r, _, h => by
    cases h with
    | cons a b => cases a; rw [RDs.ints b]; rfl
theorem RDs.bls {G : Gp} {H : Hp} : ∀ {ns : List Bool} {vs : List V}, RDs G H vs (ns.map D.bl) → vs = ns.map V.bl
  | [], _, h => by cases h; rfl
  | n :: r, _, h => by
    cases h with
    | cons a b => cases a; rw [RDs.bls b]; rfl
theorem RDs.map_bl {G : Gp} {H : Hp} : ∀ ns : List Bool, RDs G H (ns.map V.bl) (ns.map D.bl)
  | [] => .nil
  | n :: r => .cons (.bl n) (RDs.map_bl r)
def hid (Z : List Addr) (H : Hp) : Hp := fun a => if a ∈ Z then none else H a
theorem hid_some {Z : List Addr} {H : Hp} {a : Addr} {o : HO} (h : hid Z H a = some o) : a ∉ Z ∧ H a = some o := by
  unfold hid at h
  by_cases z : a ∈ Z
  · rw [if_pos z] at h; cases h
  · rw [if_neg z] at h; exact ⟨z, h⟩
theorem hid_of {Z : List Addr} {H : Hp} {a : Addr} {o : HO} (z : a ∉ Z) (h : H a = some o) : hid Z H a = some o := by
  unfold hid; rw [if_neg z]; exact h
theorem hid_none {Z : List Addr} {H : Hp} {a : Addr} (z : a ∈ Z) : hid Z H a = none := by
  unfold hid; rw [if_pos z]
theorem hid_full {Z : List Addr} {H : Hp} : Same (hid Z H) H := fun _ _ h => (hid_some h).2
theorem hid_less {Z Z' : List Addr} {H : Hp} (h : ∀ a ∈ Z', a ∈ Z) : Same (hid Z H) (hid Z' H) := fun a o e =>
  hid_of (fun q => (hid_some e).1 (h a q)) (hid_some e).2
theorem Same.hid {Z : List Addr} {H H' : Hp} (e : Same H H') : Same (hid Z H) (hid Z H') := fun a o h => hid_of (hid_some h).1 (e a o (hid_some h).2)
theorem Same.of_new {H : Hp} {p : Addr} {o : HO} (h : H p = none) : Same H (upd H p o) := fun b x e => by rw [upd_ne (ne_of_none e h)]; exact e
def ZOk (Z : List Addr) (H : Hp) : Prop := ∀ a ∈ Z, H a ≠ none
theorem ZOk.out {Z : List Addr} {H : Hp} {p : Addr} (z : ZOk Z H) (h : H p = none) : p ∉ Z := fun q => z p q h
theorem ZOk.same {Z : List Addr} {H H' : Hp} (z : ZOk Z H) (e : Same H H') : ZOk Z H' := fun a ha h => by
  cases q : H a with
  | none => exact z a ha q
  | some o => rw [e a o q] at h; cases h
theorem hid_new {Z : List Addr} {H : Hp} {p : Addr} {o : HO} (z : ZOk Z H) (h : H p = none) : hid Z (upd H p o) p = some o := hid_of (z.out h) upd_same
def RT (G : Gp) (Z : List Addr) (H : Hp) (v : V) (d : D) : Prop :=
  RD G (hid Z H) v d ∨ ∃ a vs ds, v = .ref a ∧ d = .lst ds ∧ H a = some (.lst vs) ∧ RDs G (hid Z H) vs ds
theorem RT.of {G : Gp} {Z : List Addr} {H : Hp} {v : V} {d : D} (h : RD G (hid Z H) v d) : RT G Z H v d := .inl h
theorem RT.full {G : Gp} {Z : List Addr} {H : Hp} {v : V} {d : D} (h : RT G Z H v d) : RD G H v d := by
  rcases h with h | ⟨a, vs, ds, rfl, rfl, h, r⟩
  · exact h.mono hid_full
  · exact .lst (SqL.of h) (r.mono hid_full)
theorem RT.lst {G : Gp} {Z : List Addr} {H : Hp} {v : V} {ds : List D} (h : RT G Z H v (.lst ds)) : ∃ a vs, v = .ref a ∧ SqL G.K H a vs ∧ RDs G (hid Z H) vs ds := by
  rcases h with h | ⟨a, vs, es, rfl, e, h, r⟩
  · cases h with
    | lst q r => exact ⟨_, _, rfl, hid_full.seq q, r⟩
  · cases e
    exact ⟨a, vs, rfl, SqL.of h, r⟩
theorem RT.tup {G : Gp} {Z : List Addr} {H : Hp} {v : V} {ds : List D} (h : RT G Z H v (.tup ds)) : ∃ a vs, v = .ref a ∧ TupV G.K H a vs ∧ RDs G (hid Z H) vs ds := by
  rcases h with h | ⟨a, vs, es, rfl, e, h, r⟩
  · cases h with
    | tup q r => exact ⟨_, _, rfl, q.mono hid_full, r⟩
  · cases e
theorem RT.int {G : Gp} {Z : List Addr} {H : Hp} {v : V} {i : Int} (h : RT G Z H v (.int i)) : v = .int i := by
  rcases h with h | ⟨a, vs, es, rfl, e, h, r⟩
  · cases h; rfl
  · cases e
theorem RT.bl {G : Gp} {Z : List Addr} {H : Hp} {v : V} {i : Bool} (h : RT G Z H v (.bl i)) : v = .bl i := by
  rcases h with h | ⟨a, vs, es, rfl, e, h, r⟩
  · cases h; rfl
  · cases e
theorem RT.str {G : Gp} {Z : List Addr} {H : Hp} {v : V} {i : Str} (h : RT G Z H v (.str i)) : v = .str i := by
  rcases h with h | ⟨a, vs, es, rfl, e, h, r⟩
  · cases h; rfl
  · cases e
theorem RT.non {G : Gp} {Z : List Addr} {H : Hp} {v : V} (h : RT G Z H v .non) : v = .non := by
  rcases h with h | ⟨a, vs, es, rfl, e, h, r⟩
  · cases h; rfl
  · cases e
inductive RTs (G : Gp) (Z : List Addr) (H : Hp) : List V → List D → Prop
  | nil : RTs G Z H [] []
  | cons {v : V} {vs : List V} {d : D} {ds : List D} : RT G Z H v d → RTs G Z H vs ds → RTs G Z H (v :: vs) (d :: ds)
theorem RTs.one {G : Gp} {Z : List Addr} {H : Hp} {vs : List V} {d : D} (h : RTs G Z H vs [d]) : ∃ v, vs = [v] ∧ RT G Z H v d := by
  cases h with
  | cons a b => cases b; exact ⟨_, rfl, a⟩
theorem RTs.two {G : Gp} {Z : List Addr} {H : Hp} {vs : List V} {d e : D} (h : RTs G Z H vs [d, e]) : ∃ v u, vs = [v, u] ∧ RT G Z H v d ∧ RT G Z H u e := by
  cases h with
  | cons a b =>
    cases b with
    | cons b c => cases c; exact ⟨_, _, rfl, a, b⟩
inductive SV where
  | im (d : D)
  | ow (xs : List D)
  | bo (xs : List D)
abbrev Rho := List (Option SV)
abbrev Own := List (Nat × Addr)
structure Fm where
  H0 : Hp
  Z : List Addr
  B : Own
def Fm.hide (F : Fm) (p : Addr) : Fm := ⟨F.H0, p :: F.Z, F.B⟩
def zs (F : Fm) (A : Own) : List Addr := F.Z ++ A.map (·.2)
theorem mem_zs {F : Fm} {A : Own} {a : Addr} : a ∈ zs F A ↔ a ∈ F.Z ∨ ∃ i, (i, a) ∈ A := by
  unfold zs
  rw [List.mem_append, List.mem_map]
  constructor
  · rintro (h | ⟨⟨i, b⟩, h, rfl⟩)
    · exact .inl h
    · exact .inr ⟨i, h⟩
  · rintro (h | ⟨i, h⟩)
    · exact .inl h
    · exact .inr ⟨(i, a), h, rfl⟩
def OwAt (G : Gp) (F : Fm) (A : Own) (σ : St) (H : Hp) (i : Nat) (a : Addr) (xs : List D) : Prop :=
  σ[i]? = some (some (.ref a)) ∧ ∃ vs, H a = some (.lst vs) ∧ RDs G (hid (zs F A) H) vs xs
structure Sts (G : Gp) (F : Fm) (A : Own) (σ : St) (ρ : Rho) (H : Hp) : Prop where
  len : σ.length = ρ.length
  im : ∀ (i : Nat) d, ρ[i]? = some (some (.im d)) → ∃ v, σ[i]? = some (some v) ∧ RD G (hid (zs F A) H) v d
  ow : ∀ (i : Nat) xs, ρ[i]? = some (some (.ow xs)) → ∃ a, (i, a) ∈ A ∧ a ∉ F.Z ∧ F.H0 a = none ∧ OwAt G F A σ H i a xs
  bo : ∀ (i : Nat) xs, ρ[i]? = some (some (.bo xs)) → ∃ a, (i, a) ∈ A ∧ (i, a) ∈ F.B ∧ OwAt G F A σ H i a xs
  own : ∀ (i : Nat) a, (i, a) ∈ A → ∃ xs, ρ[i]? = some (some (.ow xs)) ∨ ρ[i]? = some (some (.bo xs))
  uni : ∀ (i j : Nat) a b, (i, a) ∈ A → (j, b) ∈ A → (i = j ↔ a = b)
  bor : ∀ (i : Nat) a, (i, a) ∈ F.B → (i, a) ∈ A ∧ ∃ xs, ρ[i]? = some (some (.bo xs))
  keep : ∀ a o, F.H0 a = some o → (∀ i, (i, a) ∉ F.B) → H a = some o
  zok : ZOk F.Z H
section
variable {G : Gp} {F : Fm} {A : Own} {σ : St} {ρ ρ' : Rho} {H H' : Hp}
theorem Sts.zall (S : Sts G F A σ ρ H) : ZOk (zs F A) H := fun a h => by
  rcases mem_zs.mp h with h | ⟨i, h⟩
  · exact S.zok a h
  · obtain ⟨xs, h1 | h1⟩ := S.own i a h
    · obtain ⟨b, hb, _, _, _, vs, e, _⟩ := S.ow i xs h1
      rw [(S.uni i i a b h hb).mp rfl, e]; exact fun z => nomatch z
    · obtain ⟨b, hb, _, _, vs, e, _⟩ := S.bo i xs h1
      rw [(S.uni i i a b h hb).mp rfl, e]; exact fun z => nomatch z
theorem OwAt.same {i : Nat} {a : Addr} {xs : List D} (h : OwAt G F A σ H i a xs) (e : Same H H') : OwAt G F A σ H' i a xs := by
  obtain ⟨h1, vs, h2, h3⟩ := h
  exact ⟨h1, vs, e _ _ h2, h3.mono (Same.hid e)⟩
theorem Sts.same (S : Sts G F A σ ρ H) (e : Same H H') : Sts G F A σ ρ H' where
  len := S.len
  im := fun i d h => let ⟨v, h1, h2⟩ := S.im i d h; ⟨v, h1, h2.mono (Same.hid e)⟩
  ow := fun i xs h => let ⟨a, h1, h2, h3, h4⟩ := S.ow i xs h; ⟨a, h1, h2, h3, h4.same e⟩
  bo := fun i xs h => let ⟨a, h1, h2, h3⟩ := S.bo i xs h; ⟨a, h1, h2, h3.same e⟩
  own := S.own
  uni := S.uni
  bor := S.bor
  keep := fun a o h1 h2 => e _ _ (S.keep a o h1 h2)
  zok := S.zok.same e
end
def Stp (A : Own) (H H' : Hp) : Prop := ∀ a o, H a = some o → (∀ i, (i, a) ∉ A) → H' a = some o
theorem Stp.refl (A : Own) (H : Hp) : Stp A H H := fun _ _ h _ => h
theorem Stp.trans {A : Own} {H H1 H2 : Hp} (a : Stp A H H1) (b : Stp A H1 H2) : Stp A H H2 := fun x o h n => b x o (a x o h n) n
theorem Stp.of {A : Own} {H H' : Hp} (e : Same H H') : Stp A H H' := fun x o h _ => e x o h
theorem Stp.hid {A : Own} {H H' : Hp} {F : Fm} (e : Stp A H H') : Same (Dv.hid (zs F A) H) (Dv.hid (zs F A) H') := fun a o h => by
  obtain ⟨h1, h2⟩ := hid_some h
  exact hid_of h1 (e a o h2 fun i z => h1 (mem_zs.mpr (.inr ⟨i, z⟩)))
inductive RV where
  | im (d : D)
  | al (i : Nat)
def RR (G : Gp) (F : Fm) (A : Own) (H : Hp) (v : V) : RV → Prop
  | .im d => RD G (hid (zs F A) H) v d
  | .al i => ∃ a, (i, a) ∈ A ∧ v = .ref a
theorem RR.same {G : Gp} {F : Fm} {A : Own} {H H' : Hp} {v : V} {r : RV} (h : RR G F A H v r) (e : Same (hid (zs F A) H) (hid (zs F A) H')) : RR G F A H' v r := by
  cases r with
  | im d => exact RD.mono e h
  | al i => exact h
inductive RRs (G : Gp) (F : Fm) (A : Own) (H : Hp) : List V → List RV → Prop
  | nil : RRs G F A H [] []
  | cons {v : V} {vs : List V} {r : RV} {rs : List RV} : RR G F A H v r → RRs G F A H vs rs → RRs G F A H (v :: vs) (r :: rs)
theorem RRs.same {G : Gp} {F : Fm} {A : Own} {H H' : Hp} (e : Same (hid (zs F A) H) (hid (zs F A) H')) : ∀ {vs : List V} {rs : List RV}, RRs G F A H vs rs → RRs G F A H' vs rs
  | _, _, .nil => .nil
  | _, _, .cons a b => .cons (a.same e) (RRs.same e b)
structure Exn where
  cls : Str
  arg : Option D
inductive Res (α : Type) where
  | no
  | ex (e : Exn) (ρ : Rho)
  | ok (a : α) (ρ : Rho)
abbrev M (α : Type) := Rho → Res α
def M.bind {α β : Type} (m : M α) (k : α → M β) : M β := fun ρ => match m ρ with
  | .no => .no
  | .ex e ρ' => .ex e ρ'
  | .ok a ρ' => k a ρ'
def M.ret {α : Type} (a : α) : M α := fun ρ => .ok a ρ
def M.opt {α : Type} (o : Option α) : M α := fun ρ => match o with
  | some a => .ok a ρ
  | none => .no
theorem bind_ok {α β : Type} {m : M α} {k : α → M β} {ρ ρ' : Rho} {b : β} (h : M.bind m k ρ = .ok b ρ') : ∃ a ρ1, m ρ = .ok a ρ1 ∧ k a ρ1 = .ok b ρ' := by
  unfold M.bind at h
  cases e : m ρ with
  | no => rw [e] at h; cases h
  | ex x r => rw [e] at h; cases h
  | ok a r => rw [e] at h; exact ⟨a, r, rfl, h⟩
theorem ret_ok {α : Type} {a b : α} {ρ ρ' : Rho} (h : M.ret a ρ = .ok b ρ') : a = b ∧ ρ = ρ' := by
  unfold M.ret at h; cases h; exact ⟨rfl, rfl⟩
theorem opt_ok {α : Type} {o : Option α} {b : α} {ρ ρ' : Rho} (h : M.opt o ρ = .ok b ρ') : o = some b ∧ ρ = ρ' := by
  unfold M.opt at h
  cases o with
  | none => cases h
  | some a => cases h; exact ⟨rfl, rfl⟩
def look (ρ : Rho) : RV → Option D
  | .im d => some d
  | .al i => match ρ[i]? with
    | some (some (.ow xs)) => some (.lst xs)
    | some (some (.bo xs)) => some (.lst xs)
    | _ => none
def val (r : RV) : M D := fun ρ => match look ρ r with
  | some d => .ok d ρ
  | none => .no
theorem val_ok {r : RV} {ρ ρ' : Rho} {d : D} (h : val r ρ = .ok d ρ') : look ρ r = some d ∧ ρ = ρ' := by
  unfold val at h
  cases e : look ρ r with
  | none => rw [e] at h; cases h
  | some x => rw [e] at h; cases h; exact ⟨rfl, rfl⟩
def imm (r : RV) : M D := fun ρ => match r with
  | .im d => .ok d ρ
  | .al _ => .no
theorem imm_ok {r : RV} {ρ ρ' : Rho} {d : D} (h : imm r ρ = .ok d ρ') : r = .im d ∧ ρ = ρ' := by
  cases r with
  | im x => cases h; exact ⟨rfl, rfl⟩
  | al i => cases h
theorem look_rt {G : Gp} {F : Fm} {A : Own} {σ : St} {ρ : Rho} {H : Hp} {v : V} {r : RV} {d : D} (S : Sts G F A σ ρ H) (h : RR G F A H v r) (e : look ρ r = some d) : RT G (zs F A) H v d := by
  cases r with
  | im x => cases e; exact .inl h
  | al i =>
    obtain ⟨a, ha, rfl⟩ := h
    simp only [look] at e
    split at e
    · rename_i q
      cases e
      obtain ⟨b, hb, _, _, _, vs, h2, h3⟩ := S.ow i _ q
      rw [(S.uni i i a b ha hb).mp rfl]
      exact .inr ⟨b, vs, _, rfl, rfl, h2, h3⟩
    · rename_i q
      cases e
      obtain ⟨b, hb, _, _, vs, h2, h3⟩ := S.bo i _ q
      rw [(S.uni i i a b ha hb).mp rfl]
      exact .inr ⟨b, vs, _, rfl, rfl, h2, h3⟩
    · cases e
abbrev ES := M RV
def tD (G : Gp) (F : Fm) (f : ES) : TE := fun σ H Q => ∃ A ρ r ρ', Sts G F A σ ρ H ∧ f ρ = .ok r ρ' ∧
  ∀ v H', Sts G F A σ ρ' H' → Stp A H H' → RR G F A H' v r → Q v H'
def tT (G : Gp) (F : Fm) (f : M Bool) : TT := fun σ H Q => ∃ A ρ b ρ', Sts G F A σ ρ H ∧ f ρ = .ok b ρ' ∧
  ∀ H', Sts G F A σ ρ' H' → Stp A H H' → Q b H'
def tDs (G : Gp) (F : Fm) (f : M (List RV)) : TA := fun σ H Q => ∃ A ρ rs ρ', Sts G F A σ ρ H ∧ f ρ = .ok rs ρ' ∧
  ∀ vs H', Sts G F A σ ρ' H' → Stp A H H' → RRs G F A H' vs rs → Q vs H'
def tN (G : Gp) (F : Fm) (f : M (List D)) : TE := fun σ H Q => ∃ A ρ xs ρ', Sts G F A σ ρ H ∧ f ρ = .ok xs ρ' ∧
  ∀ p vs H', Sts G (F.hide p) A σ ρ' H' → F.H0 p = none → p ∉ zs F A → Stp A H H' → H p = none → H' p = some (.lst vs) → RDs G (hid (zs (F.hide p) A) H') vs xs → Q (.ref p) H'
structure DE (X : Cx) (e : Expr) (f : ES) : Prop where
  run : ∀ F, PE X e (tD (Gx X) F f)
structure DT (X : Cx) (e : Expr) (f : M Bool) : Prop where
  run : ∀ F, PT X e (tT (Gx X) F f)
structure DW (X : Cx) (e : Expr) (f : M Bool) : Prop where
  run : ∀ F, PW X e (tT (Gx X) F f)
structure DA (X : Cx) (es : List Expr) (f : M (List RV)) : Prop where
  run : ∀ F, PA X es (tDs (Gx X) F f)
structure DN (X : Cx) (e : Expr) (f : M (List D)) : Prop where
  run : ∀ F, PE X e (tN (Gx X) F f)
theorem pe_imp {X : Cx} {e : Expr} {t t' : TE} (h : PE X e t) (i : ∀ σ H Q, t' σ H Q → t σ H Q) : PE X e t' := ⟨fun pins s σ H Q I q => h.run pins s σ H Q I (i σ H Q q)⟩
theorem pt_imp {X : Cx} {e : Expr} {t t' : TT} (h : PT X e t) (i : ∀ σ H Q, t' σ H Q → t σ H Q) : PT X e t' := ⟨fun pins s σ H Q I q => h.run pins s σ H Q I (i σ H Q q)⟩
theorem pw_imp {X : Cx} {e : Expr} {t t' : TT} (h : PW X e t) (i : ∀ σ H Q, t' σ H Q → t σ H Q) : PW X e t' := ⟨fun wh pins s σ H Q I q => h.run wh pins s σ H Q I (i σ H Q q)⟩
theorem pa_imp {X : Cx} {e : List Expr} {t t' : TA} (h : PA X e t) (i : ∀ σ H Q, t' σ H Q → t σ H Q) : PA X e t' := ⟨fun pos pins s σ H Q I q => h.run pos pins s σ H Q I (i σ H Q q)⟩
theorem ps_imp {X : Cx} {e : Stmt} {t t' : TS} (h : PS X e t) (i : ∀ D σ H, t' D σ H → t D σ H) : PS X e t' := ⟨fun pins s σ H D I q => h.run pins s σ H D I (i D σ H q)⟩
theorem pss_imp {X : Cx} {e : List Stmt} {t t' : TS} (h : PSs X e t) (i : ∀ D σ H, t' D σ H → t D σ H) : PSs X e t' := ⟨fun pins s σ H D I q => h.run pins s σ H D I (i D σ H q)⟩
abbrev tObj (its : List Value) : Obj := { cls := .type "tuple", data := .seq its.toArray }
abbrev tHO (its : List Value) (xs : List V) : HO := .frz (tObj its) (.tup xs)
theorem lay_tup {X : Cx} {pins : List (Addr × Obj)} {σ : St} {H : Hp} {s : Shared} {xs : List V} {its : List Value} (I : Inv X pins σ H s) (r : Vals xs its) (z : xs.length ≤ sizeLine) (t : Nat) :
    Inv X pins σ (upd H s.heap.objs.size (tHO its xs)) { s with heap := s.heap.push (tObj its), toks := t } := by
  have g : (s.heap.push (tObj its)).get? s.heap.objs.size = some (tObj its) := Heap.get?_push_size _ rfl
  have ok : ObjOk X.prog X.w (upd H s.heap.objs.size (tHO its xs)) (s.heap.push (tObj its)) s.heap.objs.size (tHO its xs) := ⟨g, z, its, r, _, g, rfl, _, rfl⟩
  exact I.laid (t' := t) (fun _ _ q => Heap.get?_push_of_some _ q) (Nat.le_refl _) ok
def tTupF (t : TA) : TE := fun σ H Q => t σ H fun xs H1 => xs.length ≤ sizeLine ∧ ∀ p its, H1 p = none → Q (.ref p) (upd H1 p (tHO its xs))
theorem pe_tupF {X : Cx} {es : List Expr} {t : TA} {k : Nat} {pos : Pos} (h : PA X es t) : PE X (.Tuple es k pos) (tTupF t) := by
  constructor
  intro pins s σ H Q I hq
  refine wpAny_Tuple_spliced (thn (h.run pos pins s σ H _ I hq) ?_)
  rintro us s1 ⟨xs, H1, I1, r, z, q⟩
  have hn : H1 s1.heap.objs.size = none := I1.hok.fresh (Nat.le_refl _)
  exact ⟨r.length ▸ z, V.ref s1.heap.objs.size, _, lay_tup I1 r z s1.toks, rfl, q _ us hn⟩
section
variable {X : Cx} {a b : Expr} {fa fb : ES} {pos : Pos}
def eVar (i : Nat) : ES := fun ρ => match ρ[i]? with
  | some (some (.im d)) => .ok (.im d) ρ
  | some (some (.ow _)) => .ok (.al i) ρ
  | some (some (.bo _)) => .ok (.al i) ρ
  | _ => .no
def eC (d : D) : ES := M.ret (.im d)
theorem de_var {i : Nat} {e : Expr} (h : PE X e (tVar i)) : DE X e (eVar i) := ⟨fun F => pe_imp h fun σ H Q ⟨A, ρ, r, ρ', S, e, q⟩ => by
  unfold eVar at e
  split at e
  · rename_i d h1
    cases e
    obtain ⟨v, h2, h3⟩ := S.im i d h1
    exact ⟨v, h2, q v H S (Stp.refl _ _) h3⟩
  · rename_i xs h1
    cases e
    obtain ⟨a, h2, _, _, h3, _⟩ := S.ow i xs h1
    exact ⟨_, h3, q _ H S (Stp.refl _ _) ⟨a, h2, rfl⟩⟩
  · rename_i xs h1
    cases e
    obtain ⟨a, h2, _, h3, _⟩ := S.bo i xs h1
    exact ⟨_, h3, q _ H S (Stp.refl _ _) ⟨a, h2, rfl⟩⟩
  · cases e⟩
theorem de_c {v : V} {d : D} {e : Expr} (h : PE X e (tC v)) (r : ∀ H, RD (Gx X) H v d) : DE X e (eC d) := ⟨fun F => pe_imp h fun σ H Q ⟨A, ρ, rr, ρ', S, e, q⟩ => by
  obtain ⟨rfl, rfl⟩ := ret_ok e
  exact q v H S (Stp.refl _ _) (r _)⟩
theorem de_int {i : Int} {j} : DE X (.Constant (.int i) j pos) (eC (.int i)) := de_c pe_int fun _ => .int i
theorem de_bl {i : Bool} {j} : DE X (.Constant (.bool i) j pos) (eC (.bl i)) := de_c pe_bl fun _ => .bl i
theorem de_str {i : Str} {j} : DE X (.Constant (.str i) j pos) (eC (.str i)) := de_c pe_str fun _ => .str i
theorem de_non {j} : DE X (.Constant .none j pos) (eC .non) := de_c pe_non fun _ => .non
def OpD (X : Cx) (f : Value → Value → Sem Value) (g : D → D → Option D) : Prop := ∃ r, OpR X f r ∧ ∀ (Z : List Addr) (H : Hp) (x y : V) (dx dy d : D) (Q : VK), ZOk Z H → RT (Gx X) Z H x dx → RT (Gx X) Z H y dy → g dx dy = some d →
  (∀ v H', Same H H' → RD (Gx X) (hid Z H') v d → Q v H') → r x y H Q
def UnD (X : Cx) (f : Value → Sem Value) (g : D → Option D) : Prop := ∃ r, UnR X f r ∧ ∀ (Z : List Addr) (H : Hp) (x : V) (dx d : D) (Q : VK), ZOk Z H → RT (Gx X) Z H x dx → g dx = some d →
  (∀ v H', Same H H' → RD (Gx X) (hid Z H') v d → Q v H') → r x H Q
def CallD (X : Cx) (f : Value) (g : List D → Option D) : Prop := ∃ r, CallR X f r ∧ ∀ (Z : List Addr) (H : Hp) (xs : List V) (ds : List D) (d : D) (Q : VK), ZOk Z H → RTs (Gx X) Z H xs ds → g ds = some d →
  (∀ v H', Same H H' → RD (Gx X) (hid Z H') v d → Q v H') → r xs H Q
def eBin (g : D → D → Option D) (fa fb : ES) : ES := M.bind fa fun ra => M.bind fb fun rb => M.bind (val ra) fun x => M.bind (val rb) fun y => M.bind (M.opt (g x y)) fun d => M.ret (.im d)
def eUn (g : D → Option D) (fa : ES) : ES := M.bind fa fun ra => M.bind (val ra) fun x => M.bind (M.opt (g x)) fun d => M.ret (.im d)
theorem tOp_of {G : Gp} {F : Fm} {r : R2} {g : D → D → Option D} {σ : St} {H : Hp} {Q : VK} (ho : ∀ (Z : List Addr) (H : Hp) (x y : V) (dx dy d : D) (Q : VK), ZOk Z H → RT G Z H x dx → RT G Z H y dy → g dx dy = some d →
    (∀ v H', Same H H' → RD G (hid Z H') v d → Q v H') → r x y H Q) (h : tD G F (eBin g fa fb) σ H Q) : tOp r (tD G F fa) (tD G F fb) σ H Q := by
  obtain ⟨A, ρ, rr, ρ', S, e, q⟩ := h
  obtain ⟨ra, ρ1, e1, e⟩ := bind_ok e
  obtain ⟨rb, ρ2, e2, e⟩ := bind_ok e
  obtain ⟨x, ρ3, e3, e⟩ := bind_ok e
  obtain ⟨l3, rfl⟩ := val_ok e3
  obtain ⟨y, ρ4, e4, e⟩ := bind_ok e
  obtain ⟨l4, rfl⟩ := val_ok e4
  obtain ⟨d, ρ5, e5, e⟩ := bind_ok e
  obtain ⟨l5, rfl⟩ := opt_ok e5
  obtain ⟨rfl, rfl⟩ := ret_ok e
  refine ⟨A, ρ, ra, ρ1, S, e1, fun v1 H1 S1 m1 r1 => ⟨A, ρ1, rb, _, S1, e2, fun v2 H2 S2 m2 r2 => ?_⟩⟩
  refine ho (zs F A) H2 v1 v2 x y d Q S2.zall (look_rt S2 (r1.same m2.hid) l3) (look_rt S2 r2 l4) l5 fun v H' sm rd => ?_
  exact q v H' (S2.same sm) ((m1.trans m2).trans (Stp.of sm)) rd
theorem de_bin {op : Operator} {g : D → D → Option D} (ho : OpD X (binaryOp op) g) (ha : DE X a fa) (hb : DE X b fb) : DE X (.BinOp a op b pos) (eBin g fa fb) := ⟨fun F => by
  obtain ⟨r, h1, h2⟩ := ho
  exact pe_imp (pe_op h1 (ha.run F) (hb.run F)) fun σ H Q h => tOp_of h2 h⟩
theorem de_cmp {op : CmpOp} {g : D → D → Option D} (ho : OpD X (compareOp op) g) (ha : DE X a fa) (hb : DE X b fb) (hm : behindInMarks op b = false) : DE X (.Compare a [op] [b] pos) (eBin g fa fb) := ⟨fun F => by
  obtain ⟨r, h1, h2⟩ := ho
  exact pe_imp (pe_cmpR h1 (ha.run F) (hb.run F) hm) fun σ H Q h => tOp_of h2 h⟩
theorem de_un {op : UnaryOp} {g : D → Option D} (ho : UnD X (unaryOp op) g) (ha : DE X a fa) : DE X (.UnaryOp op a pos) (eUn g fa) := ⟨fun F => by
  obtain ⟨r, h1, h2⟩ := ho
  refine pe_imp (pe_un h1 (ha.run F)) fun σ H Q ⟨A, ρ, rr, ρ', S, e, q⟩ => ?_
  obtain ⟨ra, ρ1, e1, e⟩ := bind_ok e
  obtain ⟨x, ρ3, e3, e⟩ := bind_ok e
  obtain ⟨l3, rfl⟩ := val_ok e3
  obtain ⟨d, ρ5, e5, e⟩ := bind_ok e
  obtain ⟨l5, rfl⟩ := opt_ok e5
  obtain ⟨rfl, rfl⟩ := ret_ok e
  refine ⟨A, ρ, ra, _, S, e1, fun v1 H1 S1 m1 r1 => ?_⟩
  refine h2 (zs F A) H1 v1 x d Q S1.zall (look_rt S1 r1 l3) l5 fun v H' sm rd => ?_
  exact q v H' (S1.same sm) (m1.trans (Stp.of sm)) rd⟩
end
end Dv
namespace Dv
open PySem PySem.Spec PyProof.Rows L2
section
variable {X : Cx} {a b c : Expr} {fa fb fc : ES} {ga gb : M Bool} {rest es : List Expr} {fs : M (List RV)} {pos : Pos}
def truth : D → Option Bool
  | .non => some false
  | .bl b => some b
  | .int i => some (i != 0)
  | .str x => if x.length ≤ 1000000 then some ((x.length : Int) != 0) else none
  | .lst xs => some (!xs.isEmpty)
  | .tup xs => some (!xs.isEmpty)
  | _ => none
theorem len_line {n : Nat} (h : n ≤ 1000000) : n ≤ sizeLine := Nat.le_trans h (by rw [sizeLine_eq]; decide)
theorem len_lt {n : Nat} (h : n < 1000000) : n < sizeLine := Nat.lt_of_lt_of_le h (by rw [sizeLine_eq]; decide)
theorem RDs.emp {G : Gp} {H : Hp} {vs : List V} {ds : List D} (h : RDs G H vs ds) : (!vs.isEmpty) = !ds.isEmpty := by cases h <;> rfl
theorem tru_of {G : Gp} {Z : List Addr} {H : Hp} {v : V} {d : D} {k : Bool} (h : RT G Z H v d) (e : truth d = some k) : TruV G.K v H k := by
  cases d with
  | non => rw [h.non]; cases e; rfl
  | bl b => rw [h.bl]; cases e; rfl
  | int i => rw [h.int]; cases e; rfl
  | str x =>
    rw [h.str]
    simp only [truth] at e
    by_cases z : x.length ≤ 1000000
    · rw [if_pos z] at e; cases e; exact ⟨len_line z, rfl⟩
    · rw [if_neg z] at e; cases e
  | lst xs =>
    obtain ⟨p, vs, rfl, q, r⟩ := h.lst
    cases e
    exact .inl ⟨vs, q, r.emp.symm⟩
  | tup xs =>
    obtain ⟨p, vs, rfl, q, r⟩ := h.tup
    cases e
    exact .inr (.inl ⟨vs, q.sq, r.emp.symm⟩)
  | _ => cases e
def bVal (fa : ES) : M Bool := M.bind fa fun ra => M.bind (val ra) fun x => M.opt (truth x)
theorem tru_rd {G : Gp} {F : Fm} {σ : St} {H : Hp} {Q : Bool → Hp → Prop} (h : tT G F (bVal fa) σ H Q) : tD G F fa σ H fun x H' => ∃ k, TruV G.K x H' k ∧ Q k H' := by
  obtain ⟨A, ρ, b, ρ', S, e, q⟩ := h
  obtain ⟨ra, ρ1, e1, e⟩ := bind_ok e
  obtain ⟨x, ρ2, e2, e⟩ := bind_ok e
  obtain ⟨l2, rfl⟩ := val_ok e2
  obtain ⟨l3, rfl⟩ := opt_ok e
  exact ⟨A, ρ, ra, _, S, e1, fun v H1 S1 m1 r1 => ⟨b, tru_of (look_rt S1 r1 l2) l3, q H1 S1 m1⟩⟩
theorem dt_val (ha : DE X a fa) (he : ∀ whole, isTrue a X.env whole = (do let v ← whole; standAt a.pos; holding [v] (truthy v)) := by intro _; rfl) : DT X a (bVal fa) := ⟨fun F => pt_imp (pt_truth (ha.run F) he) fun σ H Q h => tru_rd h⟩
def isBl : D → Option Bool
  | .bl b => some b
  | _ => none
def bCmp (g : D → D → Option D) (fa fb : ES) : M Bool := M.bind (eBin g fa fb) fun r => M.bind (val r) fun x => M.opt (isBl x)
theorem blv_of {G : Gp} {Z : List Addr} {H : Hp} {v : V} {d : D} {k : Bool} (h : RT G Z H v d) (e : isBl d = some k) : v = .bl k := by
  cases d <;> cases e
  exact h.bl
theorem tT_val {G : Gp} {F : Fm} {f : ES} {σ : St} {H : Hp} {Q : Bool → Hp → Prop} (h : tT G F (M.bind f fun r => M.bind (val r) fun x => M.opt (isBl x)) σ H Q) : tD G F f σ H fun x H' => ∃ k, x = .bl k ∧ Q k H' := by
  obtain ⟨A, ρ, b, ρ', S, e, q⟩ := h
  obtain ⟨ra, ρ1, e1, e⟩ := bind_ok e
  obtain ⟨x, ρ2, e2, e⟩ := bind_ok e
  obtain ⟨l2, rfl⟩ := val_ok e2
  obtain ⟨l3, rfl⟩ := opt_ok e
  exact ⟨A, ρ, ra, _, S, e1, fun v H1 S1 m1 r1 => ⟨b, blv_of (look_rt S1 r1 l2) l3, q H1 S1 m1⟩⟩
theorem dt_cmp {op : CmpOp} {g : D → D → Option D} (ho : OpD X (compareOp op) g) (ha : DE X a fa) (hb : DE X b fb) (hm : behindInMarks op b = false) : DT X (.Compare a [op] [b] pos) (bCmp g fa fb) := ⟨fun F => by
  obtain ⟨r, h1, h2⟩ := ho
  exact pt_imp (pt_cmpR h1 (ha.run F) (hb.run F) hm) fun σ H Q h => tOp_of (Q := fun x H' => ∃ k, x = .bl k ∧ Q k H') h2 (tT_val h)⟩
def eChain (g g' : D → D → Option D) (fa fb fc : ES) : ES := M.bind fa fun ra => M.bind fb fun rb => M.bind (val ra) fun x => M.bind (val rb) fun y => M.bind (M.opt (g x y)) fun d => M.bind (M.opt (isBl d)) fun k =>
  match k with
  | true => M.bind fc fun rc => M.bind (val rb) fun y' => M.bind (val rc) fun z => M.bind (M.opt (g' y' z)) fun d' => M.ret (.im d')
  | false => M.ret (.im (.bl false))
theorem tChain_of {G : Gp} {F : Fm} {r r' : R2} {g g' : D → D → Option D} {σ : St} {H : Hp} {Q : VK} (ho : ∀ (Z : List Addr) (H : Hp) (x y : V) (dx dy d : D) (Q : VK), ZOk Z H → RT G Z H x dx → RT G Z H y dy → g dx dy = some d →
    (∀ v H', Same H H' → RD G (hid Z H') v d → Q v H') → r x y H Q) (ho' : ∀ (Z : List Addr) (H : Hp) (x y : V) (dx dy d : D) (Q : VK), ZOk Z H → RT G Z H x dx → RT G Z H y dy → g' dx dy = some d →
    (∀ v H', Same H H' → RD G (hid Z H') v d → Q v H') → r' x y H Q) (h : tD G F (eChain g g' fa fb fc) σ H Q) : tChain r r' (tD G F fa) (tD G F fb) (tD G F fc) σ H Q := by
  obtain ⟨A, ρ, rr, ρ', S, e, q⟩ := h
  obtain ⟨ra, ρ1, e1, e⟩ := bind_ok e
  obtain ⟨rb, ρ2, e2, e⟩ := bind_ok e
  obtain ⟨x, ρ3, e3, e⟩ := bind_ok e
  obtain ⟨l3, rfl⟩ := val_ok e3
  obtain ⟨y, ρ4, e4, e⟩ := bind_ok e
  obtain ⟨l4, rfl⟩ := val_ok e4
  obtain ⟨d, ρ5, e5, e⟩ := bind_ok e
  obtain ⟨l5, rfl⟩ := opt_ok e5
  obtain ⟨k, ρ6, e6, e⟩ := bind_ok e
  obtain ⟨l6, rfl⟩ := opt_ok e6
  refine ⟨A, ρ, ra, ρ1, S, e1, fun v1 H1 S1 m1 r1 => ⟨A, ρ1, rb, _, S1, e2, fun v2 H2 S2 m2 r2 => ?_⟩⟩
  refine ho (zs F A) H2 v1 v2 x y d _ S2.zall (look_rt S2 (r1.same m2.hid) l3) (look_rt S2 r2 l4) l5 fun v H3 sm rd => ?_
  refine ⟨k, blv_of (.inl rd) l6, ?_⟩
  have S3 := S2.same sm
  have m3 := (m1.trans m2).trans (Stp.of sm)
  cases k with
  | false =>
    obtain ⟨rfl, rfl⟩ := ret_ok e
    rw [if_neg Bool.false_ne_true]
    exact q _ H3 S3 m3 (.bl false)
  | true =>
    obtain ⟨rc, ρ7, e7, e⟩ := bind_ok e
    obtain ⟨y', ρ8, e8, e⟩ := bind_ok e
    obtain ⟨l8, rfl⟩ := val_ok e8
    obtain ⟨z, ρ9, e9, e⟩ := bind_ok e
    obtain ⟨l9, rfl⟩ := val_ok e9
    obtain ⟨d', ρ10, e10, e⟩ := bind_ok e
    obtain ⟨l10, rfl⟩ := opt_ok e10
    obtain ⟨rfl, rfl⟩ := ret_ok e
    rw [if_pos rfl]
    refine ⟨A, _, rc, _, S3, e7, fun v4 H4 S4 m4 r4 => ?_⟩
    refine ho' (zs F A) H4 v2 v4 y' z d' Q S4.zall (look_rt S4 ((r2.same (Same.hid sm)).same m4.hid) l8) (look_rt S4 r4 l9) l10 fun v H5 sm5 rd5 => ?_
    exact q v H5 (S4.same sm5) ((m3.trans m4).trans (Stp.of sm5)) rd5
theorem de_chain {op op' : CmpOp} {g g' : D → D → Option D} (ho : OpD X (compareOp op) g) (ho' : OpD X (compareOp op') g') (ha : DE X a fa) (hb : DE X b fb) (hc : DE X c fc)
    (hm : lastMarks [op, op'] [b, c] = false := by with_unfolding_all rfl) : DE X (.Compare a [op, op'] [b, c] pos) (eChain g g' fa fb fc) := ⟨fun F => by
  obtain ⟨r, h1, h2⟩ := ho
  obtain ⟨r', h1', h2'⟩ := ho'
  exact pe_imp (pe_chain h1 h1' (ha.run F) (hb.run F) (hc.run F) hm) fun σ H Q h => tChain_of h2 h2' h⟩
def bBl (f : ES) : M Bool := M.bind f fun r => M.bind (val r) fun x => M.opt (isBl x)
theorem dt_chain {op op' : CmpOp} {g g' : D → D → Option D} (ho : OpD X (compareOp op) g) (ho' : OpD X (compareOp op') g') (ha : DE X a fa) (hb : DE X b fb) (hc : DE X c fc)
    (hm : lastMarks [op, op'] [b, c] = false := by with_unfolding_all rfl) : DT X (.Compare a [op, op'] [b, c] pos) (bBl (eChain g g' fa fb fc)) := ⟨fun F => by
  obtain ⟨r, h1, h2⟩ := ho
  obtain ⟨r', h1', h2'⟩ := ho'
  exact pt_imp (pt_chain h1 h1' (ha.run F) (hb.run F) (hc.run F) hm) fun σ H Q h => tChain_of (Q := fun x H' => ∃ k, x = .bl k ∧ Q k H') h2 h2' (tT_val h)⟩
def bAnd (ga gb : M Bool) : M Bool := M.bind ga fun k => match k with
  | true => gb
  | false => M.ret false
def bOr (ga gb : M Bool) : M Bool := M.bind ga fun k => match k with
  | true => M.ret true
  | false => gb
def bNot (ga : M Bool) : M Bool := M.bind ga fun k => M.ret (!k)
theorem dt_w (h : DW X a ga) : DT X a ga := ⟨fun F => (h.run F).pt⟩
theorem dw_and1 (ha : DT X a ga) : DW X (.BoolOp .And [a] pos) ga := ⟨fun F => pw_and1 (ha.run F)⟩
theorem dw_or1 (ha : DT X a ga) : DW X (.BoolOp .Or [a] pos) ga := ⟨fun F => pw_or1 (ha.run F)⟩
theorem dw_and (ha : DT X a ga) (hb : DW X (.BoolOp .And (b :: rest) pos) gb) : DW X (.BoolOp .And (a :: b :: rest) pos) (bAnd ga gb) := ⟨fun F => pw_imp (pw_and (ha.run F) (hb.run F)) fun σ H Q ⟨A, ρ, k, ρ', S, e, q⟩ => by
  obtain ⟨k1, ρ1, e1, e⟩ := bind_ok e
  refine ⟨A, ρ, k1, ρ1, S, e1, fun H1 S1 m1 => ?_⟩
  cases k1 with
  | true =>
    rw [if_pos rfl]
    exact ⟨A, ρ1, k, ρ', S1, e, fun H2 S2 m2 => q H2 S2 (m1.trans m2)⟩
  | false =>
    obtain ⟨rfl, rfl⟩ := ret_ok e
    rw [if_neg Bool.false_ne_true]
    exact q H1 S1 m1⟩
theorem dw_or (ha : DT X a ga) (hb : DW X (.BoolOp .Or (b :: rest) pos) gb) : DW X (.BoolOp .Or (a :: b :: rest) pos) (bOr ga gb) := ⟨fun F => pw_imp (pw_or (ha.run F) (hb.run F)) fun σ H Q ⟨A, ρ, k, ρ', S, e, q⟩ => by
  obtain ⟨k1, ρ1, e1, e⟩ := bind_ok e
  refine ⟨A, ρ, k1, ρ1, S, e1, fun H1 S1 m1 => ?_⟩
  cases k1 with
  | false =>
    rw [if_neg Bool.false_ne_true]
    exact ⟨A, ρ1, k, ρ', S1, e, fun H2 S2 m2 => q H2 S2 (m1.trans m2)⟩
  | true =>
    obtain ⟨rfl, rfl⟩ := ret_ok e
    rw [if_pos rfl]
    exact q H1 S1 m1⟩
theorem dt_not (ha : DT X a ga) : DT X (.UnaryOp .Not a pos) (bNot ga) := ⟨fun F => pt_imp (pt_not (ha.run F)) fun σ H Q ⟨A, ρ, k, ρ', S, e, q⟩ => by
  obtain ⟨k1, ρ1, e1, e⟩ := bind_ok e
  obtain ⟨rfl, rfl⟩ := ret_ok e
  exact ⟨A, ρ, k1, ρ1, S, e1, fun H1 S1 m1 => q H1 S1 m1⟩⟩
def eAnd (fa fb : ES) : ES := M.bind fa fun ra => M.bind (val ra) fun x => M.bind (M.opt (truth x)) fun k => match k with
  | true => fb
  | false => M.ret ra
def eOr (fa fb : ES) : ES := M.bind fa fun ra => M.bind (val ra) fun x => M.bind (M.opt (truth x)) fun k => match k with
  | true => M.ret ra
  | false => fb
def eNot (fa : ES) : ES := M.bind fa fun ra => M.bind (val ra) fun x => M.bind (M.opt (truth x)) fun k => M.ret (.im (.bl (!k)))
theorem de_one {op} (h : DE X a fa) : DE X (.BoolOp op [a] pos) fa := ⟨fun F => pe_one (h.run F)⟩
theorem de_and (ha : DE X a fa) (hb : DE X (.BoolOp .And (b :: rest) pos) fb) : DE X (.BoolOp .And (a :: b :: rest) pos) (eAnd fa fb) := ⟨fun F => pe_imp (pe_andT (ha.run F) (hb.run F)) fun σ H Q ⟨A, ρ, r, ρ', S, e, q⟩ => by
  obtain ⟨ra, ρ1, e1, e⟩ := bind_ok e
  obtain ⟨x, ρ2, e2, e⟩ := bind_ok e
  obtain ⟨l2, rfl⟩ := val_ok e2
  obtain ⟨k, ρ3, e3, e⟩ := bind_ok e
  obtain ⟨l3, rfl⟩ := opt_ok e3
  refine ⟨A, ρ, ra, _, S, e1, fun v H1 S1 m1 r1 => ⟨k, tru_of (look_rt S1 r1 l2) l3, ?_⟩⟩
  cases k with
  | true =>
    rw [if_pos rfl]
    exact ⟨A, _, r, ρ', S1, e, fun v2 H2 S2 m2 r2 => q v2 H2 S2 (m1.trans m2) r2⟩
  | false =>
    obtain ⟨rfl, rfl⟩ := ret_ok e
    rw [if_neg Bool.false_ne_true]
    exact q v H1 S1 m1 r1⟩
theorem de_or (ha : DE X a fa) (hb : DE X (.BoolOp .Or (b :: rest) pos) fb) : DE X (.BoolOp .Or (a :: b :: rest) pos) (eOr fa fb) := ⟨fun F => pe_imp (pe_orT (ha.run F) (hb.run F)) fun σ H Q ⟨A, ρ, r, ρ', S, e, q⟩ => by
  obtain ⟨ra, ρ1, e1, e⟩ := bind_ok e
  obtain ⟨x, ρ2, e2, e⟩ := bind_ok e
  obtain ⟨l2, rfl⟩ := val_ok e2
  obtain ⟨k, ρ3, e3, e⟩ := bind_ok e
  obtain ⟨l3, rfl⟩ := opt_ok e3
  refine ⟨A, ρ, ra, _, S, e1, fun v H1 S1 m1 r1 => ⟨k, tru_of (look_rt S1 r1 l2) l3, ?_⟩⟩
  cases k with
  | false =>
    rw [if_neg Bool.false_ne_true]
    exact ⟨A, _, r, ρ', S1, e, fun v2 H2 S2 m2 r2 => q v2 H2 S2 (m1.trans m2) r2⟩
  | true =>
    obtain ⟨rfl, rfl⟩ := ret_ok e
    rw [if_pos rfl]
    exact q v H1 S1 m1 r1⟩
theorem de_not (ha : DE X a fa) : DE X (.UnaryOp .Not a pos) (eNot fa) := ⟨fun F => pe_imp (pe_notT (ha.run F)) fun σ H Q ⟨A, ρ, r, ρ', S, e, q⟩ => by
  obtain ⟨ra, ρ1, e1, e⟩ := bind_ok e
  obtain ⟨x, ρ2, e2, e⟩ := bind_ok e
  obtain ⟨l2, rfl⟩ := val_ok e2
  obtain ⟨k, ρ3, e3, e⟩ := bind_ok e
  obtain ⟨l3, rfl⟩ := opt_ok e3
  obtain ⟨rfl, rfl⟩ := ret_ok e
  exact ⟨A, ρ, ra, _, S, e1, fun v H1 S1 m1 r1 => ⟨k, tru_of (look_rt S1 r1 l2) l3, q _ H1 S1 m1 (.bl _)⟩⟩⟩
def eIf (gc : M Bool) (fa fb : ES) : ES := M.bind gc fun k => match k with
  | true => fa
  | false => fb
theorem de_if {gc : M Bool} (hc : DT X c gc) (ha : DE X a fa) (hb : DE X b fb) : DE X (.IfExp c a b pos) (eIf gc fa fb) := ⟨fun F => pe_imp (pe_ifExp (hc.run F) (ha.run F) (hb.run F)) fun σ H Q ⟨A, ρ, r, ρ', S, e, q⟩ => by
  obtain ⟨k, ρ1, e1, e⟩ := bind_ok e
  refine ⟨A, ρ, k, ρ1, S, e1, fun H1 S1 m1 => ?_⟩
  cases k with
  | true =>
    rw [if_pos rfl]
    exact ⟨A, ρ1, r, ρ', S1, e, fun v2 H2 S2 m2 r2 => q v2 H2 S2 (m1.trans m2) r2⟩
  | false =>
    rw [if_neg Bool.false_ne_true]
    exact ⟨A, ρ1, r, ρ', S1, e, fun v2 H2 S2 m2 r2 => q v2 H2 S2 (m1.trans m2) r2⟩⟩
def aNil : M (List RV) := M.ret []
def aCons (fa : ES) (fs : M (List RV)) : M (List RV) := M.bind fa fun r => M.bind fs fun rs => M.ret (r :: rs)
theorem da_nil : DA X [] aNil := ⟨fun F => pa_imp pa_nil fun σ H Q ⟨A, ρ, r, ρ', S, e, q⟩ => by
  obtain ⟨rfl, rfl⟩ := ret_ok e
  exact q [] H S (Stp.refl _ _) .nil⟩
theorem da_cons (ha : DE X a fa) (hr : DA X es fs) (hs : starEach (a :: es) X.env = (false, eval a X.env) :: starEach es X.env := by rfl) : DA X (a :: es) (aCons fa fs) := ⟨fun F => pa_imp (pa_cons (ha.run F) (hr.run F) hs) fun σ H Q ⟨A, ρ, r, ρ', S, e, q⟩ => by
  obtain ⟨r1, ρ1, e1, e⟩ := bind_ok e
  obtain ⟨rs, ρ2, e2, e⟩ := bind_ok e
  obtain ⟨rfl, rfl⟩ := ret_ok e
  exact ⟨A, ρ, r1, ρ1, S, e1, fun v H1 S1 m1 q1 => ⟨A, ρ1, rs, _, S1, e2, fun vs H2 S2 m2 q2 => q _ H2 S2 (m1.trans m2) (.cons (q1.same m2.hid) q2)⟩⟩⟩
def imms : List RV → Option (List D)
  | [] => some []
  | .im d :: rs => match imms rs with
    | some ds => some (d :: ds)
    | none => none
  | .al _ :: _ => none
theorem imms_rd {G : Gp} {F : Fm} {A : Own} {H : Hp} : ∀ {vs : List V} {rs : List RV} {ds : List D}, RRs G F A H vs rs → imms rs = some ds → RDs G (hid (zs F A) H) vs ds
  | _, _, _, .nil, e => by cases e; exact .nil
  | _, _, ds, .cons (r := .im d) (rs := rs) a b, e => by
    simp only [imms] at e
    split at e
    · rename_i xs q
      cases e
      exact .cons a (imms_rd b q)
    · cases e
  | _, _, _, .cons (r := .al i) a b, e => by cases e
def few (xs : List D) : Option (List D) := if xs.length ≤ 1000000 then some xs else none
theorem few_ok {xs ys : List D} (h : few xs = some ys) : xs = ys ∧ xs.length ≤ sizeLine := by
  unfold few at h
  by_cases z : xs.length ≤ 1000000
  · rw [if_pos z] at h; cases h; exact ⟨rfl, len_line z⟩
  · rw [if_neg z] at h; cases h
def eTup (fs : M (List RV)) : ES := M.bind fs fun rs => M.bind (M.opt (imms rs)) fun ds => M.bind (M.opt (few ds)) fun ds => M.ret (.im (.tup ds))
theorem de_tup {k} (h : DA X es fs) : DE X (.Tuple es k pos) (eTup fs) := ⟨fun F => pe_imp (pe_tupF (h.run F)) fun σ H Q ⟨A, ρ, r, ρ', S, e, q⟩ => by
  obtain ⟨rs, ρ1, e1, e⟩ := bind_ok e
  obtain ⟨ds, ρ2, e2, e⟩ := bind_ok e
  obtain ⟨l2, rfl⟩ := opt_ok e2
  obtain ⟨ds', ρ3, e3, e⟩ := bind_ok e
  obtain ⟨l3, rfl⟩ := opt_ok e3
  obtain ⟨rfl, l4⟩ := few_ok l3
  obtain ⟨rfl, rfl⟩ := ret_ok e
  refine ⟨A, ρ, rs, _, S, e1, fun vs H1 S1 m1 q1 => ?_⟩
  have rd := imms_rd q1 l2
  refine ⟨by rw [rd.len]; exact l4, fun p its hp => ?_⟩
  have sm := Same.of_new (o := tHO its vs) hp
  exact q _ _ (S1.same sm) (m1.trans (Stp.of sm)) (.tup (.inl ⟨_, hid_new S1.zall hp, rfl⟩) (rd.mono (Same.hid sm)))⟩
theorem Sts.hide {G : Gp} {F : Fm} {A : Own} {σ : St} {ρ : Rho} {H H' : Hp} {p : Addr} (S : Sts G F A σ ρ H) (hp : H p = none) (sm : Same H H') (h' : H' p ≠ none) : Sts G (F.hide p) A σ ρ H' := by
  have key : Same (hid (zs F A) H) (hid (zs (F.hide p) A) H') := fun a o e => by
    obtain ⟨e1, e2⟩ := hid_some e
    refine hid_of (fun z => ?_) (sm _ _ e2)
    rcases mem_zs.mp z with z | z
    · rcases List.mem_cons.mp z with rfl | z
      · rw [hp] at e2; cases e2
      · exact e1 (mem_zs.mpr (.inl z))
    · exact e1 (mem_zs.mpr (.inr z))
  have ow : ∀ {i a xs}, OwAt G F A σ H i a xs → OwAt G (F.hide p) A σ H' i a xs := fun ⟨h1, vs, h2, h3⟩ => ⟨h1, vs, sm _ _ h2, h3.mono key⟩
  refine ⟨S.len, fun i d h => ?_, fun i xs h => ?_, fun i xs h => ?_, S.own, S.uni, S.bor, fun a o h1 h2 => sm _ _ (S.keep a o h1 h2), fun a h => ?_⟩
  · obtain ⟨v, h1, h2⟩ := S.im i d h
    exact ⟨v, h1, h2.mono key⟩
  · obtain ⟨a, h1, h2, h3, h4⟩ := S.ow i xs h
    refine ⟨a, h1, fun z => ?_, h3, ow h4⟩
    rcases List.mem_cons.mp z with rfl | z
    · obtain ⟨_, vs, q, _⟩ := h4
      rw [hp] at q; cases q
    · exact h2 z
  · obtain ⟨a, h1, h2, h3⟩ := S.bo i xs h
    exact ⟨a, h1, h2, ow h3⟩
  · rcases List.mem_cons.mp h with rfl | h
    · exact h'
    · exact S.zok.same sm a h
theorem hide_same {F : Fm} {A : Own} {H H' : Hp} {p : Addr} (hp : H p = none) (sm : Same H H') : Same (hid (zs F A) H) (hid (zs (F.hide p) A) H') := fun a o e => by
  obtain ⟨e1, e2⟩ := hid_some e
  refine hid_of (fun z => ?_) (sm _ _ e2)
  rcases mem_zs.mp z with z | z
  · rcases List.mem_cons.mp z with rfl | z
    · rw [hp] at e2; cases e2
    · exact e1 (mem_zs.mpr (.inl z))
  · exact e1 (mem_zs.mpr (.inr z))
theorem Sts.h0 {G : Gp} {F : Fm} {A : Own} {σ : St} {ρ : Rho} {H : Hp} {p : Addr} (S : Sts G F A σ ρ H) (hp : H p = none) : F.H0 p = none := by
  cases e : F.H0 p with
  | none => rfl
  | some o =>
    by_cases z : ∃ i, (i, p) ∈ F.B
    · obtain ⟨i, z⟩ := z
      obtain ⟨z1, xs, z2⟩ := S.bor i p z
      obtain ⟨a, h1, h2, h3, vs, h4, _⟩ := S.bo i xs z2
      rw [(S.uni i i p a z1 h1).mp rfl, h4] at hp
      cases hp
    · rw [S.keep p o e fun i q => z ⟨i, q⟩] at hp; cases hp
theorem back_none {G : Gp} {F : Fm} {A : Own} {σ : St} {ρ ρ' : Rho} {H H1 : Hp} {p : Addr} (S : Sts G F A σ ρ H) (m : Stp A H H1) (S1 : Sts G F A σ ρ' H1) (hp : H1 p = none) : H p = none := by
  cases e : H p with
  | none => rfl
  | some o =>
    by_cases z : ∃ i, (i, p) ∈ A
    · obtain ⟨i, z⟩ := z
      exact absurd hp (S1.zall p (mem_zs.mpr (.inr ⟨i, z⟩)))
    · rw [m p o e fun i q => z ⟨i, q⟩] at hp; cases hp
theorem fresh_list {G : Gp} {F : Fm} {A : Own} {σ : St} {ρ' : Rho} {H H1 : Hp} {Q : VK} {vs : List V} {ds : List D} {p : Addr} (S1 : Sts G F A σ ρ' H1) (m1 : Stp A H H1) (rd : RDs G (hid (zs F A) H1) vs ds) (hp : H1 p = none) (h00 : H p = none)
    (q : ∀ p vs H', Sts G (F.hide p) A σ ρ' H' → F.H0 p = none → p ∉ zs F A → Stp A H H' → H p = none → H' p = some (.lst vs) → RDs G (hid (zs (F.hide p) A) H') vs ds → Q (.ref p) H') : Q (.ref p) (upd H1 p (.lst vs)) := by
  have sm := Same.of_new (o := .lst vs) hp
  have ks := hide_same (F := F) (A := A) hp sm
  exact q p vs _ (S1.hide hp sm (by rw [upd_same]; exact fun z => nomatch z)) (S1.h0 hp) (S1.zall.out hp) (m1.trans (Stp.of sm)) h00 upd_same (rd.mono ks)
def nLst (fs : M (List RV)) : M (List D) := M.bind fs fun rs => M.bind (M.opt (imms rs)) fun ds => M.opt (few ds)
theorem dn_lst (h : DA X es fs) : DN X (.List es pos) (nLst fs) := ⟨fun F => pe_imp (pe_lst (h.run F)) fun σ H Q ⟨A, ρ, r, ρ', S, e, q⟩ => by
  obtain ⟨rs, ρ1, e1, e⟩ := bind_ok e
  obtain ⟨ds, ρ2, e2, e⟩ := bind_ok e
  obtain ⟨l2, rfl⟩ := opt_ok e2
  obtain ⟨l3, rfl⟩ := opt_ok e
  obtain ⟨rfl, l4⟩ := few_ok l3
  refine ⟨A, ρ, rs, _, S, e1, fun vs H1 S1 m1 q1 => ?_⟩
  have rd := imms_rd q1 l2
  exact ⟨by rw [rd.len]; exact l4, fun p hp => fresh_list S1 m1 rd hp (back_none S m1 S1 hp) q⟩⟩
theorem Sts.show {G : Gp} {F : Fm} {A : Own} {σ : St} {ρ : Rho} {H : Hp} {p : Addr} (S : Sts G (F.hide p) A σ ρ H) : Sts G F A σ ρ H := by
  have key : Same (hid (zs (F.hide p) A) H) (hid (zs F A) H) := hid_less fun a h => by
    rcases mem_zs.mp h with h | h
    · exact mem_zs.mpr (.inl (List.mem_cons_of_mem _ h))
    · exact mem_zs.mpr (.inr h)
  have ow : ∀ {i a xs}, OwAt G (F.hide p) A σ H i a xs → OwAt G F A σ H i a xs := fun ⟨h1, vs, h2, h3⟩ => ⟨h1, vs, h2, h3.mono key⟩
  refine ⟨S.len, fun i d h => ?_, fun i xs h => ?_, fun i xs h => ?_, S.own, S.uni, S.bor, S.keep, fun a h => S.zok a (List.mem_cons_of_mem _ h)⟩
  · obtain ⟨v, h1, h2⟩ := S.im i d h
    exact ⟨v, h1, h2.mono key⟩
  · obtain ⟨a, h1, h2, h3, h4⟩ := S.ow i xs h
    exact ⟨a, h1, fun z => h2 (List.mem_cons_of_mem _ z), h3, ow h4⟩
  · obtain ⟨a, h1, h2, h3⟩ := S.bo i xs h
    exact ⟨a, h1, h2, ow h3⟩
theorem show_same {F : Fm} {A : Own} {H : Hp} {p : Addr} : Same (hid (zs (F.hide p) A) H) (hid (zs F A) H) := hid_less fun a h => by
  rcases mem_zs.mp h with h | h
  · exact mem_zs.mpr (.inl (List.mem_cons_of_mem _ h))
  · exact mem_zs.mpr (.inr h)
def eN (f : M (List D)) : ES := M.bind f fun xs => M.ret (.im (.lst xs))
theorem de_n {f : M (List D)} (h : DN X a f) : DE X a (eN f) := ⟨fun F => pe_imp (h.run F) fun σ H Q ⟨A, ρ, r, ρ', S, e, q⟩ => by
  obtain ⟨xs, ρ1, e1, e⟩ := bind_ok e
  obtain ⟨rfl, rfl⟩ := ret_ok e
  exact ⟨A, ρ, xs, _, S, e1, fun p vs H' S' h0 hz m _ hp rd => q _ H' S'.show m (.lst (SqL.of (hid_of hz hp)) (rd.mono show_same))⟩⟩
def looks (ρ : Rho) : List RV → Option (List D)
  | [] => some []
  | r :: rs => match look ρ r, looks ρ rs with
    | some d, some ds => some (d :: ds)
    | _, _ => none
def vals (rs : List RV) : M (List D) := fun ρ => match looks ρ rs with
  | some ds => .ok ds ρ
  | none => .no
theorem vals_ok {r : List RV} {ρ ρ' : Rho} {d : List D} (h : vals r ρ = .ok d ρ') : looks ρ r = some d ∧ ρ = ρ' := by
  unfold vals at h
  cases e : looks ρ r with
  | none => rw [e] at h; cases h
  | some x => rw [e] at h; cases h; exact ⟨rfl, rfl⟩
theorem looks_rt {G : Gp} {F : Fm} {A : Own} {σ : St} {ρ : Rho} {H : Hp} (S : Sts G F A σ ρ H) : ∀ {vs : List V} {rs : List RV} {ds : List D}, RRs G F A H vs rs → looks ρ rs = some ds → RTs G (zs F A) H vs ds
  | _, _, _, .nil, e => by cases e; exact .nil
  | _, _, ds, .cons a b, e => by
    simp only [looks] at e
    split at e
    · rename_i d xs q1 q2
      cases e
      exact .cons (look_rt S a q1) (looks_rt S b q2)
    · cases e
def eCall (g : List D → Option D) (fs : M (List RV)) : ES := M.bind fs fun rs => M.bind (vals rs) fun ds => M.bind (M.opt (g ds)) fun d => M.ret (.im d)
theorem tCB_of {G : Gp} {F : Fm} {r : List V → Hp → VK → Prop} {g : List D → Option D} {σ : St} {H : Hp} {Q : VK} (h2 : ∀ (Z : List Addr) (H : Hp) (xs : List V) (ds : List D) (d : D) (Q : VK), ZOk Z H → RTs G Z H xs ds → g ds = some d →
    (∀ v H', Same H H' → RD G (hid Z H') v d → Q v H') → r xs H Q) (h : tD G F (eCall g fs) σ H Q) : tCB r (tDs G F fs) σ H Q := by
  obtain ⟨A, ρ, rr, ρ', S, e, q⟩ := h
  obtain ⟨rs, ρ1, e1, e⟩ := bind_ok e
  obtain ⟨ds, ρ2, e2, e⟩ := bind_ok e
  obtain ⟨l2, rfl⟩ := vals_ok e2
  obtain ⟨d, ρ3, e3, e⟩ := bind_ok e
  obtain ⟨l3, rfl⟩ := opt_ok e3
  obtain ⟨rfl, rfl⟩ := ret_ok e
  refine ⟨A, ρ, rs, _, S, e1, fun vs H1 S1 m1 r1 => ?_⟩
  exact h2 (zs F A) H1 vs ds d Q S1.zall (looks_rt S1 r1 l2) l3 fun v H' sm rd => q v H' (S1.same sm) (m1.trans (Stp.of sm)) rd
variable {x : Str} {id T : String} {p : Pos} {g : List D → Option D}
theorem de_callB (hc : CallD X (.builtin id) g) (hg : Gl X x) (hm : X.mg x = none) (hv : bootBuiltins x = some (.builtin id)) (ha : DA X (a :: es) fs) (hn : x ≠ "__name__" := by decide) (hdb : (x == ("__debug__" : Str)) = false := by decide)
    (he : starEach (a :: es) X.env = (false, eval a X.env) :: starEach es X.env := by rfl) (hpl : (backTo pos (starEach es X.env)).any (·.1) = false := by rfl) : DE X (.Call (.Name x p) (a :: es) [] pos) (eCall g fs) := ⟨fun F => by
  obtain ⟨r, h1, h2⟩ := hc
  exact pe_imp (pe_callB h1 hg hm hv (ha.run F) hn hdb he hpl) fun σ H Q h => tCB_of h2 h⟩
theorem de_callTy (hc : CallD X (.type T) g) (hg : Gl X x) (hm : X.mg x = none) (hv : bootBuiltins x = some (.type T)) (ha : DA X (a :: es) fs) (hn : x ≠ "__name__" := by decide) (hdb : (x == ("__debug__" : Str)) = false := by decide)
    (he : starEach (a :: es) X.env = (false, eval a X.env) :: starEach es X.env := by rfl) (hpl : (backTo pos (starEach es X.env)).any (·.1) = false := by rfl) : DE X (.Call (.Name x p) (a :: es) [] pos) (eCall g fs) := ⟨fun F => by
  obtain ⟨r, h1, h2⟩ := hc
  exact pe_imp (pe_callTy h1 hg hm hv (ha.run F) hn hdb he hpl) fun σ H Q h => tCB_of h2 h⟩
def CallN (X : Cx) (f : Value) (g : List D → Option (List D)) : Prop := ∃ r, CallR X f r ∧ ∀ (Z : List Addr) (H : Hp) (xs : List V) (ds es : List D) (Q : VK), ZOk Z H → RTs (Gx X) Z H xs ds → g ds = some es →
  (∀ p vs, H p = none → RDs (Gx X) (hid Z H) vs es → Q (.ref p) (upd H p (.lst vs))) → r xs H Q
def nCall (g : List D → Option (List D)) (fs : M (List RV)) : M (List D) := M.bind fs fun rs => M.bind (vals rs) fun ds => M.opt (g ds)
theorem tCN_of {G : Gp} {F : Fm} {r : List V → Hp → VK → Prop} {g : List D → Option (List D)} {σ : St} {H : Hp} {Q : VK} (h2 : ∀ (Z : List Addr) (H : Hp) (xs : List V) (ds es : List D) (Q : VK), ZOk Z H → RTs G Z H xs ds → g ds = some es →
    (∀ p vs, H p = none → RDs G (hid Z H) vs es → Q (.ref p) (upd H p (.lst vs))) → r xs H Q) (h : tN G F (nCall g fs) σ H Q) : tCB r (tDs G F fs) σ H Q := by
  obtain ⟨A, ρ, rr, ρ', S, e, q⟩ := h
  obtain ⟨rs, ρ1, e1, e⟩ := bind_ok e
  obtain ⟨ds, ρ2, e2, e⟩ := bind_ok e
  obtain ⟨l2, rfl⟩ := vals_ok e2
  obtain ⟨l3, rfl⟩ := opt_ok e
  refine ⟨A, ρ, rs, _, S, e1, fun vs H1 S1 m1 r1 => ?_⟩
  exact h2 (zs F A) H1 vs ds rr Q S1.zall (looks_rt S1 r1 l2) l3 fun p vs hp rd => fresh_list S1 m1 rd hp (back_none S m1 S1 hp) q
variable {gn : List D → Option (List D)}
theorem dn_callB (hc : CallN X (.builtin id) gn) (hg : Gl X x) (hm : X.mg x = none) (hv : bootBuiltins x = some (.builtin id)) (ha : DA X (a :: es) fs) (hn : x ≠ "__name__" := by decide) (hdb : (x == ("__debug__" : Str)) = false := by decide)
    (he : starEach (a :: es) X.env = (false, eval a X.env) :: starEach es X.env := by rfl) (hpl : (backTo pos (starEach es X.env)).any (·.1) = false := by rfl) : DN X (.Call (.Name x p) (a :: es) [] pos) (nCall gn fs) := ⟨fun F => by
  obtain ⟨r, h1, h2⟩ := hc
  exact pe_imp (pe_callB h1 hg hm hv (ha.run F) hn hdb he hpl) fun σ H Q h => tCN_of h2 h⟩
theorem dn_callTy (hc : CallN X (.type T) gn) (hg : Gl X x) (hm : X.mg x = none) (hv : bootBuiltins x = some (.type T)) (ha : DA X (a :: es) fs) (hn : x ≠ "__name__" := by decide) (hdb : (x == ("__debug__" : Str)) = false := by decide)
    (he : starEach (a :: es) X.env = (false, eval a X.env) :: starEach es X.env := by rfl) (hpl : (backTo pos (starEach es X.env)).any (·.1) = false := by rfl) : DN X (.Call (.Name x p) (a :: es) [] pos) (nCall gn fs) := ⟨fun F => by
  obtain ⟨r, h1, h2⟩ := hc
  exact pe_imp (pe_callTy h1 hg hm hv (ha.run F) hn hdb he hpl) fun σ H Q h => tCN_of h2 h⟩
end
end Dv
namespace Dv
open PySem PySem.Spec PyProof.Rows L2
def drop1 (A : Own) (i : Nat) : Own := A.filter fun p => p.1 ≠ i
theorem mem_drop1 {A : Own} {i j : Nat} {a : Addr} : (j, a) ∈ drop1 A i ↔ (j, a) ∈ A ∧ j ≠ i := by
  unfold drop1
  rw [List.mem_filter]
  simp
theorem zs_drop1 {F : Fm} {A : Own} {i : Nat} : ∀ a ∈ zs F (drop1 A i), a ∈ zs F A := fun a h => by
  rcases mem_zs.mp h with h | ⟨j, h⟩
  · exact mem_zs.mpr (.inl h)
  · exact mem_zs.mpr (.inr ⟨j, (mem_drop1.mp h).1⟩)
def setIm (i : Nat) (d : D) : M Unit := fun ρ => match ρ[i]? with
  | some (some (.bo _)) => .no
  | some _ => .ok () (ρ.set i (some (.im d)))
  | none => .no
theorem setIm_ok {i : Nat} {d : D} {ρ ρ' : Rho} {u : Unit} (h : setIm i d ρ = .ok u ρ') : i < ρ.length ∧ (∀ xs, ρ[i]? ≠ some (some (.bo xs))) ∧ ρ' = ρ.set i (some (.im d)) := by
  unfold setIm at h
  split at h
  · cases h
  · rename_i x q1 q2
    cases h
    refine ⟨?_, fun xs z => ?_, rfl⟩
    · by_cases z : i < ρ.length
      · exact z
      · rw [List.getElem?_eq_none (by omega)] at q2; cases q2
    · exact q1 xs (Option.some.inj (q2.symm.trans z))
  · cases h
theorem Sts.set {G : Gp} {F : Fm} {A : Own} {σ : St} {ρ ρ' : Rho} {H : Hp} {i : Nat} {d : D} {v : V} {u : Unit} (S : Sts G F A σ ρ H) (h : setIm i d ρ = .ok u ρ') (r : RD G (hid (zs F A) H) v d) :
    Sts G F (drop1 A i) (σ.set i (some v)) ρ' H ∧ Same (hid (zs F A) H) (hid (zs F (drop1 A i)) H) := by
  obtain ⟨hi, hb, rfl⟩ := setIm_ok h
  have key : Same (hid (zs F A) H) (hid (zs F (drop1 A i)) H) := hid_less zs_drop1
  have hs : i < σ.length := by rw [S.len]; exact hi
  have ow : ∀ {j a xs}, j ≠ i → OwAt G F A σ H j a xs → OwAt G F (drop1 A i) (σ.set i (some v)) H j a xs := fun {j a xs} hj ⟨h1, vs, h2, h3⟩ => ⟨by rw [List.getElem?_set_ne (Ne.symm hj)]; exact h1, vs, h2, h3.mono key⟩
  refine ⟨⟨by rw [List.length_set, List.length_set]; exact S.len, fun j e hj => ?_, fun j xs hj => ?_, fun j xs hj => ?_, fun j a hj => ?_, fun j k a b h1 h2 => S.uni j k a b (mem_drop1.mp h1).1 (mem_drop1.mp h2).1, fun j a hj => ?_, S.keep, S.zok⟩, key⟩
  · by_cases z : j = i
    · subst z
      rw [List.getElem?_set_self hi] at hj
      cases hj
      exact ⟨v, by rw [List.getElem?_set_self hs], r.mono key⟩
    · rw [List.getElem?_set_ne (Ne.symm z)] at hj
      obtain ⟨w, h1, h2⟩ := S.im j e hj
      exact ⟨w, by rw [List.getElem?_set_ne (Ne.symm z)]; exact h1, h2.mono key⟩
  · by_cases z : j = i
    · subst z
      rw [List.getElem?_set_self hi] at hj
      cases hj
    · rw [List.getElem?_set_ne (Ne.symm z)] at hj
      obtain ⟨a, h1, h2, h3, h4⟩ := S.ow j xs hj
      exact ⟨a, mem_drop1.mpr ⟨h1, z⟩, h2, h3, ow z h4⟩
  · by_cases z : j = i
    · subst z
      rw [List.getElem?_set_self hi] at hj
      cases hj
    · rw [List.getElem?_set_ne (Ne.symm z)] at hj
      obtain ⟨a, h1, h2, h3⟩ := S.bo j xs hj
      exact ⟨a, mem_drop1.mpr ⟨h1, z⟩, h2, ow z h3⟩
  · obtain ⟨h1, z⟩ := mem_drop1.mp hj
    rw [List.getElem?_set_ne (Ne.symm z)]
    exact S.own j a h1
  · obtain ⟨h1, xs, h2⟩ := S.bor j a hj
    have z : j ≠ i := fun z => hb xs (z ▸ h2)
    exact ⟨mem_drop1.mpr ⟨h1, z⟩, xs, by rw [List.getElem?_set_ne (Ne.symm z)]; exact h2⟩
def setOw (i : Nat) (xs : List D) : M Unit := fun ρ => match ρ[i]? with
  | some (some (.bo _)) => .no
  | some _ => .ok () (ρ.set i (some (.ow xs)))
  | none => .no
theorem setOw_ok {i : Nat} {d : List D} {ρ ρ' : Rho} {u : Unit} (h : setOw i d ρ = .ok u ρ') : i < ρ.length ∧ (∀ xs, ρ[i]? ≠ some (some (.bo xs))) ∧ ρ' = ρ.set i (some (.ow d)) := by
  unfold setOw at h
  split at h
  · cases h
  · rename_i x q1 q2
    cases h
    refine ⟨?_, fun xs z => ?_, rfl⟩
    · by_cases z : i < ρ.length
      · exact z
      · rw [List.getElem?_eq_none (by omega)] at q2; cases q2
    · exact q1 xs (Option.some.inj (q2.symm.trans z))
  · cases h
theorem Sts.setN {G : Gp} {F : Fm} {A : Own} {σ : St} {ρ ρ' : Rho} {H : Hp} {i : Nat} {xs : List D} {vs : List V} {p : Addr} {u : Unit} (S : Sts G (F.hide p) A σ ρ H) (h0 : F.H0 p = none) (hz : p ∉ zs F A) (hp : H p = some (.lst vs)) (r : RDs G (hid (zs (F.hide p) A) H) vs xs) (h : setOw i xs ρ = .ok u ρ') :
    Sts G F ((i, p) :: drop1 A i) (σ.set i (some (.ref p))) ρ' H ∧ Same (hid (zs (F.hide p) A) H) (hid (zs F ((i, p) :: drop1 A i)) H) := by
  obtain ⟨hi, hb, rfl⟩ := setOw_ok h
  have key : Same (hid (zs (F.hide p) A) H) (hid (zs F ((i, p) :: drop1 A i)) H) := hid_less fun a h => by
    rcases mem_zs.mp h with h | ⟨j, h⟩
    · exact mem_zs.mpr (.inl (List.mem_cons_of_mem _ h))
    · rcases List.mem_cons.mp h with h | h
      · cases h; exact mem_zs.mpr (.inl List.mem_cons_self)
      · exact mem_zs.mpr (.inr ⟨j, (mem_drop1.mp h).1⟩)
  have hs : i < σ.length := by rw [S.len]; exact hi
  have np : ∀ j a, (j, a) ∈ A → a ≠ p := fun j a h z => hz (mem_zs.mpr (.inr ⟨j, z ▸ h⟩))
  have ow : ∀ {j a ys}, j ≠ i → OwAt G (F.hide p) A σ H j a ys → OwAt G F ((i, p) :: drop1 A i) (σ.set i (some (.ref p))) H j a ys := fun {j a ys} hj ⟨h1, vs, h2, h3⟩ => ⟨by rw [List.getElem?_set_ne (Ne.symm hj)]; exact h1, vs, h2, h3.mono key⟩
  refine ⟨⟨by rw [List.length_set, List.length_set]; exact S.len, fun j e hj => ?_, fun j ys hj => ?_, fun j ys hj => ?_, fun j a hj => ?_, fun j k a b h1 h2 => ?_, fun j a hj => ?_, S.keep, fun a h => S.zok a (List.mem_cons_of_mem _ h)⟩, key⟩
  · by_cases z : j = i
    · subst z
      rw [List.getElem?_set_self hi] at hj
      cases hj
    · rw [List.getElem?_set_ne (Ne.symm z)] at hj
      obtain ⟨w, h1, h2⟩ := S.im j e hj
      exact ⟨w, by rw [List.getElem?_set_ne (Ne.symm z)]; exact h1, h2.mono key⟩
  · by_cases z : j = i
    · subst z
      rw [List.getElem?_set_self hi] at hj
      cases hj
      exact ⟨p, List.mem_cons_self, fun z => hz (mem_zs.mpr (.inl z)), h0, by rw [List.getElem?_set_self hs], vs, hp, r.mono key⟩
    · rw [List.getElem?_set_ne (Ne.symm z)] at hj
      obtain ⟨a, h1, h2, h3, h4⟩ := S.ow j ys hj
      exact ⟨a, List.mem_cons_of_mem _ (mem_drop1.mpr ⟨h1, z⟩), fun y => h2 (List.mem_cons_of_mem _ y), h3, ow z h4⟩
  · by_cases z : j = i
    · subst z
      rw [List.getElem?_set_self hi] at hj
      cases hj
    · rw [List.getElem?_set_ne (Ne.symm z)] at hj
      obtain ⟨a, h1, h2, h3⟩ := S.bo j ys hj
      exact ⟨a, List.mem_cons_of_mem _ (mem_drop1.mpr ⟨h1, z⟩), h2, ow z h3⟩
  · rcases List.mem_cons.mp hj with hj | hj
    · cases hj
      exact ⟨xs, .inl (List.getElem?_set_self hi)⟩
    · obtain ⟨h1, z⟩ := mem_drop1.mp hj
      rw [List.getElem?_set_ne (Ne.symm z)]
      exact S.own j a h1
  · rcases List.mem_cons.mp h1 with e1 | h1
    · cases e1
      rcases List.mem_cons.mp h2 with e2 | h2
      · cases e2; simp
      · obtain ⟨g1, g2⟩ := mem_drop1.mp h2
        exact ⟨fun z => absurd z.symm g2, fun z => absurd z.symm (np k b g1)⟩
    · obtain ⟨g1, g2⟩ := mem_drop1.mp h1
      rcases List.mem_cons.mp h2 with e2 | h2
      · cases e2
        exact ⟨fun z => absurd z g2, fun z => absurd z (np j a g1)⟩
      · exact S.uni j k a b g1 (mem_drop1.mp h2).1
  · obtain ⟨h1, ys, h2⟩ := S.bor j a hj
    have z : j ≠ i := fun z => hb ys (z ▸ h2)
    exact ⟨List.mem_cons_of_mem _ (mem_drop1.mpr ⟨h1, z⟩), ys, by rw [List.getElem?_set_ne (Ne.symm z)]; exact h2⟩
inductive IV where
  | im (d : D)
  | tw (ds : List D)
def RI (G : Gp) (Z : List Addr) (H : Hp) (v : V) : IV → Prop
  | .im d => RD G (hid Z H) v d
  | .tw ds => ∃ a vs, v = .ref a ∧ SqT G.K H a vs ∧ RDs G (hid Z H) vs ds
def dropL (A : Own) (sl : List Nat) : Own := sl.foldl drop1 A
theorem dropL_nil {A : Own} : dropL A [] = A := rfl
theorem mem_dropL : ∀ {sl : List Nat} {A : Own} {j : Nat} {a : Addr}, (j, a) ∈ dropL A sl ↔ (j, a) ∈ A ∧ j ∉ sl
  | [], A, j, a => by simp [dropL]
  | i :: sl, A, j, a => by
    show (j, a) ∈ dropL (drop1 A i) sl ↔ _
    rw [mem_dropL, mem_drop1]
    simp [and_assoc]
def tG (G : Gp) (F : Fm) (sl : List Nat) (g : IV → M Unit) : TG := fun v σ H Q => ∃ A ρ d ρ', Sts G F A σ ρ H ∧ RI G (zs F A) H v d ∧ g d ρ = .ok () ρ' ∧
  ∀ σ', Sts G F (dropL A sl) σ' ρ' H → Same (hid (zs F A) H) (hid (zs F (dropL A sl)) H) → σ'.length = σ.length → (∀ j, j ∉ sl → σ'[j]? = σ[j]?) → Q σ' H
structure DG (X : Cx) (tg : Expr) (sl : List Nat) (g : IV → M Unit) : Prop where
  run : ∀ F, PG X tg (tG (Gx X) F sl g)
theorem pg_imp {X : Cx} {e : Expr} {t t' : TG} (h : PG X e t) (i : ∀ v σ H Q, t' v σ H Q → t v σ H Q) : PG X e t' := ⟨fun pins s σ H v u Q I r q => h.run pins s σ H v u Q I r (i v σ H Q q)⟩
def gSet (i : Nat) : IV → M Unit
  | .im d => setIm i d
  | .tw _ => fun _ => .no
theorem dg_name {X : Cx} {i : Nat} {e : Expr} (h : PG X e (gName i)) : DG X e [i] (gSet i) := ⟨fun F => pg_imp h fun v σ H Q ⟨A, ρ, d, ρ', S, r, e, q⟩ => by
  cases d with
  | tw ds => cases e
  | im d =>
    obtain ⟨S', m⟩ := S.set (v := v) e r
    exact q _ S' m (by rw [List.length_set]) fun j hj => by rw [List.getElem?_set_ne]; intro z; exact hj (by rw [z]; exact List.mem_cons_self)⟩
def tGs (G : Gp) (F : Fm) (sl : List Nat) (g : List D → M Unit) : TGs := fun vs σ H Q => ∃ A ρ ds ρ', Sts G F A σ ρ H ∧ RDs G (hid (zs F A) H) vs ds ∧ g ds ρ = .ok () ρ' ∧
  ∀ σ', Sts G F (dropL A sl) σ' ρ' H → Same (hid (zs F A) H) (hid (zs F (dropL A sl)) H) → σ'.length = σ.length → (∀ j, j ∉ sl → σ'[j]? = σ[j]?) → Q σ' H
structure DGs (X : Cx) (ts : List Expr) (sl : List Nat) (g : List D → M Unit) : Prop where
  run : ∀ F, PGs X ts (tGs (Gx X) F sl g)
theorem pgs_imp {X : Cx} {e : List Expr} {t t' : TGs} (h : PGs X e t) (i : ∀ v σ H Q, t' v σ H Q → t v σ H Q) : PGs X e t' := ⟨fun pins s σ H v u Q I r q => h.run pins s σ H v u Q I r (i v σ H Q q)⟩
def gsNil : List D → M Unit
  | [] => M.ret ()
  | _ => fun _ => .no
def gsCons (g : IV → M Unit) (gs : List D → M Unit) : List D → M Unit
  | d :: ds => M.bind (g (.im d)) fun _ => gs ds
  | [] => fun _ => .no
theorem dgs_nil {X : Cx} : DGs X [] [] gsNil := ⟨fun F => pgs_imp pgs_nil fun vs σ H Q ⟨A, ρ, ds, ρ', S, r, e, q⟩ => by
  cases r with
  | nil =>
    obtain ⟨_, rfl⟩ := ret_ok e
    exact ⟨rfl, q σ S (Same.refl _) rfl fun _ _ => rfl⟩
  | cons _ _ => cases e⟩
theorem dgs_cons {X : Cx} {e : Expr} {es : List Expr} {sl sl' : List Nat} {g : IV → M Unit} {gs : List D → M Unit} (h1 : DG X e sl g) (h2 : DGs X es sl' gs)
    (hs : (assignEach (e :: es) X.env).map (·.2) = assign e X.env :: (assignEach es X.env).map (·.2) := by rfl) : DGs X (e :: es) (sl ++ sl') (gsCons g gs) := ⟨fun F => pgs_imp (pgs_cons (h1.run F) (h2.run F) hs) fun vs σ H Q ⟨A, ρ, ds, ρ', S, r, e, q⟩ => by
  cases r with
  | nil => cases e
  | cons r1 r2 =>
    obtain ⟨_, ρ1, e1, e⟩ := bind_ok e
    refine ⟨_, _, rfl, A, ρ, .im _, ρ1, S, r1, e1, fun σ1 S1 m1 l1 k1 => ?_⟩
    refine ⟨_, ρ1, _, ρ', S1, RDs.mono m1 r2, e, fun σ2 S2 m2 l2 k2 => ?_⟩
    have ed : dropL (dropL A sl) sl' = dropL A (sl ++ sl') := by unfold dropL; rw [List.foldl_append]
    rw [ed] at S2 m2
    refine q σ2 S2 (m1.trans m2) (l2.trans l1) fun j hj => ?_
    rw [k2 j fun z => hj (List.mem_append_right _ z), k1 j fun z => hj (List.mem_append_left _ z)]⟩
def gTupD (n : Nat) (gs : List D → M Unit) : IV → M Unit
  | .im (.tup ds) => if ds.length = n then gs ds else fun _ => .no
  | .tw ds => if ds.length = n then gs ds else fun _ => .no
  | _ => fun _ => .no
theorem dg_tup {X : Cx} {es : List Expr} {k n : Nat} {sl : List Nat} {gs : List D → M Unit} {pos : Pos} (hc : X.calm = true) (h : DGs X es sl gs)
    (hn : (assignEach es X.env).length = n := by rfl) (hst : (assignEach es X.env).findIdx? (·.1) = none := by rfl) : DG X (.Tuple es k pos) sl (gTupD n gs) := ⟨fun F => pg_imp (pg_tup hc (h.run F) hn hst) fun v σ H Q ⟨A, ρ, d, ρ', S, r, e, q⟩ => by
  have fin : ∀ {a vs ds}, v = .ref a → SqT X.K H a vs → RDs (Gx X) (hid (zs F A) H) vs ds → (if ds.length = n then gs ds else fun _ => .no) ρ = .ok () ρ' → gTup X.K n (tGs (Gx X) F sl gs) v σ H Q := fun {a vs ds} e1 e2 r e => by
    by_cases z : ds.length = n
    · rw [if_pos z] at e
      exact ⟨a, vs, e1, e2, by rw [r.len]; exact z, A, ρ, ds, ρ', S, r, e, q⟩
    · rw [if_neg z] at e; cases e
  cases d with
  | tw ds =>
    obtain ⟨a, vs, e1, e2, r⟩ := r
    exact fin e1 e2 r e
  | im d =>
    cases d with
    | tup ds =>
      cases r with
      | tup h1 h2 => exact fin rfl (Same.tupq hid_full h1.sq) h2 e
    | _ => cases e⟩
def Walk (G : Gp) (Hv : Hp) (J : It) (ds : List IV) : Prop := ∀ (i : Nat) (H : Hp) (Z : List Addr), ZOk Z H → Same Hv (hid Z H) →
  (∀ d, ds[i]? = some d → J.go i H ∧ ∀ x H', J.yld i H x H' → Same H H' ∧ RI G Z H' x d) ∧ (ds.length ≤ i → J.stop i H)
def tI (G : Gp) (F : Fm) (f : M (List IV)) : TI := fun σ H R => ∃ A ρ ds ρ', Sts G F A σ ρ H ∧ f ρ = .ok ds ρ' ∧
  ∀ J H', Sts G F A σ ρ' H' → Stp A H H' → Walk G (hid (zs F A) H') J ds → R J H'
structure DI (X : Cx) (tg iter : Expr) (f : M (List IV)) : Prop where
  run : ∀ F, PI X tg iter (tI (Gx X) F f)
theorem pi_imp {X : Cx} {e i : Expr} {t t' : TI} (h : PI X e i t) (j : ∀ σ H Q, t' σ H Q → t σ H Q) : PI X e i t' := ⟨fun pins s σ H R I q => h.run pins s σ H R I (j σ H R q)⟩
theorem walk_list {G : Gp} {Hv : Hp} {a : Addr} {vs : List V} {ds : List D} (h : SqL G.K Hv a vs) (r : RDs G Hv vs ds) : Walk G Hv (Itl G.K a) (ds.map .im) := fun i H Z z sm => by
  have hs : SqL G.K H a vs := hid_full.seq (sm.seq h)
  refine ⟨fun d hd => ?_, fun hl => ⟨vs, hs, by rw [List.length_map] at hl; rw [r.len]; exact hl⟩⟩
  rw [List.getElem?_map] at hd
  obtain ⟨d', e1, e2⟩ := Option.map_eq_some_iff.mp hd
  subst e2
  obtain ⟨v, h1, h2⟩ := r.get e1
  refine ⟨⟨vs, v, hs, h1⟩, fun x H' ⟨e, y⟩ => ?_⟩
  subst e
  have : x = v := Option.some.inj ((y vs hs).symm.trans h1)
  subst this
  exact ⟨Same.refl _, h2.mono sm⟩
theorem walk_tup {G : Gp} {Hv : Hp} {a : Addr} {vs : List V} {ds : List D} (h : SqT G.K Hv a vs) (r : RDs G Hv vs ds) : Walk G Hv (Itt G.K a) (ds.map .im) := fun i H Z z sm => by
  have hs : SqT G.K H a vs := Same.tupq hid_full (Same.tupq sm h)
  refine ⟨fun d hd => ?_, fun hl => ⟨vs, hs, by rw [List.length_map] at hl; rw [r.len]; exact hl⟩⟩
  rw [List.getElem?_map] at hd
  obtain ⟨d', e1, e2⟩ := Option.map_eq_some_iff.mp hd
  subst e2
  obtain ⟨v, h1, h2⟩ := r.get e1
  refine ⟨⟨vs, v, hs, h1⟩, fun x H' ⟨e, y⟩ => ?_⟩
  subst e
  have : x = v := Option.some.inj ((y vs hs).symm.trans h1)
  subst this
  exact ⟨Same.refl _, h2.mono sm⟩
theorem walk_range {G : Gp} {Hv : Hp} (lo : Int) (n : Nat) : Walk G Hv (Itr lo n) ((List.range n).map fun (i : Nat) => .im (.int (lo + i))) := fun i H Z z sm => by
  refine ⟨fun d hd => ?_, fun hl => by rw [List.length_map, List.length_range] at hl; exact hl⟩
  rw [List.getElem?_map] at hd
  obtain ⟨j, e1, e2⟩ := Option.map_eq_some_iff.mp hd
  have hj := List.getElem?_eq_some_iff.mp e1
  obtain ⟨hj1, hj2⟩ := hj
  rw [List.length_range] at hj1
  rw [List.getElem_range] at hj2
  subst hj2 e2
  refine ⟨hj1, fun x H' ⟨e, y⟩ => ?_⟩
  subst e y
  exact ⟨Same.refl _, .int _⟩
section
variable {X : Cx} {tg a b : Expr} {fa fb : ES} {es : List Expr} {fs : M (List RV)} {p pos : Pos}
def seqL : D → Option (List D)
  | .lst xs => some xs
  | _ => none
def seqT : D → Option (List D)
  | .tup xs => some xs
  | _ => none
def iSeq (fa : ES) : M (List IV) := M.bind fa fun r => M.bind (imm r) fun d => match d with
  | .lst xs => M.ret (xs.map .im)
  | .tup xs => M.ret (xs.map .im)
  | _ => fun _ => .no
theorem pi_or {X : Cx} {tg it : Expr} {t u : TI} (h : PI X tg it t) (k : PI X tg it u) : PI X tg it (fun σ H R => t σ H R ∨ u σ H R) := ⟨fun pins s σ H R I q => by
  rcases q with q | q
  · exact h.run pins s σ H R I q
  · exact k.run pins s σ H R I q⟩
theorem di_seq (ha : DE X a fa) : DI X tg a (iSeq fa) := ⟨fun F => pi_imp (pi_or (pi_list (ha.run F)) (pi_tup (ha.run F))) fun σ H R ⟨A, ρ, ds, ρ', S, e, q⟩ => by
  obtain ⟨r, ρ1, e1, e⟩ := bind_ok e
  obtain ⟨d, ρ2, e2, e⟩ := bind_ok e
  obtain ⟨rfl, rfl⟩ := imm_ok e2
  cases d with
  | lst xs =>
    obtain ⟨rfl, rfl⟩ := ret_ok e
    refine .inl ⟨A, ρ, _, _, S, e1, fun v H1 S1 m1 r1 => ?_⟩
    cases r1 with
    | lst h1 h2 => exact ⟨_, rfl, ⟨_, hid_full.seq h1⟩, q _ _ S1 m1 (walk_list h1 h2)⟩
  | tup xs =>
    obtain ⟨rfl, rfl⟩ := ret_ok e
    refine .inr ⟨A, ρ, _, _, S, e1, fun v H1 S1 m1 r1 => ?_⟩
    cases r1 with
    | tup h1 h2 => exact ⟨_, rfl, ⟨_, Same.tupq hid_full h1.sq⟩, q _ _ S1 m1 (walk_tup h1.sq h2)⟩
  | _ => cases e⟩
def isInt : D → Option Int
  | .int i => some i
  | _ => none
def rangeOk (i : Int) : Bool := decide (-(2 ^ 62) ≤ i) && decide (i < 2 ^ 62)
theorem rangeOk_of {i : Int} (h : rangeOk i = true) : -(2 ^ 62) ≤ i ∧ i < 2 ^ 62 := by
  unfold rangeOk at h
  rw [Bool.and_eq_true] at h
  exact ⟨of_decide_eq_true h.1, of_decide_eq_true h.2⟩
def rng1 : List D → Option (List IV)
  | [.int j] => if rangeOk j = true then some ((List.range j.toNat).map fun (i : Nat) => .im (.int (i : Int))) else none
  | _ => none
def iCall (g : List D → Option (List IV)) (fs : M (List RV)) : M (List IV) := M.bind fs fun rs => M.bind (vals rs) fun ds => M.opt (g ds)
theorem di_range1 (hg : Gl X "range") (hm : X.mg "range" = none) (ha : DA X [a] fs) (hs : starEach [a] X.env = [(false, eval a X.env)] := by rfl) : DI X tg (.Call (.Name "range" p) [a] [] pos) (iCall rng1 fs) := ⟨fun F => pi_imp (pi_range1 hg hm (ha.run F) hs) fun σ H R ⟨A, ρ, ds, ρ', S, e, q⟩ => by
  obtain ⟨rs, ρ1, e1, e⟩ := bind_ok e
  obtain ⟨xs, ρ2, e2, e⟩ := bind_ok e
  obtain ⟨l2, rfl⟩ := vals_ok e2
  obtain ⟨l3, rfl⟩ := opt_ok e
  refine ⟨A, ρ, rs, _, S, e1, fun vs H1 S1 m1 r1 => ?_⟩
  have rt := looks_rt S1 r1 l2
  unfold rng1 at l3
  split at l3
  · rename_i j
    by_cases z : rangeOk j = true
    · rw [if_pos z] at l3
      cases l3
      obtain ⟨v, rfl, r⟩ := rt.one
      obtain ⟨z1, z2⟩ := rangeOk_of z
      refine ⟨j, by rw [r.int], z1, z2, q _ _ S1 m1 ?_⟩
      have w := walk_range (G := Gx X) (Hv := hid (zs F A) H1) 0 j.toNat
      simpa using w
    · rw [if_neg z] at l3; cases l3
  · cases l3⟩
def rng2 : List D → Option (List IV)
  | [.int i, .int j] => if (rangeOk i && rangeOk j) = true then some ((List.range (j - i).toNat).map fun (k : Nat) => .im (.int (i + (k : Int)))) else none
  | _ => none
theorem di_range2 (hg : Gl X "range") (hm : X.mg "range" = none) (ha : DA X [a, b] fs) (hs : starEach [a, b] X.env = [(false, eval a X.env), (false, eval b X.env)] := by rfl) (hs2 : starEach [b] X.env = [(false, eval b X.env)] := by rfl) :
    DI X tg (.Call (.Name "range" p) [a, b] [] pos) (iCall rng2 fs) := ⟨fun F => pi_imp (pi_range2 hg hm (ha.run F) hs hs2) fun σ H R ⟨A, ρ, ds, ρ', S, e, q⟩ => by
  obtain ⟨rs, ρ1, e1, e⟩ := bind_ok e
  obtain ⟨xs, ρ2, e2, e⟩ := bind_ok e
  obtain ⟨l2, rfl⟩ := vals_ok e2
  obtain ⟨l3, rfl⟩ := opt_ok e
  refine ⟨A, ρ, rs, _, S, e1, fun vs H1 S1 m1 r1 => ?_⟩
  have rt := looks_rt S1 r1 l2
  unfold rng2 at l3
  split at l3
  · rename_i i j
    by_cases z : (rangeOk i && rangeOk j) = true
    · rw [if_pos z] at l3
      cases l3
      obtain ⟨v, u, rfl, r, r'⟩ := rt.two
      rw [Bool.and_eq_true] at z
      obtain ⟨z1, z2⟩ := rangeOk_of z.1
      obtain ⟨z3, z4⟩ := rangeOk_of z.2
      exact ⟨i, j, by rw [r.int, r'.int], ⟨z1, z2, z3, z4⟩, q _ _ S1 m1 (walk_range _ _)⟩
    · rw [if_neg z] at l3; cases l3
  · cases l3⟩
end
end Dv
namespace Dv
open PySem PySem.Spec PyProof.Rows L2
def okw (vs : List Nat) (ρ : Rho) : Bool := vs.all fun i => match ρ[i]? with
  | some (some (.ow _)) => false
  | some (some (.bo _)) => false
  | _ => true
def wipeR (ρ : Rho) : List Nat → Rho
  | [] => ρ
  | v :: vs => (wipeR ρ vs).set v none
def putB (ρ0 : Rho) : List Nat → Rho → Rho
  | [], ρ => ρ
  | v :: vs, ρ => (putB ρ0 vs ρ).set v (ρ0[v]?.getD none)
theorem wipeR_len (ρ : Rho) : ∀ vs, (wipeR ρ vs).length = ρ.length
  | [] => rfl
  | v :: vs => by unfold wipeR; rw [List.length_set, wipeR_len ρ vs]
theorem wipeR_some {ρ : Rho} {i : Nat} {x : SV} : ∀ {vs : List Nat}, (wipeR ρ vs)[i]? = some (some x) → ρ[i]? = some (some x) ∧ i ∉ vs
  | [], h => ⟨h, by simp⟩
  | v :: vs, h => by
    unfold wipeR at h
    by_cases hi : v = i
    · subst hi
      by_cases hv : v < (wipeR ρ vs).length
      · rw [List.getElem?_set_self hv] at h; cases h
      · rw [List.getElem?_eq_none (by rw [List.length_set]; omega)] at h; cases h
    · rw [List.getElem?_set_ne hi] at h
      obtain ⟨h1, h2⟩ := wipeR_some h
      exact ⟨h1, by simp only [List.mem_cons, not_or]; exact ⟨fun e => hi e.symm, h2⟩⟩
theorem wipeR_out {ρ : Rho} {i : Nat} : ∀ {vs : List Nat}, i ∉ vs → (wipeR ρ vs)[i]? = ρ[i]?
  | [], _ => rfl
  | v :: vs, h => by
    unfold wipeR
    rw [List.getElem?_set_ne fun e => h (by rw [e]; exact List.mem_cons_self), wipeR_out fun e => h (List.mem_cons_of_mem _ e)]
theorem putB_len (ρ0 : Rho) : ∀ vs ρ, (putB ρ0 vs ρ).length = ρ.length
  | [], _ => rfl
  | v :: vs, ρ => by unfold putB; rw [List.length_set, putB_len ρ0 vs ρ]
theorem putB_out {ρ0 : Rho} {i : Nat} : ∀ {vs : List Nat} {ρ : Rho}, i ∉ vs → (putB ρ0 vs ρ)[i]? = ρ[i]?
  | [], _, _ => rfl
  | v :: vs, ρ, h => by
    unfold putB
    rw [List.getElem?_set_ne fun e => h (by rw [e]; exact List.mem_cons_self), putB_out fun e => h (List.mem_cons_of_mem _ e)]
theorem putB_in {ρ0 : Rho} {i : Nat} : ∀ {vs : List Nat} {ρ : Rho}, i ∈ vs → i < ρ.length → (putB ρ0 vs ρ)[i]? = some (ρ0[i]?.getD none)
  | v :: vs, ρ, h, hl => by
    unfold putB
    by_cases z : v = i
    · subst z
      rw [List.getElem?_set_self (by rw [putB_len]; exact hl)]
    · rw [List.getElem?_set_ne z]
      exact putB_in ((List.mem_cons.mp h).resolve_left fun e => z e.symm) hl
theorem wipe_at {σ : St} {i : Nat} : ∀ {vs : List Nat}, i ∉ vs → (wipe σ vs)[i]? = σ[i]?
  | [], _ => rfl
  | v :: vs, h => by
    unfold wipe
    rw [List.getElem?_set_ne fun e => h (by rw [e]; exact List.mem_cons_self), wipe_at fun e => h (List.mem_cons_of_mem _ e)]
theorem wipe_in {σ : St} {i : Nat} : ∀ {vs : List Nat}, i ∈ vs → i < σ.length → (wipe σ vs)[i]? = some none
  | v :: vs, h, hl => by
    unfold wipe
    by_cases z : v = i
    · subst z
      rw [List.getElem?_set_self (by rw [wipe_length]; exact hl)]
    · rw [List.getElem?_set_ne z]
      exact wipe_in ((List.mem_cons.mp h).resolve_left fun e => z e.symm) hl
theorem wipe_eq {σ τ : St} {vs : List Nat} (hl : τ.length = σ.length) (h : ∀ j, j ∉ vs → τ[j]? = σ[j]?) : wipe τ vs = wipe σ vs := by
  apply List.ext_getElem?
  intro j
  by_cases z : j ∈ vs
  · by_cases hj : j < σ.length
    · rw [wipe_in z hj, wipe_in z (by omega)]
    · rw [List.getElem?_eq_none (by rw [wipe_length]; omega), List.getElem?_eq_none (by rw [wipe_length]; omega)]
  · rw [wipe_at z, wipe_at z, h j z]
section
variable {G : Gp} {F : Fm} {A : Own} {σ : St} {ρ ρ' ρ0 : Rho} {H H' : Hp} {vs : List Nat} {p : Addr}
theorem Sts.wipe (S : Sts G F A σ ρ H) (ha : ∀ i a, (i, a) ∈ A → i ∉ vs) : Sts G F A (L2.wipe σ vs) (wipeR ρ vs) H := by
  have ow : ∀ {j a ys}, j ∉ vs → OwAt G F A σ H j a ys → OwAt G F A (L2.wipe σ vs) H j a ys := fun {j a ys} hj ⟨h1, h2⟩ => ⟨by rw [wipe_at hj]; exact h1, h2⟩
  refine ⟨by rw [wipe_length, wipeR_len]; exact S.len, fun i d h => ?_, fun i xs h => ?_, fun i xs h => ?_, fun i a h => ?_, S.uni, fun i a h => ?_, S.keep, S.zok⟩
  · obtain ⟨h, z⟩ := wipeR_some h
    obtain ⟨v, h1, h2⟩ := S.im i d h
    exact ⟨v, by rw [wipe_at z]; exact h1, h2⟩
  · obtain ⟨h, z⟩ := wipeR_some h
    obtain ⟨a, h1, h2, h3, h4⟩ := S.ow i xs h
    exact ⟨a, h1, h2, h3, ow z h4⟩
  · obtain ⟨h, z⟩ := wipeR_some h
    obtain ⟨a, h1, h2, h4⟩ := S.bo i xs h
    exact ⟨a, h1, h2, ow z h4⟩
  · rw [wipeR_out (ha i a h)]
    exact S.own i a h
  · obtain ⟨h1, xs, h2⟩ := S.bor i a h
    exact ⟨h1, xs, by rw [wipeR_out (ha i a h1)]; exact h2⟩
theorem Sts.back {H0 : Hp} (S : Sts G F A (L2.wipe σ vs) ρ H) (S0 : Sts G F A σ ρ0 H0) (m : Same (hid (zs F A) H0) (hid (zs F A) H)) (ha : ∀ i a, (i, a) ∈ A → i ∉ vs) (hw : okw vs ρ0 = true) : Sts G F A σ (putB ρ0 vs ρ) H := by
  have hl : σ.length = ρ.length := by rw [← S.len, wipe_length]
  have ow : ∀ {j a ys}, j ∉ vs → OwAt G F A (L2.wipe σ vs) H j a ys → OwAt G F A σ H j a ys := fun {j a ys} hj ⟨h1, h2⟩ => ⟨by rw [wipe_at hj] at h1; exact h1, h2⟩
  have none_of : ∀ i, i ∈ vs → (∀ xs, ρ0[i]? ≠ some (some (.ow xs))) ∧ (∀ xs, ρ0[i]? ≠ some (some (.bo xs))) := fun i hi => by
    have q := List.all_eq_true.mp hw i hi
    constructor
    · intro xs e; rw [e] at q; cases q
    · intro xs e; rw [e] at q; cases q
  have at_in : ∀ {i x}, i ∈ vs → (putB ρ0 vs ρ)[i]? = some (some x) → ρ0[i]? = some (some x) := fun {i x} hi h => by
    have hlt : i < ρ.length := by
      by_cases z : i < ρ.length
      · exact z
      · rw [List.getElem?_eq_none (by rw [putB_len]; omega)] at h; cases h
    rw [putB_in hi hlt] at h
    have h := Option.some.inj h
    cases e : ρ0[i]? with
    | none => rw [e] at h; cases h
    | some y => rw [e] at h; rw [← h]; rfl
  refine ⟨by rw [putB_len]; exact hl, fun i d h => ?_, fun i xs h => ?_, fun i xs h => ?_, fun i a h => ?_, S.uni, fun i a h => ?_, S.keep, S.zok⟩
  · by_cases z : i ∈ vs
    · obtain ⟨v, h1, h2⟩ := S0.im i d (at_in z h)
      exact ⟨v, h1, h2.mono m⟩
    · rw [putB_out z] at h
      obtain ⟨v, h1, h2⟩ := S.im i d h
      rw [wipe_at z] at h1
      exact ⟨v, h1, h2⟩
  · by_cases z : i ∈ vs
    · exact absurd (at_in z h) ((none_of i z).1 xs)
    · rw [putB_out z] at h
      obtain ⟨a, h1, h2, h3, h4⟩ := S.ow i xs h
      exact ⟨a, h1, h2, h3, ow z h4⟩
  · by_cases z : i ∈ vs
    · exact absurd (at_in z h) ((none_of i z).2 xs)
    · rw [putB_out z] at h
      obtain ⟨a, h1, h2, h4⟩ := S.bo i xs h
      exact ⟨a, h1, h2, ow z h4⟩
  · rw [putB_out (ha i a h)]
    exact S.own i a h
  · obtain ⟨h1, xs, h2⟩ := S.bor i a h
    exact ⟨h1, xs, by rw [putB_out (ha i a h1)]; exact h2⟩
theorem hid_upd {Z : List Addr} {o : HO} (hp : p ∈ Z) : hid Z (upd H p o) = hid Z H := by
  funext a
  unfold hid
  by_cases z : a ∈ Z
  · rw [if_pos z, if_pos z]
  · rw [if_neg z, if_neg z, upd_ne fun e => z (by rw [e]; exact hp)]
theorem zs_hide {a : Addr} : a ∈ zs (F.hide p) A ↔ a = p ∨ a ∈ zs F A := by
  rw [mem_zs, mem_zs]
  show (a ∈ p :: F.Z ∨ _) ↔ _
  rw [List.mem_cons, or_assoc]
theorem Sts.hupd {o : HO} (S : Sts G (F.hide p) A σ ρ H) (h0 : F.H0 p = none) (hz : p ∉ zs F A) : Sts G (F.hide p) A σ ρ (upd H p o) := by
  have hm : p ∈ zs (F.hide p) A := zs_hide.mpr (.inl rfl)
  have np : ∀ j a, (j, a) ∈ A → a ≠ p := fun j a h z => hz (mem_zs.mpr (.inr ⟨j, z ▸ h⟩))
  have ow : ∀ {j a ys}, (j, a) ∈ A → OwAt G (F.hide p) A σ H j a ys → OwAt G (F.hide p) A σ (upd H p o) j a ys := fun {j a ys} hj ⟨h1, vs, h2, h3⟩ => ⟨h1, vs, by rw [upd_ne (np j a hj)]; exact h2, by rw [hid_upd hm]; exact h3⟩
  refine ⟨S.len, fun i d h => ?_, fun i xs h => ?_, fun i xs h => ?_, S.own, S.uni, S.bor, fun a u h1 h2 => ?_, fun a h => ?_⟩
  · obtain ⟨v, h1, h2⟩ := S.im i d h
    exact ⟨v, h1, by rw [hid_upd hm]; exact h2⟩
  · obtain ⟨a, h1, h2, h3, h4⟩ := S.ow i xs h
    exact ⟨a, h1, h2, h3, ow h1 h4⟩
  · obtain ⟨a, h1, h2, h4⟩ := S.bo i xs h
    exact ⟨a, h1, h2, ow h1 h4⟩
  · have ne : a ≠ p := fun e => by
      rw [e] at h1
      exact absurd ((show F.H0 p = some u from h1).symm.trans h0) (fun z => nomatch z)
    rw [upd_ne ne]
    exact S.keep a u h1 h2
  · by_cases z : a = p
    · rw [z, upd_same]; exact fun q => nomatch q
    · rw [upd_ne z]; exact S.zok a h
end
theorem dropL_same {A : Own} {sl vs : List Nat} (hsl : ∀ j ∈ sl, j ∈ vs) (ha : ∀ i a, (i, a) ∈ A → i ∉ vs) : dropL A sl = A := by
  induction sl with
  | nil => rfl
  | cons j sl ih =>
    show dropL (drop1 A j) sl = A
    have e : drop1 A j = A := by
      unfold drop1
      rw [List.filter_eq_self]
      rintro ⟨i, a⟩ h
      have : i ≠ j := fun z => ha i a h (z ▸ hsl j List.mem_cons_self)
      simpa using this
    rw [e]
    exact ih fun k hk => hsl k (List.mem_cons_of_mem _ hk)
structure DTs (X : Cx) (ifs : List Expr) (f : M Bool) : Prop where
  run : ∀ F, PTs X ifs (tT (Gx X) F f)
theorem pts_imp {X : Cx} {e : List Expr} {t t' : TT} (h : PTs X e t) (i : ∀ σ H Q, t' σ H Q → t σ H Q) : PTs X e t' := ⟨fun pins s σ H Q I q => h.run pins s σ H Q I (i σ H Q q)⟩
def bYes : M Bool := M.ret true
theorem dts_nil {X : Cx} : DTs X [] bYes := ⟨fun F => pts_imp pts_nil fun σ H Q ⟨A, ρ, b, ρ', S, e, q⟩ => by
  obtain ⟨rfl, rfl⟩ := ret_ok e
  exact q H S (Stp.refl _ _)⟩
theorem dts_one {X : Cx} {c : Expr} {g : M Bool} (h : DT X c g) : DTs X [c] g := ⟨fun F => pts_one (h.run F)⟩
def wipeM (vs : List Nat) : M Unit := fun ρ => .ok () (wipeR ρ vs)
def room (acc : List D) : Option Unit := if acc.length < 1000000 then some () else none
theorem room_ok {acc : List D} {u : Unit} (h : room acc = some u) : acc.length < sizeLine := by
  unfold room at h
  by_cases z : acc.length < 1000000
  · exact len_lt z
  · rw [if_neg z] at h; cases h
def lcLoop (vs : List Nat) (g : IV → M Unit) (gt : M Bool) (fe : ES) : List IV → List D → M (List D)
  | [], acc => M.ret acc
  | d :: ds, acc => M.bind (g d) fun _ => M.bind gt fun b => match b with
    | true => M.bind fe fun r => M.bind (imm r) fun x => M.bind (M.opt (room acc)) fun _ => M.bind (wipeM vs) fun _ => lcLoop vs g gt fe ds (acc ++ [x])
    | false => M.bind (wipeM vs) fun _ => lcLoop vs g gt fe ds acc
def nLc (vs : List Nat) (fi : M (List IV)) (g : IV → M Unit) (gt : M Bool) (fe : ES) : M (List D) := M.bind fi fun ds => fun ρ => match okw vs ρ with
  | true => match lcLoop vs g gt fe ds [] (wipeR ρ vs) with
    | .ok acc ρ' => .ok acc (putB ρ vs ρ')
    | .ex e ρ' => .ex e (putB ρ vs ρ')
    | .no => .no
  | false => .no
theorem stp_hide {F : Fm} {A : Own} {H H' : Hp} {p : Addr} (hp : H p = none) (m : Stp A H H') : Same (hid (zs F A) H) (hid (zs (F.hide p) A) H') := fun a o e => by
  obtain ⟨e1, e2⟩ := hid_some e
  refine hid_of (fun z => ?_) (m a o e2 fun i z => e1 (mem_zs.mpr (.inr ⟨i, z⟩)))
  rcases zs_hide.mp z with rfl | z
  · rw [hp] at e2; cases e2
  · exact e1 z
theorem stp_upd {A : Own} {H H' : Hp} {p : Addr} {o : HO} (hp : H p = none) (m : Stp A H H') : Stp A H (upd H' p o) := fun a u e n => by
  rw [upd_ne (ne_of_none e hp)]
  exact m a u e n
theorem lc_rd {G : Gp} {F : Fm} {vs sl : List Nat} {fi : M (List IV)} {g : IV → M Unit} {gt : M Bool} {fe : ES} {σ : St} {H : Hp} {Q : VK} (hsl : ∀ j ∈ sl, j ∈ vs) (h : tN G F (nLc vs fi g gt fe) σ H Q) :
    tLc (tI G F fi) (fun v σ H Q => ∃ F, tG G F sl g v σ H Q) (fun σ H Q => ∃ F, tT G F gt σ H Q) (fun σ H Q => ∃ F, tD G F fe σ H Q) vs σ H Q := by
  obtain ⟨A, ρ, res, ρ', S, e, q⟩ := h
  obtain ⟨ds, ρ1, e1, e⟩ := bind_ok e
  refine ⟨A, ρ, ds, ρ1, S, e1, fun J H1 S1 m1 wk D hD => ?_⟩
  cases ew : okw vs ρ1 with
  | false => rw [ew] at e; cases e
  | true =>
    rw [ew] at e
    dsimp only at e
    cases el : lcLoop vs g gt fe ds [] (wipeR ρ1 vs) with
    | no => rw [el] at e; cases e
    | ex x r => rw [el] at e; cases e
    | ok acc0 ρe =>
      rw [el] at e
      cases e
      have ha : ∀ i a, (i, a) ∈ A → i ∉ vs := fun i a hi hv => by
        have z := List.all_eq_true.mp ew i hv
        obtain ⟨xs, o | o⟩ := S1.own i a hi
        · rw [o] at z; cases z
        · rw [o] at z; cases z
      have h0 := S1.h0 hD
      have hz := S1.zall.out hD
      have sm0 := Same.of_new (o := .lst []) hD
      have Sw : Sts G (F.hide D) A (L2.wipe σ vs) (wipeR ρ1 vs) (upd H1 D (.lst [])) := (S1.wipe ha).hide hD sm0 (by rw [upd_same]; exact fun z => nomatch z)
      refine ⟨fun i m H => ∃ ρi acc accV, m = ds.length - i ∧ i ≤ ds.length ∧ Sts G (F.hide D) A (L2.wipe σ vs) ρi H ∧ Stp A H1 H ∧ H D = some (.lst accV) ∧ RDs G (hid (zs (F.hide D) A) H) accV acc ∧ lcLoop vs g gt fe (ds.drop i) acc ρi = .ok res ρe,
        ⟨ds.length, wipeR ρ1 vs, [], [], by simp, Nat.zero_le _, Sw, Stp.of sm0, upd_same, .nil, by simpa using el⟩, ?_⟩
      rintro i m Hi ⟨ρi, acc, accV, rfl, hi, Si, mi, hDi, rdi, ei⟩
      have W := wk i Hi (zs (F.hide D) A) Si.zall (stp_hide hD mi)
      by_cases hlt : i < ds.length
      · obtain ⟨go, yl⟩ := W.1 ds[i] (List.getElem?_eq_getElem hlt)
        have hm : D ∈ zs (F.hide D) A := zs_hide.mpr (.inl rfl)
        rw [List.drop_eq_getElem_cons hlt] at ei
        refine .inr ⟨go, fun H' => ∃ ρi acc accV, i + 1 ≤ ds.length ∧ Sts G (F.hide D) A (L2.wipe σ vs) ρi H' ∧ Stp A H1 H' ∧ H' D = some (.lst accV) ∧ RDs G (hid (zs (F.hide D) A) H') accV acc ∧ lcLoop vs g gt fe (ds.drop (i + 1)) acc ρi = .ok res ρe, fun H' ⟨ρn, an, av, a1, a2, a3, a4, a5, a6⟩ => ⟨ds.length - (i + 1), by omega, ρn, an, av, rfl, a1, a2, a3, a4, a5, a6⟩, fun x H' hy => ?_⟩
        obtain ⟨smy, rix⟩ := yl x H' hy
        have Sy := Si.same smy
        have my := mi.trans (Stp.of smy)
        obtain ⟨_, ρ2, g1, ei⟩ := bind_ok ei
        refine ⟨F.hide D, A, ρi, ds[i], ρ2, Sy, rix, g1, fun σ2 S2 m2 l2 k2 => ?_⟩
        rw [dropL_same hsl ha] at S2 m2
        have hw : L2.wipe σ2 vs = L2.wipe σ vs := by
          rw [wipe_eq (τ := σ2) (σ := L2.wipe σ vs) l2 fun j hj => k2 j fun z => hj (hsl j z)]
          exact wipe_eq (wipe_length σ vs) fun j hj => wipe_at hj
        refine ⟨hw, F.hide D, A, ρ2, ?_⟩
        obtain ⟨b, ρ3, g3, ei⟩ := bind_ok ei
        refine ⟨b, ρ3, S2, g3, fun H3 S3 m3 => ?_⟩
        have nD : ∀ i, (i, D) ∉ A := fun i z => hz (mem_zs.mpr (.inr ⟨i, z⟩))
        have hDy : H' D = some (.lst accV) := smy D _ hDi
        have rdy := rdi.mono (Same.hid (Z := zs (F.hide D) A) smy)
        have h3 : H3 D = some (.lst accV) := m3 D _ hDy nD
        have my3 := my.trans m3
        cases b with
        | false =>
          obtain ⟨_, ρ4, g4, ei⟩ := bind_ok ei
          cases g4
          show ∃ _, _
          exact ⟨_, acc, accV, hlt, hw ▸ S3.wipe ha, my3, h3, rdy.mono (Stp.hid m3), ei⟩
        | true =>
          obtain ⟨r, ρ4, g4, ei⟩ := bind_ok ei
          obtain ⟨y, ρ5, g5, ei⟩ := bind_ok ei
          obtain ⟨rfl, rfl⟩ := imm_ok g5
          obtain ⟨_, ρ6, g6, ei⟩ := bind_ok ei
          obtain ⟨l6, rfl⟩ := opt_ok g6
          obtain ⟨_, ρ7, g7, ei⟩ := bind_ok ei
          cases g7
          show ∃ _, _
          refine ⟨F.hide D, A, ρ3, _, _, S3, g4, fun v H4 S4 m4 r4 => ?_⟩
          have h4 : H4 D = some (.lst accV) := m4 D _ h3 nD
          have my4 := my3.trans m4
          have rd4 := (rdy.mono (Stp.hid m3)).mono (Stp.hid (F := F.hide D) m4)
          refine ⟨accV, h4, by rw [rd4.len]; exact room_ok l6, _, acc ++ [y], accV ++ [v], hlt, hw ▸ (S4.wipe ha).hupd h0 hz, stp_upd hD my4, upd_same, ?_, ei⟩
          · rw [hid_upd hm]; exact rd4.app (.cons r4 .nil)
      · have ed : i = ds.length := by omega
        subst ed
        rw [List.drop_length] at ei
        obtain ⟨rfl, rfl⟩ := ret_ok ei
        have mb : Same (hid (zs (F.hide D) A) (upd H1 D (.lst []))) (hid (zs (F.hide D) A) Hi) := fun a o e => by
          obtain ⟨e1, e2⟩ := hid_some e
          have ne : a ≠ D := fun z => e1 (zs_hide.mpr (.inl z))
          rw [upd_ne ne] at e2
          exact hid_of e1 (mi a o e2 fun i z => e1 (mem_zs.mpr (.inr ⟨i, z⟩)))
        exact .inl ⟨W.2 (Nat.le_refl _), q D accV Hi (Si.back (S1.hide hD sm0 (by rw [upd_same]; exact fun z => nomatch z)) mb ha ew) h0 hz (m1.trans mi) (back_none S m1 S1 hD) hDi rdi⟩
section
variable {X : Cx} {elt tg iter : Expr} {ifs : List Expr} {scope : Scope} {own : List (Str × Nat)} {pos : Pos} {fi : M (List IV)} {g : IV → M Unit} {gt : M Bool} {fe : ES} {sl : List Nat}
theorem DE.any {e : Expr} {f : ES} (h : DE X e f) : PE X e (fun σ H Q => ∃ F, tD (Gx X) F f σ H Q) := ⟨fun pins s σ H Q I ⟨F, q⟩ => (h.run F).run pins s σ H Q I q⟩
theorem DTs.any {e : List Expr} {f : M Bool} (h : DTs X e f) : PTs X e (fun σ H Q => ∃ F, tT (Gx X) F f σ H Q) := ⟨fun pins s σ H Q I ⟨F, q⟩ => (h.run F).run pins s σ H Q I q⟩
theorem DG.any {e : Expr} {f : IV → M Unit} (h : DG X e sl f) : PG X e (fun v σ H Q => ∃ F, tG (Gx X) F sl f v σ H Q) := ⟨fun pins s σ H v u Q I r ⟨F, q⟩ => (h.run F).run pins s σ H v u Q I r q⟩
theorem dn_lc (hc : X.calm = true) (hN : X.N.Nodup) (hi : DI X tg iter fi) (ok : BlkOk X.N X.env.scope scope own) (hsl : ∀ j ∈ sl, j ∈ own.map (·.2))
    (hg : ∀ (s : Shared) (H : Hp) (C : Addr) (cl : List (Str × Addr)) (fp : List Addr), DG (X.blk s H scope (compEnvC scope cl C X.env) fp) tg sl g) (ht : ∀ (s : Shared) (H : Hp) (C : Addr) (cl : List (Str × Addr)) (fp : List Addr), DTs (X.blk s H scope (compEnvC scope cl C X.env) fp) ifs gt)
    (he : ∀ (s : Shared) (H : Hp) (C : Addr) (cl : List (Str × Addr)) (fp : List Addr), DE (X.blk s H scope (compEnvC scope cl C X.env) fp) elt fe) (hs : ∀ x, foldedSetIterable iter X.env x = pure x := by intro _; rfl) :
    DN X (.ListComp elt [⟨tg, iter, ifs, 0⟩] scope pos) (nLc (own.map (·.2)) fi g gt fe) := ⟨fun F => pe_imp (pe_lc hc hN (hi.run F) ok (fun s H C cl fp => (hg s H C cl fp).any) (fun s H C cl fp => (ht s H C cl fp).any) (fun s H C cl fp => (he s H C cl fp).any) hs) fun σ H Q h => lc_rd hsl h⟩
end
end Dv
namespace Dv
open PySem PySem.Spec PyProof.Rows L2
inductive Fl where
  | nx
  | rt (d : D)
  | rn (xs : List D)
  | bk
  | ct
def Sto (A A' : Own) (H H' : Hp) : Prop := ∀ a o, H a = some o → (∀ i, (i, a) ∉ A) → H' a = some o ∧ ∀ i, (i, a) ∉ A'
theorem Sto.refl (A : Own) (H : Hp) : Sto A A H H := fun _ _ h n => ⟨h, n⟩
theorem Sto.trans {A A1 A2 : Own} {H H1 H2 : Hp} (a : Sto A A1 H H1) (b : Sto A1 A2 H1 H2) : Sto A A2 H H2 := fun x o h n =>
  let ⟨h1, n1⟩ := a x o h n
  b x o h1 n1
theorem Sto.of {A : Own} {H H' : Hp} (m : Stp A H H') : Sto A A H H' := fun a o h n => ⟨m a o h n, n⟩
theorem Sto.less {A A' : Own} {H : Hp} (h : ∀ i a, (i, a) ∈ A' → (i, a) ∈ A) : Sto A A' H H := fun a o e n => ⟨e, fun i z => n i (h i a z)⟩
theorem Sto.hid {A A' : Own} {H H' : Hp} {F : Fm} (e : Sto A A' H H') : Same (Dv.hid (zs F A) H) (Dv.hid (zs F A') H') := fun a o h => by
  obtain ⟨h1, h2⟩ := hid_some h
  obtain ⟨h3, h4⟩ := e a o h2 fun i z => h1 (mem_zs.mpr (.inr ⟨i, z⟩))
  refine hid_of (fun z => ?_) h3
  rcases mem_zs.mp z with z | ⟨i, z⟩
  · exact h1 (mem_zs.mpr (.inl z))
  · exact h4 i z
def Kp (G : Gp) (F : Fm) (A : Own) (H : Hp) (ρ' : Rho) (N : St → Hp → Prop) : Prop := ∀ A' σ' H', Sts G F A' σ' ρ' H' → Sto A A' H H' → N σ' H'
theorem Kp.sto {G : Gp} {F : Fm} {A A1 : Own} {H H1 : Hp} {ρ' : Rho} {N : St → Hp → Prop} (k : Kp G F A H ρ' N) (m : Sto A A1 H H1) : Kp G F A1 H1 ρ' N := fun A' σ' H' S m' => k A' σ' H' S (m.trans m')
def OutS (G : Gp) (F : Fm) (A : Own) (H : Hp) (D : Ends) : Res Fl → Prop
  | .ok .nx ρ' => Kp G F A H ρ' D.nx
  | .ok .bk ρ' => Kp G F A H ρ' D.bk
  | .ok .ct ρ' => Kp G F A H ρ' D.ct
  | .ok (.rt d) ρ' => ∀ v A' σ' H', Sts G F A' σ' ρ' H' → RD G (hid F.Z H') v d → D.rt v H'
  | .ok (.rn xs) ρ' => ∀ p vs A' σ' H', Sts G F A' σ' ρ' H' → F.H0 p = none → H' p = some (.lst vs) → RDs G (hid (p :: F.Z) H') vs xs → D.rt (.ref p) H'
  | _ => False
theorem OutS.sto {G : Gp} {F : Fm} {A A1 : Own} {H H1 : Hp} {D : Ends} (m : Sto A A1 H H1) : ∀ {r : Res Fl}, OutS G F A H D r → OutS G F A1 H1 D r
  | .ok .nx ρ', k => Kp.sto k m
  | .ok .bk ρ', k => Kp.sto k m
  | .ok .ct ρ', k => Kp.sto k m
  | .ok (.rt d) ρ', k => k
  | .ok (.rn xs) ρ', k => k
  | .no, k => k
  | .ex _ _, k => k
abbrev SS := M Fl
def tS (G : Gp) (F : Fm) (f : SS) : TS := fun D σ H => ∃ A ρ, Sts G F A σ ρ H ∧ OutS G F A H D (f ρ)
structure DS (X : Cx) (st : Stmt) (f : SS) : Prop where
  run : ∀ F, PS X st (tS (Gx X) F f)
structure DSs (X : Cx) (st : List Stmt) (f : SS) : Prop where
  run : ∀ F, PSs X st (tS (Gx X) F f)
theorem out_bind {G : Gp} {F : Fm} {A : Own} {H : Hp} {D : Ends} {α : Type} {m : M α} {k : α → SS} {ρ : Rho} (h : OutS G F A H D (M.bind m k ρ)) : ∃ a ρ1, m ρ = .ok a ρ1 ∧ OutS G F A H D (k a ρ1) := by
  unfold M.bind at h
  cases e : m ρ with
  | no => rw [e] at h; exact h.elim
  | ex x r => rw [e] at h; exact h.elim
  | ok a r => rw [e] at h; exact ⟨a, r, rfl, h⟩
theorem out_opt {G : Gp} {F : Fm} {A : Own} {H : Hp} {D : Ends} {α : Type} {o : Option α} {k : α → SS} {ρ : Rho} (h : OutS G F A H D (M.bind (M.opt o) k ρ)) : ∃ a, o = some a ∧ OutS G F A H D (k a ρ) := by
  obtain ⟨a, ρ1, e, h⟩ := out_bind h
  obtain ⟨e1, rfl⟩ := opt_ok e
  exact ⟨a, e1, h⟩
section
variable {X : Cx} {a b e : Expr} {st : Stmt} {sts body els : List Stmt} {fa fb : ES} {f g h : SS} {pos : Pos} {i : Nat}
def sSeq (f g : SS) : SS := M.bind f fun fl => match fl with
  | .nx => g
  | o => M.ret o
def sNil : SS := M.ret .nx
theorem dss_nil : DSs X [] sNil := ⟨fun F => pss_imp pss_nil fun D σ H ⟨A, ρ, S, o⟩ => o A σ H S (Sto.refl _ _)⟩
theorem dss_one (h : DS X st f) : DSs X [st] f := ⟨fun F => pss_one (h.run F)⟩
theorem dss_cons (h : DS X st f) (k : DSs X sts g) : DSs X (st :: sts) (sSeq f g) := ⟨fun F => pss_imp (pss_cons (h.run F) (k.run F)) fun D σ H ⟨A, ρ, S, o⟩ => by
  obtain ⟨fl, ρ1, e1, o⟩ := out_bind o
  refine ⟨A, ρ, S, ?_⟩
  rw [e1]
  cases fl with
  | nx => exact fun A' σ' H' S' m => ⟨A', ρ1, S', OutS.sto m o⟩
  | _ => exact o⟩
def sPass : SS := M.ret .nx
theorem ds_pass : DS X (.Pass pos) sPass := ⟨fun F => ps_imp ps_pass fun D σ H ⟨A, ρ, S, o⟩ => o A σ H S (Sto.refl _ _)⟩
def sBreak : SS := M.ret .bk
theorem ds_break : DS X (.Break pos) sBreak := ⟨fun F => ps_imp ps_break fun D σ H ⟨A, ρ, S, o⟩ => o A σ H S (Sto.refl _ _)⟩
def sCont : SS := M.ret .ct
theorem ds_cont : DS X (.Continue pos) sCont := ⟨fun F => ps_imp ps_continue fun D σ H ⟨A, ρ, S, o⟩ => o A σ H S (Sto.refl _ _)⟩
def sNever : SS := fun _ => .no
theorem ds_never : DS X st sNever := ⟨fun F => ps_imp ps_never fun D σ H ⟨A, ρ, S, o⟩ => o⟩
def sExpr (fa : ES) : SS := M.bind fa fun _ => M.ret .nx
theorem ds_expr (ha : DE X e fa) (hs : swapsWith e none pos.line X.env = pure false := by rfl) : DS X (.Expr e pos) (sExpr fa) := ⟨fun F => ps_imp (ps_expr (ha.run F) hs) fun D σ H ⟨A, ρ, S, o⟩ => by
  obtain ⟨r, ρ1, e1, o⟩ := out_bind o
  exact ⟨A, ρ, r, ρ1, S, e1, fun v H1 S1 m1 r1 => o A σ H1 S1 (Sto.of m1)⟩⟩
def sRet (fa : ES) : SS := M.bind fa fun r => fun ρ => match r with
  | .im d => .ok (.rt d) ρ
  | .al i => match ρ[i]? with
    | some (some (.ow xs)) => .ok (.rn xs) ρ
    | _ => .no
theorem zs_Z {F : Fm} {A : Own} {H : Hp} : Same (hid (zs F A) H) (hid F.Z H) := hid_less fun a h => mem_zs.mpr (.inl h)
theorem ds_ret (ha : DE X e fa) : DS X (.Return (some e) pos) (sRet fa) := ⟨fun F => ps_imp (ps_ret (ha.run F)) fun D σ H ⟨A, ρ, S, o⟩ => by
  obtain ⟨r, ρ1, e1, o⟩ := out_bind o
  refine ⟨A, ρ, r, ρ1, S, e1, fun v H1 S1 m1 r1 => ?_⟩
  cases r with
  | im d => exact o v A σ H1 S1 (r1.mono zs_Z)
  | al i =>
    obtain ⟨a, ha, rfl⟩ := r1
    cases q : ρ1[i]? with
    | none => simp only [q] at o; exact o.elim
    | some x =>
      cases x with
      | none => simp only [q] at o; exact o.elim
      | some x =>
        cases x with
        | ow xs =>
          simp only [q] at o
          obtain ⟨b, hb, n1, n2, _, vs, h2, h3⟩ := S1.ow i xs q
          obtain rfl := (S1.uni i i a b ha hb).mp rfl
          refine o a vs A σ H1 S1 n2 h2 (h3.mono (hid_less fun c hc => ?_))
          rcases List.mem_cons.mp hc with rfl | hc
          · exact mem_zs.mpr (.inr ⟨i, hb⟩)
          · exact mem_zs.mpr (.inl hc)
        | im d => simp only [q] at o; exact o.elim
        | bo d => simp only [q] at o; exact o.elim⟩
def sRetL (f : M (List D)) : SS := M.bind f fun xs => M.ret (.rn xs)
theorem hide_Z {F : Fm} {A : Own} {H : Hp} {p : Addr} : Same (hid (zs (F.hide p) A) H) (hid (p :: F.Z) H) := hid_less fun a h => mem_zs.mpr (.inl h)
theorem ds_retL {f : M (List D)} (ha : DN X e f) : DS X (.Return (some e) pos) (sRetL f) := ⟨fun F => ps_imp (ps_ret (ha.run F)) fun D σ H ⟨A, ρ, S, o⟩ => by
  obtain ⟨xs, ρ1, e1, o⟩ := out_bind o
  exact ⟨A, ρ, xs, ρ1, S, e1, fun p vs H1 S1 h0 hz m1 hn hp rd => o p vs A σ H1 S1.show h0 hp (rd.mono hide_Z)⟩⟩
def sRetN : SS := M.ret (.rt .non)
theorem ds_retN : DS X (.Return none pos) sRetN := ⟨fun F => ps_imp ps_retN fun D σ H ⟨A, ρ, S, o⟩ => o .non A σ H S .non⟩
def sIf (g : M Bool) (f h : SS) : SS := M.bind g fun b => match b with
  | true => f
  | false => h
theorem ds_if {g : M Bool} {c : Expr} (hc : DT X c g) (ha : DSs X body f) (hb : DSs X els h) : DS X (.If c body els pos) (sIf g f h) := ⟨fun F => ps_imp (ps_if (hc.run F) (ha.run F) (hb.run F)) fun D σ H ⟨A, ρ, S, o⟩ => by
  obtain ⟨k, ρ1, e1, o⟩ := out_bind o
  refine ⟨A, ρ, k, ρ1, S, e1, fun H1 S1 m1 => ?_⟩
  cases k with
  | true =>
    rw [if_pos rfl]
    exact ⟨A, ρ1, S1, OutS.sto (Sto.of m1) o⟩
  | false =>
    rw [if_neg Bool.false_ne_true]
    exact ⟨A, ρ1, S1, OutS.sto (Sto.of m1) o⟩⟩
def sSet (i : Nat) (fa : ES) : SS := M.bind fa fun r => M.bind (imm r) fun d => M.bind (setIm i d) fun _ => M.ret .nx
theorem sto_drop {A : Own} {i : Nat} {H H' : Hp} (m : Stp A H H') : Sto A (drop1 A i) H H' := (Sto.of m).trans (Sto.less fun j a h => (mem_drop1.mp h).1)
theorem set_rd {G : Gp} {F : Fm} {D : Ends} {σ : St} {H : Hp} (h : tS G F (sSet i fa) D σ H) : tAsg (tD G F fa) (gName i) D σ H := by
  obtain ⟨A, ρ, S, o⟩ := h
  obtain ⟨r, ρ1, e1, o⟩ := out_bind o
  obtain ⟨d, ρ2, e2, o⟩ := out_bind o
  obtain ⟨rfl, rfl⟩ := imm_ok e2
  obtain ⟨u, ρ3, e3, o⟩ := out_bind o
  refine ⟨A, ρ, _, _, S, e1, fun v H1 S1 m1 r1 => ?_⟩
  obtain ⟨S2, m2⟩ := S1.set (v := v) e3 r1
  exact o _ _ _ S2 (sto_drop m1)
theorem ds_set {x : Str} {pos' : Pos} (hN : X.N.Nodup) (hi : X.N[i]? = some x) (hx : Loc X.env.scope x) (he : DE X e fa) (hs : swapsWith e (some (.Name x pos')) pos.line X.env = pure false := by rfl) (hf : X.fn x = true ∨ X.env.scope.names.lookup x = some .local := by first | exact .inl rfl | exact .inr rfl | assumption) :
    DS X (.Assign [.Name x pos'] e pos) (sSet i fa) := ⟨fun F => ps_imp (ps_set hN hi hx (he.run F) hs hf) fun D σ H h => set_rd h⟩
def sOwn (i : Nat) (f : M (List D)) : SS := M.bind f fun xs => M.bind (setOw i xs) fun _ => M.ret .nx
theorem own_rd {G : Gp} {F : Fm} {D : Ends} {σ : St} {H : Hp} {f : M (List Dv.D)} (h : tS G F (sOwn i f) D σ H) : tAsg (tN G F f) (gName i) D σ H := by
  obtain ⟨A, ρ, S, o⟩ := h
  obtain ⟨xs, ρ1, e1, o⟩ := out_bind o
  obtain ⟨u, ρ3, e3, o⟩ := out_bind o
  refine ⟨A, ρ, xs, _, S, e1, fun p vs H1 S1 h0 hz m1 hn hp rd => ?_⟩
  obtain ⟨S2, m2⟩ := S1.setN h0 hz hp rd e3
  refine o _ _ _ S2 fun a u h n => ⟨m1 a u h n, fun j z => ?_⟩
  rcases List.mem_cons.mp z with z | z
  · cases z
    rw [hn] at h; cases h
  · exact n j (mem_drop1.mp z).1
theorem ds_own {x : Str} {pos' : Pos} {f : M (List D)} (hN : X.N.Nodup) (hi : X.N[i]? = some x) (hx : Loc X.env.scope x) (he : DN X e f) (hs : swapsWith e (some (.Name x pos')) pos.line X.env = pure false := by rfl) (hf : X.fn x = true ∨ X.env.scope.names.lookup x = some .local := by first | exact .inl rfl | exact .inr rfl | assumption) :
    DS X (.Assign [.Name x pos'] e pos) (sOwn i f) := ⟨fun F => ps_imp (ps_set hN hi hx (he.run F) hs hf) fun D σ H h => own_rd h⟩
def sSetL (i : Nat) (f : M (List D)) : SS := M.bind f fun xs => M.bind (setIm i (.lst xs)) fun _ => M.ret .nx
theorem setL_rd {G : Gp} {F : Fm} {D : Ends} {σ : St} {H : Hp} {f : M (List Dv.D)} (h : tS G F (sSetL i f) D σ H) : tAsg (tN G F f) (gName i) D σ H := by
  obtain ⟨A, ρ, S, o⟩ := h
  obtain ⟨xs, ρ1, e1, o⟩ := out_bind o
  obtain ⟨u, ρ3, e3, o⟩ := out_bind o
  refine ⟨A, ρ, xs, _, S, e1, fun p vs H1 S1 h0 hz m1 hn hp rd => ?_⟩
  obtain ⟨S2, m2⟩ := S1.show.set (v := .ref p) e3 (.lst (SqL.of (hid_of hz hp)) (rd.mono show_same))
  exact o _ _ _ S2 (sto_drop m1)
section
variable {elt tg iter : Expr} {ifs : List Expr} {scope : Scope} {own : List (Str × Nat)} {spos py : Pos} {fi : M (List IV)} {gg : IV → M Unit} {gt : M Bool} {fe : ES} {sl : List Nat} {y : Str}
theorem ps_lcN (hc : X.calm = true) (hN : X.N.Nodup) (hy : X.N[i]? = some y) (hyl : X.env.scope.names.lookup y = some .local)
    (hsw : swapsWith (.ListComp elt [⟨tg, iter, ifs, 0⟩] scope pos) (some (.Name y py)) spos.line X.env = pure true) (hi : DI X tg iter fi) (ok : BlkOk X.N X.env.scope scope own) (hsl : ∀ j ∈ sl, j ∈ own.map (·.2))
    (hg : ∀ (s : Shared) (H : Hp) (C : Addr) (cl : List (Str × Addr)) (fp : List Addr), DG (X.blk s H scope (compEnvC scope cl C X.env) fp) tg sl gg) (ht : ∀ (s : Shared) (H : Hp) (C : Addr) (cl : List (Str × Addr)) (fp : List Addr), DTs (X.blk s H scope (compEnvC scope cl C X.env) fp) ifs gt)
    (he : ∀ (s : Shared) (H : Hp) (C : Addr) (cl : List (Str × Addr)) (fp : List Addr), DE (X.blk s H scope (compEnvC scope cl C X.env) fp) elt fe) (hs : ∀ x, foldedSetIterable iter X.env x = pure x := by intro _; rfl) :
    ∀ F, PS X (.Assign [.Name y py] (.ListComp elt [⟨tg, iter, ifs, 0⟩] scope pos) spos) (tAsg (tN (Gx X) F (nLc (own.map (·.2)) fi gg gt fe)) (gName i)) := fun F =>
  ps_imp (ps_setLc hc hN hy hyl hsw (hi.run F) ok (fun s H C cl fp => (hg s H C cl fp).any) (fun s H C cl fp => (ht s H C cl fp).any) (fun s H C cl fp => (he s H C cl fp).any) hs) fun D σ H h => lc_rd hsl h
theorem ds_lcSet {st : Stmt} {f : M (List D)} (h : ∀ F, PS X st (tAsg (tN (Gx X) F f) (gName i))) : DS X st (sSetL i f) := ⟨fun F => ps_imp (h F) fun D σ H h => setL_rd h⟩
theorem ds_lcOwn {st : Stmt} {f : M (List D)} (h : ∀ F, PS X st (tAsg (tN (Gx X) F f) (gName i))) : DS X st (sOwn i f) := ⟨fun F => ps_imp (h F) fun D σ H h => own_rd h⟩
end
def sAsg (fa : ES) (g : IV → M Unit) : SS := M.bind fa fun r => M.bind (imm r) fun d => M.bind (g (.im d)) fun _ => M.ret .nx
theorem ds_asg {tg : Expr} {sl : List Nat} {gg : IV → M Unit} (he : DE X e fa) (hg : DG X tg sl gg) (hs : swapsWithSole [tg] e pos.line X.env = pure false := by rfl) (hw : swappedStores [tg] e X.env = pure none := by rfl)
    (h1 : (assignEach [tg] X.env).map (·.2) = [assign tg X.env] := by rfl) : DS X (.Assign [tg] e pos) (sAsg fa gg) := ⟨fun F => ps_imp (ps_asg (he.run F) (hg.run F) hs hw h1) fun D σ H ⟨A, ρ, S, o⟩ => by
  obtain ⟨r, ρ1, e1, o⟩ := out_bind o
  obtain ⟨d, ρ2, e2, o⟩ := out_bind o
  obtain ⟨rfl, rfl⟩ := imm_ok e2
  obtain ⟨u, ρ3, e3, o⟩ := out_bind o
  refine ⟨A, ρ, _, _, S, e1, fun v H1 S1 m1 r1 => ⟨A, _, .im d, ρ3, S1, r1, e3, fun σ' S2 m2 _ _ => ?_⟩⟩
  exact o _ _ _ S2 ((Sto.of m1).trans (Sto.less fun j a h => (mem_dropL.mp h).1))⟩
def sPar (i j : Nat) (fs : M (List RV)) : SS := M.bind fs fun rs => match rs with
  | [ra, rb] => M.bind (imm ra) fun x => M.bind (imm rb) fun y => M.bind (setIm i x) fun _ => M.bind (setIm j y) fun _ => M.ret .nx
  | _ => fun _ => .no
theorem ds_par {j : Nat} {x y : Str} {fs : M (List RV)} {px py pt : Pos} {kt k2 pt2} (hc : X.calm = true) (hN : X.N.Nodup) (hi : X.N[i]? = some x) (hj : X.N[j]? = some y) (hij : i ≠ j)
    (hx : X.env.scope.names.lookup x = some .local) (hy : X.env.scope.names.lookup y = some .local) (ha : DA X [a, b] fs)
    (hw : swappedStores [.Tuple [.Name x px, .Name y py] kt pt] (.Tuple [a, b] k2 pt2) X.env = pure (some [x, y]))
    (hs : swapsWithSole [.Tuple [.Name x px, .Name y py] kt pt] (.Tuple [a, b] k2 pt2) pos.line X.env = pure false := by rfl) :
    DS X (.Assign [.Tuple [.Name x px, .Name y py] kt pt] (.Tuple [a, b] k2 pt2) pos) (sPar i j fs) := ⟨fun F => ps_imp (ps_par hc hN hi hj hij hx hy (ha.run F) hw hs) fun D σ H ⟨A, ρ, S, o⟩ => by
  obtain ⟨rs, ρ1, e1, o⟩ := out_bind o
  refine ⟨A, ρ, rs, ρ1, S, e1, fun vs H1 S1 m1 r1 => ?_⟩
  cases r1 with
  | nil => exact o.elim
  | cons ra r1 =>
    cases r1 with
    | nil => exact o.elim
    | cons rb r1 =>
      cases r1 with
      | cons _ _ => exact o.elim
      | nil =>
        obtain ⟨d, ρ2, e2, o⟩ := out_bind o
        obtain ⟨rfl, rfl⟩ := imm_ok e2
        obtain ⟨d', ρ3, e3, o⟩ := out_bind o
        obtain ⟨rfl, rfl⟩ := imm_ok e3
        obtain ⟨_, ρ4, e4, o⟩ := out_bind o
        obtain ⟨_, ρ5, e5, o⟩ := out_bind o
        obtain ⟨S2, m2⟩ := S1.set e4 ra
        obtain ⟨S3, m3⟩ := S2.set e5 (RD.mono m2 rb)
        exact ⟨_, _, rfl, o _ _ _ S3 (((Sto.of m1).trans (Sto.less fun j a h => (mem_drop1.mp h).1)).trans (Sto.less fun j a h => (mem_drop1.mp h).1))⟩⟩
def IpD (X : Cx) (op : Operator) (g : D → D → Option D) : Prop := OpD X (inplaceOp op) g
def sAug (i : Nat) (g : D → D → Option D) (fa : ES) : SS := fun ρ => match ρ[i]? with
  | some (some (.im d)) => (M.bind fa fun r => M.bind (val r) fun y => M.bind (M.opt (g d y)) fun z => M.bind (setIm i z) fun _ => M.ret .nx) ρ
  | _ => .no
theorem ds_aug {x : Str} {op : Operator} {g : D → D → Option D} {pos' : Pos} (hN : X.N.Nodup) (hi : X.N[i]? = some x) (hx : Loc X.env.scope x) (he : DE X e fa) (ho : IpD X op g) (hf : X.fn x = true ∨ X.env.scope.names.lookup x = some .local := by first | exact .inl rfl | exact .inr rfl | assumption) :
    DS X (.AugAssign (.Name x pos') op e pos) (sAug i g fa) := ⟨fun F => by
  obtain ⟨r, h1, h2⟩ := ho
  refine ps_imp (ps_aug (ti := r) hN hi hx (he.run F) h1 hf) fun D σ H ⟨A, ρ, S, o⟩ => ?_
  unfold sAug at o
  split at o
  · rename_i d q
    obtain ⟨rr, ρ1, e1, o⟩ := out_bind o
    obtain ⟨y, ρ2, e2, o⟩ := out_bind o
    obtain ⟨l2, rfl⟩ := val_ok e2
    obtain ⟨z, l3, o⟩ := out_opt o
    obtain ⟨_, ρ4, e4, o⟩ := out_bind o
    obtain ⟨v, hv, rv⟩ := S.im i d q
    refine ⟨v, hv, A, ρ, rr, _, S, e1, fun w H1 S1 m1 r1 => ?_⟩
    refine h2 (zs F A) H1 v w d y z _ S1.zall (.inl (rv.mono m1.hid)) (look_rt S1 r1 l2) l3 fun u H2 sm rd => ?_
    obtain ⟨S2, m2⟩ := (S1.same sm).set e4 rd
    exact o _ _ _ S2 (sto_drop (m1.trans (Stp.of sm)))
  · exact o.elim⟩
def sWhile (g : M Bool) (f : SS) : Nat → SS
  | 0 => fun _ => .no
  | n + 1 => M.bind g fun b => match b with
    | false => M.ret .nx
    | true => M.bind f fun fl => match fl with
      | .nx => sWhile g f n
      | .ct => sWhile g f n
      | .bk => M.ret .nx
      | o => M.ret o
theorem ds_while {c : Expr} {g : M Bool} (n : Nat) (hp : PassesOwn (model X.prog X.w) X.A X.env X.xe) (hc : DT X c g) (hb : DSs X body f) : DS X (.While c body [] pos) (sWhile g f n) := ⟨fun F => ps_imp (ps_while hp (hc.run F) (hb.run F)) fun D σ H ⟨A, ρ, S, o⟩ => by
  refine ⟨fun m σ H => ∃ A ρ, Sts (Gx X) F A σ ρ H ∧ OutS (Gx X) F A H D (sWhile g f m ρ), ⟨n, A, ρ, S, o⟩, ?_⟩
  rintro m σ1 H1 ⟨A1, ρ1, S1, o1⟩
  cases m with
  | zero => exact o1.elim
  | succ m =>
    obtain ⟨k, ρ2, e2, o1⟩ := out_bind o1
    refine ⟨A1, ρ1, k, ρ2, S1, e2, fun H2 S2 m2 => ?_⟩
    have o2 := OutS.sto (Sto.of m2) o1
    cases k with
    | false => exact iteF (o2 A1 σ1 H2 S2 (Sto.refl _ _))
    | true =>
      obtain ⟨fl, ρ3, e3, o3⟩ := out_bind o2
      refine iteT ⟨fun σ' H' => ∃ A ρ, Sts (Gx X) F A σ' ρ H' ∧ OutS (Gx X) F A H' D (sWhile g f m ρ), fun σ' H' ⟨A', ρ', S', o'⟩ => ⟨m, Nat.lt_succ_self m, A', ρ', S', o'⟩, A1, ρ2, S2, ?_⟩
      rw [e3]
      cases fl with
      | nx => exact fun A' σ' H' S' m' => ⟨A', ρ3, S', OutS.sto m' o3⟩
      | ct => exact fun A' σ' H' S' m' => ⟨A', ρ3, S', OutS.sto m' o3⟩
      | bk => exact o3
      | rt d => exact o3
      | rn xs => exact o3⟩
def forL (gg : IV → M Unit) (f : SS) : List IV → SS
  | [] => M.ret .nx
  | d :: ds => M.bind (gg d) fun _ => M.bind f fun fl => match fl with
    | .nx => forL gg f ds
    | .ct => forL gg f ds
    | .bk => M.ret .nx
    | o => M.ret o
def sFor (fi : M (List IV)) (gg : IV → M Unit) (f : SS) : SS := M.bind fi fun ds => forL gg f ds
theorem ds_for {tg iter : Expr} {fi : M (List IV)} {gg : IV → M Unit} {sl : List Nat} (hp : PassesOwn (model X.prog X.w) X.A X.env X.xe) (hc : X.calm = true) (hi : DI X tg iter fi) (hg : DG X tg sl gg) (hb : DSs X body f)
    (hs : ∀ x, foldedSetIterable iter X.env x = pure x := by intro _; rfl) : DS X (.For tg iter body [] pos) (sFor fi gg f) := ⟨fun F => ps_imp (ps_for hp hc (hi.run F) (hg.run F) (hb.run F) hs) fun D σ H ⟨A, ρ, S, o⟩ => by
  obtain ⟨ds, ρ1, e1, o⟩ := out_bind o
  refine ⟨A, ρ, ds, ρ1, S, e1, fun J H1 S1 m1 wk => ?_⟩
  have o1 := OutS.sto (Sto.of m1) o
  refine ⟨fun i m σ H => ∃ A' ρ', i ≤ ds.length ∧ m = ds.length - i ∧ Sts (Gx X) F A' σ ρ' H ∧ Sto A A' H1 H ∧ OutS (Gx X) F A' H D (forL gg f (ds.drop i) ρ'), ⟨ds.length, A, ρ1, Nat.zero_le _, by simp, S1, Sto.refl _ _, by simpa using o1⟩, ?_⟩
  rintro i m σ2 H2 ⟨A2, ρ2, hi, rfl, S2, m2, o2⟩
  have W := wk i H2 (zs F A2) S2.zall m2.hid
  by_cases hlt : i < ds.length
  · obtain ⟨go, yl⟩ := W.1 ds[i] (List.getElem?_eq_getElem hlt)
    rw [List.drop_eq_getElem_cons hlt] at o2
    refine .inr ⟨go, fun σ' H' => ∃ A' ρ', Sts (Gx X) F A' σ' ρ' H' ∧ Sto A A' H1 H' ∧ OutS (Gx X) F A' H' D (forL gg f (ds.drop (i + 1)) ρ'), fun σ' H' ⟨A', ρ', a1, a2, a3⟩ => ⟨ds.length - (i + 1), by omega, A', ρ', hlt, rfl, a1, a2, a3⟩, fun x H' hy => ?_⟩
    obtain ⟨smy, rix⟩ := yl x H' hy
    obtain ⟨_, ρ3, e3, o3⟩ := out_bind o2
    refine ⟨A2, ρ2, ds[i], ρ3, S2.same smy, rix, e3, fun σ3 S3 m3 _ _ => ?_⟩
    have ms : Sto A2 (dropL A2 sl) H2 H' := (Sto.of (Stp.of smy)).trans (Sto.less fun j a h => (mem_dropL.mp h).1)
    have o4 := OutS.sto ms o3
    obtain ⟨fl, ρ4, e4, o5⟩ := out_bind o4
    refine ⟨_, ρ3, S3, ?_⟩
    rw [e4]
    cases fl with
    | nx => exact fun A' σ' H' S' m' => ⟨A', ρ4, S', (m2.trans ms).trans m', OutS.sto m' o5⟩
    | ct => exact fun A' σ' H' S' m' => ⟨A', ρ4, S', (m2.trans ms).trans m', OutS.sto m' o5⟩
    | bk => exact o5
    | rt d => exact o5
    | rn xs => exact o5
  · have ed : i = ds.length := by omega
    subst ed
    rw [List.drop_length] at o2
    exact .inl ⟨W.2 (Nat.le_refl _), o2 A2 σ2 H2 S2 (Sto.refl _ _)⟩⟩
end
end Dv
namespace Dv
open PySem PySem.Spec PyProof.Rows L2
inductive FR where
  | im (d : D)
  | nw (xs : List D)
abbrev Outs := List (Option (List D))
def bosAt (l : Outs) (i : Nat) : Option (List D) := match l[i]? with
  | some o => o
  | none => none
def bos : Rho → Outs
  | [] => []
  | some (.bo xs) :: r => some xs :: bos r
  | _ :: r => match bos r with
    | [] => []
    | t => none :: t
theorem bos_skip (t : Outs) (i : Nat) : bosAt (match t with
    | [] => []
    | t => none :: t) (i + 1) = bosAt t i := by
  cases t with
  | nil => simp [bosAt]
  | cons a t => simp [bosAt]
theorem bos_skip0 (t : Outs) : bosAt (match t with
    | [] => []
    | t => none :: t) 0 = none := by
  cases t with
  | nil => rfl
  | cons a t => rfl
theorem bos_at : ∀ (ρ : Rho) (i : Nat) (xs : List D), ρ[i]? = some (some (.bo xs)) → bosAt (bos ρ) i = some xs
  | [], i, xs, h => by simp at h
  | x :: r, 0, xs, h => by
    simp at h
    subst h
    rfl
  | x :: r, i + 1, xs, h => by
    have ih := bos_at r i xs (by simpa using h)
    cases x with
    | none => exact (bos_skip (bos r) i).trans ih
    | some s =>
      cases s with
      | bo ys => show bosAt (some ys :: bos r) (i + 1) = _; simpa [bosAt] using ih
      | im d => exact (bos_skip (bos r) i).trans ih
      | ow d => exact (bos_skip (bos r) i).trans ih
inductive ArgsOk (G : Gp) (Z : List Addr) (H : Hp) : Nat → List V → List SV → Own → Prop
  | nil (k : Nat) : ArgsOk G Z H k [] [] []
  | im {k : Nat} {v : V} {d : D} {vs : List V} {svs : List SV} {B : Own} : RD G (hid Z H) v d → ArgsOk G Z H (k + 1) vs svs B → ArgsOk G Z H k (v :: vs) (.im d :: svs) B
  | bo {k : Nat} {a : Addr} {xs : List D} {ws vs : List V} {svs : List SV} {B : Own} : a ∈ Z → H a = some (.lst ws) → RDs G (hid Z H) ws xs → ArgsOk G Z H (k + 1) vs svs B → ArgsOk G Z H k (.ref a :: vs) (.bo xs :: svs) ((k, a) :: B)
def OutsOk (G : Gp) (Z : List Addr) (H' : Hp) (B : Own) (outs : Outs) : Prop := ∀ (i : Nat) a, (i, a) ∈ B → ∃ xs ws, bosAt outs i = some xs ∧ H' a = some (.lst ws) ∧ RDs G (hid Z H') ws xs
def RetOk (G : Gp) (Z : List Addr) (H H' : Hp) (v : V) : FR → Prop
  | .im d => RD G (hid Z H') v d
  | .nw xs => ∃ p vs, v = .ref p ∧ H p = none ∧ H' p = some (.lst vs) ∧ RDs G (hid (p :: Z) H') vs xs
abbrev FD := List SV → Option (FR × Outs)
def spD (G : Gp) (g : FD) : Sp := fun vs H Q _ => ∃ Z svs B fr outs, ZOk Z H ∧ ArgsOk G Z H 0 vs svs B ∧ (B.map (·.2)).Nodup ∧ g svs = some (fr, outs) ∧
  ∀ v H', Stp B H H' → OutsOk G Z H' B outs → RetOk G Z H H' v fr → Q v H'
section
variable {G : Gp} {Z : List Addr} {H : Hp} {k : Nat} {vs : List V} {svs : List SV} {B : Own}
theorem ArgsOk.len (h : ArgsOk G Z H k vs svs B) : vs.length = svs.length := by
  induction h with
  | nil => rfl
  | im _ _ ih => rw [List.length_cons, List.length_cons, ih]
  | bo _ _ _ _ ih => rw [List.length_cons, List.length_cons, ih]
theorem ArgsOk.imAt (h : ArgsOk G Z H k vs svs B) : ∀ (i : Nat) d, svs[i]? = some (.im d) → ∃ v, vs[i]? = some v ∧ RD G (hid Z H) v d := by
  induction h with
  | nil => intro i d e; simp at e
  | im r _ ih =>
    intro i d e
    cases i with
    | zero => simp at e; subst e; exact ⟨_, rfl, r⟩
    | succ i => simpa using ih i d (by simpa using e)
  | bo _ _ _ _ ih =>
    intro i d e
    cases i with
    | zero => simp at e
    | succ i => simpa using ih i d (by simpa using e)
theorem ArgsOk.boAt (h : ArgsOk G Z H k vs svs B) : ∀ (i : Nat) xs, svs[i]? = some (.bo xs) → ∃ a ws, (k + i, a) ∈ B ∧ vs[i]? = some (.ref a) ∧ H a = some (.lst ws) ∧ RDs G (hid Z H) ws xs := by
  induction h with
  | nil => intro i d e; simp at e
  | im r _ ih =>
    intro i d e
    cases i with
    | zero => simp at e
    | succ i =>
      obtain ⟨a, ws, h1, h2⟩ := ih i d (by simpa using e)
      exact ⟨a, ws, by rw [Nat.add_comm i 1, ← Nat.add_assoc]; exact h1, by simpa using h2⟩
  | @bo k a xs ws _ _ _ ha h1 h2 _ ih =>
    intro i d e
    cases i with
    | zero => simp at e; subst e; exact ⟨a, ws, List.mem_cons_self, rfl, h1, h2⟩
    | succ i =>
      obtain ⟨a, ws, h1, h2⟩ := ih i d (by simpa using e)
      exact ⟨a, ws, by rw [Nat.add_comm i 1, ← Nat.add_assoc]; exact List.mem_cons_of_mem _ h1, by simpa using h2⟩
theorem ArgsOk.noOw (h : ArgsOk G Z H k vs svs B) : ∀ (i : Nat) xs, svs[i]? ≠ some (.ow xs) := by
  induction h with
  | nil => intro i xs e; simp at e
  | im r _ ih =>
    intro i xs e
    cases i with
    | zero => simp at e
    | succ i => exact ih i xs (by simpa using e)
  | bo _ _ _ _ ih =>
    intro i xs e
    cases i with
    | zero => simp at e
    | succ i => exact ih i xs (by simpa using e)
theorem ArgsOk.inB (h : ArgsOk G Z H k vs svs B) : ∀ (j : Nat) a, (j, a) ∈ B → a ∈ Z ∧ ∃ i xs, j = k + i ∧ svs[i]? = some (.bo xs) ∧ vs[i]? = some (.ref a) := by
  induction h with
  | nil => intro j a e; cases e
  | im r _ ih =>
    intro j a e
    obtain ⟨h1, i, xs, h2, h3, h4⟩ := ih j a e
    exact ⟨h1, i + 1, xs, by omega, by simpa using h3, by simpa using h4⟩
  | @bo k b xs ws _ _ _ hb h1 h2 _ ih =>
    intro j a e
    rcases List.mem_cons.mp e with e | e
    · cases e
      exact ⟨hb, 0, xs, rfl, rfl, rfl⟩
    · obtain ⟨h1, i, xs, h2, h3, h4⟩ := ih j a e
      exact ⟨h1, i + 1, xs, by omega, by simpa using h3, by simpa using h4⟩
end
def entry (n : Nat) (svs : List SV) : Rho := svs.map some ++ List.replicate (n - svs.length) none
theorem entry_some {n i : Nat} {svs : List SV} {x : SV} (h : (entry n svs)[i]? = some (some x)) : svs[i]? = some x := by
  unfold entry at h
  by_cases hi : i < svs.length
  · rw [List.getElem?_append_left (by simpa using hi), List.getElem?_map] at h
    obtain ⟨y, e1, e2⟩ := Option.map_eq_some_iff.mp h
    rw [e1]; exact e2
  · rw [List.getElem?_append_right (by simpa using hi), List.getElem?_replicate] at h
    split at h <;> cases h
theorem entry_of {n i : Nat} {svs : List SV} {x : SV} (h : svs[i]? = some x) : (entry n svs)[i]? = some (some x) := by
  unfold entry
  have hi : i < svs.length := (List.getElem?_eq_some_iff.mp h).1
  rw [List.getElem?_append_left (by simpa using hi), List.getElem?_map, h]
  rfl
theorem start_of {N : List Str} {vs : List V} {i : Nat} {v : V} (h : vs[i]? = some v) : (start N vs)[i]? = some (some v) := by
  unfold L2.start
  have hi : i < vs.length := (List.getElem?_eq_some_iff.mp h).1
  rw [List.getElem?_append_left (by simpa using hi), List.getElem?_map, h]
  rfl
theorem nd_fst {B : Own} (h : (B.map (·.2)).Nodup) : ∀ (i j : Nat) a, (i, a) ∈ B → (j, a) ∈ B → i = j := by
  induction B with
  | nil => intro i j a e; cases e
  | cons p B ih =>
    intro i j a e1 e2
    rw [List.map_cons, List.nodup_cons] at h
    rcases List.mem_cons.mp e1 with e1 | e1
    · rcases List.mem_cons.mp e2 with e2 | e2
      · rw [← e1] at e2; exact (congrArg Prod.fst e2).symm
      · exact absurd (List.mem_map.mpr ⟨(j, a), e2, by rw [← e1]⟩) h.1
    · rcases List.mem_cons.mp e2 with e2 | e2
      · exact absurd (List.mem_map.mpr ⟨(i, a), e1, by rw [← e2]⟩) h.1
      · exact ih h.2 i j a e1 e2
theorem Sts.entry {G : Gp} {Z : List Addr} {H : Hp} {vs : List V} {svs : List SV} {B : Own} {N : List Str} (h : ArgsOk G Z H 0 vs svs B) (z : ZOk Z H) (nd : (B.map (·.2)).Nodup) (hn : svs.length ≤ N.length) :
    Sts G ⟨H, Z, B⟩ B (start N vs) (entry N.length svs) H := by
  have key : Same (hid Z H) (hid (zs ⟨H, Z, B⟩ B) H) := hid_less fun a ha => by
    rcases mem_zs.mp ha with ha | ⟨i, ha⟩
    · exact ha
    · exact (h.inB i a ha).1
  refine ⟨?_, fun i d e => ?_, fun i xs e => ?_, fun i xs e => ?_, fun i a e => ?_, fun i j a b e1 e2 => ⟨fun q => ?_, fun q => ?_⟩, fun i a e => ?_, fun a o e _ => e, z⟩
  · unfold L2.start Dv.entry
    rw [List.length_append, List.length_append, List.length_map, List.length_map, List.length_replicate, List.length_replicate, h.len]
  · obtain ⟨v, h1, h2⟩ := h.imAt i d (entry_some e)
    exact ⟨v, start_of h1, h2.mono key⟩
  · exact absurd (entry_some e) (h.noOw i xs)
  · obtain ⟨a, ws, h1, h2, h3, h4⟩ := h.boAt i xs (entry_some e)
    rw [Nat.zero_add] at h1
    exact ⟨a, h1, h1, start_of h2, ws, h3, h4.mono key⟩
  · obtain ⟨_, j, xs, e1, e2, _⟩ := h.inB i a e
    rw [Nat.zero_add] at e1
    subst e1
    exact ⟨xs, .inr (entry_of e2)⟩
  · subst q
    obtain ⟨_, k1, _, q1, _, q3⟩ := h.inB i a e1
    obtain ⟨_, k2, _, q4, _, q5⟩ := h.inB i b e2
    have : k1 = k2 := by omega
    subst this
    rw [q3] at q5
    cases q5
    rfl
  · subst q
    exact nd_fst nd i j a e1 e2
  · obtain ⟨_, j, xs, e1, e2, _⟩ := h.inB i a e
    rw [Nat.zero_add] at e1
    subst e1
    exact ⟨e, xs, entry_of e2⟩
def runF (n : Nat) (f : SS) : FD := fun svs => match f (entry n svs) with
  | .ok .nx ρ => some (.im .non, bos ρ)
  | .ok (.rt d) ρ => some (.im d, bos ρ)
  | .ok (.rn xs) ρ => some (.nw xs, bos ρ)
  | _ => none
structure FnG (P : Program) (w : World) (K : PySem.W.Frag) (mg : Str → Option Value) (base : Heap) (CX : CXT) (k : Nat) (f : Addr) (fd : FuncData) (ps : List Str) (sp : Sp) : Prop where
  len : ∀ vs H Q E, sp vs H Q E → vs.length = ps.length
  go : ∀ (A : Around) (outer : List Env) (s : Shared) (H : Hp) (args : Args) (us : List Value) (vs : List V) (Q : VK) (E : XK), Room k A → A.guards = some [] → Env0 P w K mg base A outer s H →
    BindsTo s fd args (ps.zip us) → Vals vs us → sp vs H Q E → codeAny (model P w) A (.call (.ref f) args) (CR CX outer P w H s Q E) s
theorem FnG.up {P : Program} {w : World} {K : PySem.W.Frag} {mg : Str → Option Value} {base : Heap} {CX : CXT} {j k : Nat} {f : Addr} {fd : FuncData} {ps : List Str} {sp : Sp} (h : FnG P w K mg base CX j f fd ps sp) (q : j ≤ k) : FnG P w K mg base CX k f fd ps sp :=
  ⟨h.len, fun A o s H args us vs Q E r => h.go A o s H args us vs Q E (r.mono q)⟩
section
variable {X : Cx} {CX : CXT} {k : Nat} {f : Addr} {fd : FuncData} {ps : List Str} {sp : Sp} {E : XK} {x : Str} {p pos : Pos} {e : Expr} {es : List Expr} {t : TA} {dvs : List V} {dus : List Value}
theorem callG {pins : List (Addr × Obj)} {σ : St} {H : Hp} {s : Shared} {Q : VK} {us : List Value} {vs : List V} (h : FnG X.prog X.w X.K X.mg X.base CX k f fd ps sp) (hr : Room k X.A) (gd : X.A.guards = some []) (hb : Binds X.K fd ps dus) (hd : Vals dvs dus) (hx : Passes CX X E)
    (I : Inv X pins σ H s) (r : Vals vs us) (q : sp (vs ++ dvs) H Q E) : wpAny (model X.prog X.w) X.A (call (.ref f) us) (EP X pins σ Q) X.xe s := by
  have rr : Vals (vs ++ dvs) (us ++ dus) := r.append hd
  have len : (us ++ dus).length = ps.length := rr.length ▸ h.len _ _ _ _ q
  apply wpAny_call
  apply codeAny_mono (h.go X.A X.stack s H ⟨us, []⟩ (us ++ dus) (vs ++ dvs) Q E hr gd I.env0 (hb s us I.kIn len) rr q)
  intro res s' hq
  cases res with
  | error e => exact hx pins σ H s e s' I hq
  | ok fl =>
    cases fl with
    | ret u => exact I.after hq
    | _ => exact False.elim hq
theorem pe_callG (h : FnG X.prog X.w X.K X.mg X.base CX k f fd ps sp) (hr : Room k X.A) (gd : X.A.guards = some []) (hg : Gl X x) (hm : X.mg x = some (.ref f)) (hk : PySem.W.keepIn X.K (.ref f) = true) (hb : Binds X.K fd ps dus) (hd : Vals dvs dus) (hx : Passes CX X E)
    (ha : PA X (e :: es) t) (hdb : (x == ("__debug__" : Str)) = false := by decide) (he : starEach (e :: es) X.env = (false, eval e X.env) :: starEach es X.env := by rfl) (hpl : (backTo pos (starEach es X.env)).any (·.1) = false := by rfl) :
    PE X (.Call (.Name x p) (e :: es) [] pos) (tCall sp dvs E t) := by
  constructor
  intro pins s σ H Q I hw
  apply wpAny_Call_Name_kw
  apply ld_glob I hg hm (hd := hdb)
  apply PySem.W.callWith_K (h₀ := X.base) I.ok.mod.kin hk (he := he) (hplain := hpl)
  apply thn (ha.run pos pins s σ H _ I hw)
  rintro us s1 ⟨vs, H1, I1, r, q⟩
  exact ⟨I1.kIn, callG h hr gd hb hd hx I1 r q⟩
end
def toSV (ρ : Rho) : RV → Option SV
  | .im d => some (.im d)
  | .al i => match ρ[i]? with
    | some (some (.ow xs)) => some (.bo xs)
    | some (some (.bo xs)) => some (.bo xs)
    | _ => none
def toSVs (ρ : Rho) : List RV → Option (List SV)
  | [] => some []
  | r :: rs => match toSV ρ r, toSVs ρ rs with
    | some x, some xs => some (x :: xs)
    | _, _ => none
def noAl (i : Nat) : List RV → Bool
  | [] => true
  | .al j :: rs => (i != j) && noAl i rs
  | .im _ :: rs => noAl i rs
def apart : List RV → Bool
  | [] => true
  | .al i :: rs => noAl i rs && apart rs
  | .im _ :: rs => apart rs
def putBack (outs : Outs) : Nat → List RV → Rho → Option Rho
  | _, [], ρ => some ρ
  | k, .im _ :: rs, ρ => putBack outs (k + 1) rs ρ
  | k, .al i :: rs, ρ => match bosAt outs k, ρ[i]? with
    | some xs, some (some (.ow _)) => putBack outs (k + 1) rs (ρ.set i (some (.ow xs)))
    | some xs, some (some (.bo _)) => putBack outs (k + 1) rs (ρ.set i (some (.bo xs)))
    | _, _ => none
def uCall (g : FD) (rs : List RV) : M FR := fun ρ => match apart rs with
  | true => match toSVs ρ rs with
    | some svs => match g svs with
      | some (fr, outs) => match putBack outs 0 rs ρ with
        | some ρ' => .ok fr ρ'
        | none => .no
      | none => .no
    | none => .no
  | false => .no
def LentOk (A : Own) : Nat → List RV → Own → Prop
  | _, [], B => B = []
  | k, .im _ :: rs, B => LentOk A (k + 1) rs B
  | k, .al i :: rs, B => ∃ a B', B = (k, a) :: B' ∧ (i, a) ∈ A ∧ LentOk A (k + 1) rs B'
theorem noAl_ne {i j : Nat} : ∀ {rs : List RV}, noAl i rs = true → .al j ∈ rs → i ≠ j
  | .al k :: rs, h, m => by
    rw [noAl, Bool.and_eq_true] at h
    rcases List.mem_cons.mp m with m | m
    · cases m; simpa using h.1
    · exact noAl_ne h.2 m
  | .im _ :: rs, h, m => by
    rcases List.mem_cons.mp m with m | m
    · cases m
    · exact noAl_ne (rs := rs) h m
theorem LentOk.mem {A : Own} : ∀ {rs : List RV} {k : Nat} {B : Own} {j : Nat} {a : Addr}, LentOk A k rs B → (j, a) ∈ B → ∃ i, (i, a) ∈ A ∧ .al i ∈ rs
  | [], k, B, j, a, h, m => by cases (show B = [] from h); cases m
  | .im _ :: rs, k, B, j, a, h, m => by
    obtain ⟨i, h1, h2⟩ := LentOk.mem (rs := rs) (show LentOk A (k + 1) rs B from h) m
    exact ⟨i, h1, List.mem_cons_of_mem _ h2⟩
  | .al i :: rs, k, B, j, a, h, m => by
    obtain ⟨b, B', rfl, hb, h⟩ := h
    rcases List.mem_cons.mp m with m | m
    · cases m; exact ⟨i, hb, List.mem_cons_self⟩
    · obtain ⟨i', h1, h2⟩ := LentOk.mem (rs := rs) h m
      exact ⟨i', h1, List.mem_cons_of_mem _ h2⟩
theorem LentOk.nd {G : Gp} {F : Fm} {A : Own} {σ : St} {ρ : Rho} {H : Hp} (S : Sts G F A σ ρ H) : ∀ {rs : List RV} {k : Nat} {B : Own}, LentOk A k rs B → apart rs = true → (B.map (·.2)).Nodup
  | [], k, B, h, _ => by cases (show B = [] from h); exact List.nodup_nil
  | .im _ :: rs, k, B, h, ap => LentOk.nd S (rs := rs) (show LentOk A (k + 1) rs B from h) ap
  | .al i :: rs, k, B, h, ap => by
    obtain ⟨b, B', rfl, hb, h⟩ := h
    rw [apart, Bool.and_eq_true] at ap
    rw [List.map_cons, List.nodup_cons]
    refine ⟨fun m => ?_, LentOk.nd S h ap.2⟩
    obtain ⟨⟨j, c⟩, m1, m2⟩ := List.mem_map.mp m
    obtain ⟨i', h1, h2⟩ := h.mem m1
    dsimp only at m2
    subst m2
    exact noAl_ne ap.1 h2 ((S.uni i i' _ _ hb h1).mpr rfl)
theorem lend {G : Gp} {F : Fm} {A : Own} {σ : St} {ρ : Rho} {H : Hp} (S : Sts G F A σ ρ H) : ∀ {vs : List V} {rs : List RV} (k : Nat) {svs : List SV}, RRs G F A H vs rs → toSVs ρ rs = some svs → ∃ B, ArgsOk G (zs F A) H k vs svs B ∧ LentOk A k rs B
  | _, _, k, svs, .nil, e => by cases e; exact ⟨[], .nil k, rfl⟩
  | _, _, k, svs, .cons (r := r) (rs := rs) q h, e => by
    simp only [toSVs] at e
    split at e
    · rename_i x xs e1 e2
      cases e
      obtain ⟨B, h1, h2⟩ := lend S (k + 1) h e2
      cases r with
      | im d => cases e1; exact ⟨B, .im q h1, h2⟩
      | al i =>
        obtain ⟨a, ha, rfl⟩ := q
        have az : a ∈ zs F A := mem_zs.mpr (.inr ⟨i, ha⟩)
        simp only [toSV] at e1
        split at e1
        · rename_i ys e3
          cases e1
          obtain ⟨b, hb, _, _, _, ws, h3, h4⟩ := S.ow i _ e3
          obtain rfl := (S.uni i i a b ha hb).mp rfl
          exact ⟨_, .bo az h3 h4 h1, a, B, rfl, ha, h2⟩
        · rename_i ys e3
          cases e1
          obtain ⟨b, hb, _, _, ws, h3, h4⟩ := S.bo i _ e3
          obtain rfl := (S.uni i i a b ha hb).mp rfl
          exact ⟨_, .bo az h3 h4 h1, a, B, rfl, ha, h2⟩
        · cases e1
    · cases e
theorem Sts.back1 {G : Gp} {F : Fm} {A : Own} {σ : St} {ρ : Rho} {H : Hp} {i : Nat} {a : Addr} {xs : List D} {ws : List V} {x : SV} (S : Sts G F A σ ρ H) (ha : (i, a) ∈ A) (h1 : H a = some (.lst ws)) (h2 : RDs G (hid (zs F A) H) ws xs)
    (hx : ((∃ ys, ρ[i]? = some (some (.ow ys))) ∧ x = .ow xs) ∨ ((∃ ys, ρ[i]? = some (some (.bo ys))) ∧ x = .bo xs)) : Sts G F A σ (ρ.set i (some x)) H := by
  have hi : i < ρ.length := by
    rcases hx with ⟨⟨ys, h⟩, _⟩ | ⟨⟨ys, h⟩, _⟩ <;> exact (List.getElem?_eq_some_iff.mp h).1
  refine ⟨by rw [List.length_set]; exact S.len, fun j d e => ?_, fun j ys e => ?_, fun j ys e => ?_, fun j b e => ?_, S.uni, fun j b e => ?_, S.keep, S.zok⟩
  · by_cases z : i = j
    · subst z
      rw [List.getElem?_set_self hi] at e
      rcases hx with ⟨_, rfl⟩ | ⟨_, rfl⟩ <;> cases e
    · rw [List.getElem?_set_ne z] at e
      exact S.im j d e
  · by_cases z : i = j
    · subst z
      rw [List.getElem?_set_self hi] at e
      rcases hx with ⟨⟨zs', h⟩, rfl⟩ | ⟨_, rfl⟩
      · cases e
        obtain ⟨b, g1, g2, g3, g4, _⟩ := S.ow i _ h
        obtain rfl := (S.uni i i a b ha g1).mp rfl
        exact ⟨a, ha, g2, g3, g4, ws, h1, h2⟩
      · cases e
    · rw [List.getElem?_set_ne z] at e
      exact S.ow j ys e
  · by_cases z : i = j
    · subst z
      rw [List.getElem?_set_self hi] at e
      rcases hx with ⟨_, rfl⟩ | ⟨⟨zs', h⟩, rfl⟩
      · cases e
      · cases e
        obtain ⟨b, g1, g2, g3, _⟩ := S.bo i _ h
        obtain rfl := (S.uni i i a b ha g1).mp rfl
        exact ⟨a, ha, g2, g3, ws, h1, h2⟩
    · rw [List.getElem?_set_ne z] at e
      exact S.bo j ys e
  · by_cases z : i = j
    · subst z
      rw [List.getElem?_set_self hi]
      rcases hx with ⟨_, rfl⟩ | ⟨_, rfl⟩
      · exact ⟨xs, .inl rfl⟩
      · exact ⟨xs, .inr rfl⟩
    · rw [List.getElem?_set_ne z]
      exact S.own j b e
  · obtain ⟨g1, ys, g2⟩ := S.bor j b e
    refine ⟨g1, ?_⟩
    by_cases z : i = j
    · subst z
      rw [List.getElem?_set_self hi]
      rcases hx with ⟨⟨zs', h⟩, rfl⟩ | ⟨_, rfl⟩
      · rw [h] at g2; cases g2
      · exact ⟨xs, rfl⟩
    · rw [List.getElem?_set_ne z]
      exact ⟨ys, g2⟩
structure Sts' (G : Gp) (F : Fm) (A : Own) (σ : St) (ρ : Rho) (H : Hp) (L : List RV) : Prop where
  len : σ.length = ρ.length
  im : ∀ (i : Nat) d, ρ[i]? = some (some (.im d)) → ∃ v, σ[i]? = some (some v) ∧ RD G (hid (zs F A) H) v d
  ow : ∀ (i : Nat) xs, ρ[i]? = some (some (.ow xs)) → ∃ a, (i, a) ∈ A ∧ a ∉ F.Z ∧ F.H0 a = none ∧ σ[i]? = some (some (.ref a)) ∧ (.al i ∉ L → OwAt G F A σ H i a xs)
  bo : ∀ (i : Nat) xs, ρ[i]? = some (some (.bo xs)) → ∃ a, (i, a) ∈ A ∧ (i, a) ∈ F.B ∧ σ[i]? = some (some (.ref a)) ∧ (.al i ∉ L → OwAt G F A σ H i a xs)
  own : ∀ (i : Nat) a, (i, a) ∈ A → ∃ xs, ρ[i]? = some (some (.ow xs)) ∨ ρ[i]? = some (some (.bo xs))
  uni : ∀ (i j : Nat) a b, (i, a) ∈ A → (j, b) ∈ A → (i = j ↔ a = b)
  bor : ∀ (i : Nat) a, (i, a) ∈ F.B → (i, a) ∈ A ∧ ∃ xs, ρ[i]? = some (some (.bo xs))
  keep : ∀ a o, F.H0 a = some o → (∀ i, (i, a) ∉ F.B) → H a = some o
  zok : ZOk F.Z H
theorem Sts'.done {G : Gp} {F : Fm} {A : Own} {σ : St} {ρ : Rho} {H : Hp} (S : Sts' G F A σ ρ H []) : Sts G F A σ ρ H :=
  ⟨S.len, S.im, fun i xs e => let ⟨a, h1, h2, h3, h4, h5⟩ := S.ow i xs e; ⟨a, h1, h2, h3, h5 (fun z => nomatch z)⟩, fun i xs e => let ⟨a, h1, h2, h4, h5⟩ := S.bo i xs e; ⟨a, h1, h2, h5 (fun z => nomatch z)⟩, S.own, S.uni, S.bor, S.keep, S.zok⟩
theorem Sts'.skip {G : Gp} {F : Fm} {A : Own} {σ : St} {ρ : Rho} {H : Hp} {d : D} {L : List RV} (S : Sts' G F A σ ρ H (.im d :: L)) : Sts' G F A σ ρ H L := by
  have e : ∀ {i : Nat}, RV.al i ∉ L → RV.al i ∉ RV.im d :: L := fun h z => by
    rcases List.mem_cons.mp z with z | z
    · cases z
    · exact h z
  exact ⟨S.len, S.im, fun i xs q => let ⟨a, h1, h2, h3, h4, h5⟩ := S.ow i xs q; ⟨a, h1, h2, h3, h4, fun z => h5 (e z)⟩, fun i xs q => let ⟨a, h1, h2, h4, h5⟩ := S.bo i xs q; ⟨a, h1, h2, h4, fun z => h5 (e z)⟩, S.own, S.uni, S.bor, S.keep, S.zok⟩
theorem Sts'.one {G : Gp} {F : Fm} {A : Own} {σ : St} {ρ : Rho} {H : Hp} {i : Nat} {a : Addr} {xs : List D} {ws : List V} {x : SV} {L : List RV} (S : Sts' G F A σ ρ H (.al i :: L)) (ha : (i, a) ∈ A) (h1 : H a = some (.lst ws)) (h2 : RDs G (hid (zs F A) H) ws xs)
    (hx : ((∃ ys, ρ[i]? = some (some (.ow ys))) ∧ x = .ow xs) ∨ ((∃ ys, ρ[i]? = some (some (.bo ys))) ∧ x = .bo xs)) : Sts' G F A σ (ρ.set i (some x)) H L := by
  have hi : i < ρ.length := by
    rcases hx with ⟨⟨ys, h⟩, _⟩ | ⟨⟨ys, h⟩, _⟩ <;> exact (List.getElem?_eq_some_iff.mp h).1
  have e0 : ∀ {j : Nat}, i ≠ j → RV.al j ∉ L → RV.al j ∉ RV.al i :: L := fun n h z => by
    rcases List.mem_cons.mp z with z | z
    · cases z; exact n rfl
    · exact h z
  refine ⟨by rw [List.length_set]; exact S.len, fun j d e => ?_, fun j ys e => ?_, fun j ys e => ?_, fun j b e => ?_, S.uni, fun j b e => ?_, S.keep, S.zok⟩
  · by_cases z : i = j
    · subst z
      rw [List.getElem?_set_self hi] at e
      rcases hx with ⟨_, rfl⟩ | ⟨_, rfl⟩ <;> cases e
    · rw [List.getElem?_set_ne z] at e
      exact S.im j d e
  · by_cases z : i = j
    · subst z
      rw [List.getElem?_set_self hi] at e
      rcases hx with ⟨⟨zs', h⟩, rfl⟩ | ⟨_, rfl⟩
      · cases e
        obtain ⟨b, g1, g2, g3, g4, _⟩ := S.ow i _ h
        obtain rfl := (S.uni i i a b ha g1).mp rfl
        exact ⟨a, ha, g2, g3, g4, fun _ => ⟨g4, ws, h1, h2⟩⟩
      · cases e
    · rw [List.getElem?_set_ne z] at e
      obtain ⟨b, g1, g2, g3, g4, g5⟩ := S.ow j ys e
      exact ⟨b, g1, g2, g3, g4, fun q => g5 (e0 z q)⟩
  · by_cases z : i = j
    · subst z
      rw [List.getElem?_set_self hi] at e
      rcases hx with ⟨_, rfl⟩ | ⟨⟨zs', h⟩, rfl⟩
      · cases e
      · cases e
        obtain ⟨b, g1, g2, g3, _⟩ := S.bo i _ h
        obtain rfl := (S.uni i i a b ha g1).mp rfl
        exact ⟨a, ha, g2, g3, fun _ => ⟨g3, ws, h1, h2⟩⟩
    · rw [List.getElem?_set_ne z] at e
      obtain ⟨b, g1, g2, g4, g5⟩ := S.bo j ys e
      exact ⟨b, g1, g2, g4, fun q => g5 (e0 z q)⟩
  · by_cases z : i = j
    · subst z
      rw [List.getElem?_set_self hi]
      rcases hx with ⟨_, rfl⟩ | ⟨_, rfl⟩
      · exact ⟨xs, .inl rfl⟩
      · exact ⟨xs, .inr rfl⟩
    · rw [List.getElem?_set_ne z]
      exact S.own j b e
  · obtain ⟨g1, ys, g2⟩ := S.bor j b e
    refine ⟨g1, ?_⟩
    by_cases z : i = j
    · subst z
      rw [List.getElem?_set_self hi]
      rcases hx with ⟨⟨zs', h⟩, rfl⟩ | ⟨_, rfl⟩
      · rw [h] at g2; cases g2
      · exact ⟨xs, rfl⟩
    · rw [List.getElem?_set_ne z]
      exact ⟨ys, g2⟩
theorem take_back {G : Gp} {F : Fm} {A : Own} {σ : St} {H : Hp} {outs : Outs} : ∀ {rs : List RV} {k : Nat} {B : Own} {ρ ρ' : Rho}, Sts' G F A σ ρ H rs → LentOk A k rs B → (∀ (j : Nat) a, (j, a) ∈ B → ∃ xs ws, bosAt outs j = some xs ∧ H a = some (.lst ws) ∧ RDs G (hid (zs F A) H) ws xs) →
    putBack outs k rs ρ = some ρ' → Sts G F A σ ρ' H
  | [], k, B, ρ, ρ', S, _, _, e => by cases e; exact S.done
  | .im _ :: rs, k, B, ρ, ρ', S, h, ho, e => take_back (rs := rs) (k := k + 1) S.skip h ho e
  | .al i :: rs, k, B, ρ, ρ', S, h, ho, e => by
    obtain ⟨a, B', rfl, ha, h⟩ := h
    obtain ⟨xs, ws, q1, q2, q3⟩ := ho k a List.mem_cons_self
    simp only [putBack, q1] at e
    split at e
    · rename_i xs' ys e1 e2
      cases e1
      exact take_back (S.one ha q2 q3 (.inl ⟨⟨ys, e2⟩, rfl⟩)) h (fun j b m => ho j b (List.mem_cons_of_mem _ m)) e
    · rename_i xs' ys e1 e2
      cases e1
      exact take_back (S.one ha q2 q3 (.inr ⟨⟨ys, e2⟩, rfl⟩)) h (fun j b m => ho j b (List.mem_cons_of_mem _ m)) e
    · cases e
theorem user_rd {G : Gp} {F : Fm} {A : Own} {σ : St} {ρ ρ' : Rho} {H : Hp} {vs : List V} {rs : List RV} {g : FD} {fr : FR} {Q : VK} {E : XK} (S : Sts G F A σ ρ H) (r : RRs G F A H vs rs) (e : uCall g rs ρ = .ok fr ρ')
    (q : ∀ v H', Sts G F A σ ρ' H' → Stp A H H' → RetOk G (zs F A) H H' v fr → Q v H') : spD G g vs H Q E := by
  unfold uCall at e
  split at e
  · rename_i ap
    split at e
    · rename_i svs e1
      split at e
      · rename_i fr' outs e2
        split at e
        · rename_i ρ2 e3
          cases e
          obtain ⟨B, h1, h2⟩ := lend S 0 r e1
          have inA : ∀ j a, (j, a) ∈ B → ∃ i, (i, a) ∈ A ∧ .al i ∈ rs := fun j a m => h2.mem m
          refine ⟨zs F A, svs, B, fr, outs, S.zall, h1, h2.nd S ap, e2, fun v H' m o ret => ?_⟩
          have mA : Stp A H H' := fun a u hu n => m a u hu fun j z => let ⟨i, hi, _⟩ := inA j a z; n i hi
          have hs := mA.hid (F := F)
          refine q v H' ?_ mA ret
          refine take_back (rs := rs) (k := 0) (B := B) (outs := outs) (ρ := ρ) ⟨S.len, fun i d h => ?_, fun i xs h => ?_, fun i xs h => ?_, S.own, S.uni, S.bor, fun a u h n => ?_, fun a ha => ?_⟩ h2 o e3
          · obtain ⟨w, h3, h4⟩ := S.im i d h
            exact ⟨w, h3, h4.mono hs⟩
          · obtain ⟨a, h3, h4, h5, h6, ws, h7, h8⟩ := S.ow i xs h
            refine ⟨a, h3, h4, h5, h6, fun nl => ⟨h6, ws, m a _ h7 fun j z => ?_, h8.mono hs⟩⟩
            obtain ⟨i', h9, h10⟩ := inA j a z
            obtain rfl := (S.uni i i' a a h3 h9).mpr rfl
            exact nl h10
          · obtain ⟨a, h3, h5, h6, ws, h7, h8⟩ := S.bo i xs h
            refine ⟨a, h3, h5, h6, fun nl => ⟨h6, ws, m a _ h7 fun j z => ?_, h8.mono hs⟩⟩
            obtain ⟨i', h9, h10⟩ := inA j a z
            obtain rfl := (S.uni i i' a a h3 h9).mpr rfl
            exact nl h10
          · refine m a u (S.keep a u h n) fun j z => ?_
            obtain ⟨i, h3, _⟩ := inA j a z
            obtain ⟨xs, h4 | h4⟩ := S.own i a h3
            · obtain ⟨b, g1, _, g2, _⟩ := S.ow i xs h4
              obtain rfl := (S.uni i i a b h3 g1).mp rfl
              rw [g2] at h; cases h
            · obtain ⟨b, g1, g2, _⟩ := S.bo i xs h4
              obtain rfl := (S.uni i i a b h3 g1).mp rfl
              exact n i g2
          · intro z
            cases hu : H a with
            | none => exact S.zok a ha hu
            | some u =>
              by_cases hb : ∃ j, (j, a) ∈ B
              · obtain ⟨j, hb⟩ := hb
                obtain ⟨xs, ws, _, h3, _⟩ := o j a hb
                rw [h3] at z; cases z
              · rw [m a u hu fun j y => hb ⟨j, y⟩] at z; cases z
        · cases e
      · cases e
    · cases e
  · cases e
def eUser (g : FD) (fs : M (List RV)) : ES := M.bind fs fun rs => M.bind (uCall g rs) fun fr => match fr with
  | .im d => M.ret (.im d)
  | .nw xs => M.ret (.im (.lst xs))
theorem user_tD {G : Gp} {F : Fm} {σ : St} {H : Hp} {g : FD} {fs : M (List RV)} {Q : VK} {E : XK} (h : tD G F (eUser g fs) σ H Q) : tCall (spD G g) [] E (tDs G F fs) σ H Q := by
  obtain ⟨A, ρ, r, ρ', S, e, q⟩ := h
  obtain ⟨rs, ρ1, e1, e⟩ := bind_ok e
  obtain ⟨fr, ρ2, e2, e⟩ := bind_ok e
  refine ⟨A, ρ, rs, ρ1, S, e1, fun vs H1 S1 m1 r1 => ?_⟩
  show spD G g (vs ++ []) H1 Q E
  rw [List.append_nil]
  refine user_rd S1 r1 e2 fun v H' S' m' ret => ?_
  cases fr with
  | im d =>
    obtain ⟨rfl, rfl⟩ := ret_ok e
    exact q v H' S' (m1.trans m') ret
  | nw xs =>
    obtain ⟨rfl, rfl⟩ := ret_ok e
    obtain ⟨p, ws, rfl, hp, h1, h2⟩ := ret
    refine q _ H' S' (m1.trans m') (.lst (SqL.of (hid_of (S1.zall.out hp) h1)) (h2.mono (hid_less fun a ha => List.mem_cons_of_mem _ ha)))
theorem zs_hide_eq {F : Fm} {A : Own} {H : Hp} {p : Addr} : Same (hid (p :: zs F A) H) (hid (zs (F.hide p) A) H) := hid_less fun a h => by
  rcases zs_hide.mp h with rfl | h
  · exact List.mem_cons_self
  · exact List.mem_cons_of_mem _ h
def allIm : List RV → Bool
  | [] => true
  | .im _ :: rs => allIm rs
  | .al _ :: _ => false
theorem allIm_B {A : Own} : ∀ {rs : List RV} {k : Nat} {B : Own}, allIm rs = true → LentOk A k rs B → B = []
  | [], _, _, _, h => h
  | .im _ :: rs, k, _, e, h => allIm_B (rs := rs) (k := k + 1) e h
  | .al _ :: _, _, _, e, _ => by cases e
theorem putBack_im {outs : Outs} {ρ : Rho} : ∀ {rs : List RV} {k : Nat}, allIm rs = true → putBack outs k rs ρ = some ρ
  | [], _, _ => rfl
  | .im _ :: rs, k, e => putBack_im (rs := rs) (k := k + 1) e
  | .al _ :: _, _, e => by cases e
def nUser (g : FD) (fs : M (List RV)) : M (List D) := M.bind fs fun rs => match allIm rs with
  | true => M.bind (uCall g rs) fun fr => match fr with
    | .nw xs => M.ret xs
    | .im _ => fun _ => .no
  | false => fun _ => .no
theorem user_rdN {G : Gp} {F : Fm} {A : Own} {σ : St} {ρ ρ' : Rho} {H : Hp} {vs : List V} {rs : List RV} {g : FD} {fr : FR} {Q : VK} {E : XK} (S : Sts G F A σ ρ H) (r : RRs G F A H vs rs) (ai : allIm rs = true) (e : uCall g rs ρ = .ok fr ρ')
    (q : ∀ v H', ρ' = ρ → Same H H' → RetOk G (zs F A) H H' v fr → Q v H') : spD G g vs H Q E := by
  unfold uCall at e
  split at e
  · split at e
    · rename_i svs e1
      split at e
      · rename_i fr' outs e2
        rw [putBack_im ai] at e
        cases e
        obtain ⟨B, h1, h2⟩ := lend S 0 r e1
        obtain rfl := allIm_B ai h2
        exact ⟨zs F A, svs, [], fr, outs, S.zall, h1, List.nodup_nil, e2, fun v H' m o ret => q v H' rfl (fun a u hu => m a u hu fun j z => nomatch z) ret⟩
      · cases e
    · cases e
  · cases e
theorem user_tN {G : Gp} {F : Fm} {σ : St} {H : Hp} {g : FD} {fs : M (List RV)} {Q : VK} {E : XK} (h : tN G F (nUser g fs) σ H Q) : tCall (spD G g) [] E (tDs G F fs) σ H Q := by
  obtain ⟨A, ρ, r, ρ', S, e, q⟩ := h
  obtain ⟨rs, ρ1, e1, e⟩ := bind_ok e
  cases ai : allIm rs with
  | false => rw [ai] at e; cases e
  | true =>
    rw [ai] at e
    obtain ⟨fr, ρ2, e2, e⟩ := bind_ok e
    refine ⟨A, ρ, rs, ρ1, S, e1, fun vs H1 S1 m1 r1 => ?_⟩
    show spD G g (vs ++ []) H1 Q E
    rw [List.append_nil]
    refine user_rdN S1 r1 ai e2 fun v H' e3 sm ret => ?_
    cases fr with
    | im d => cases e
    | nw xs =>
      obtain ⟨rfl, rfl⟩ := ret_ok e
      obtain ⟨p, ws, rfl, hp, h1, h2⟩ := ret
      rw [e3] at q
      exact q p ws H' (S1.hide hp sm (by rw [h1]; exact fun z => nomatch z)) (S1.h0 hp) (S1.zall.out hp) (m1.trans (Stp.of sm)) (back_none S m1 S1 hp) h1 (h2.mono zs_hide_eq)
theorem user_call {X : Cx} {k : Nat} {f : Addr} {fd : FuncData} {ps : List Str} {g : FD} {x : Str} {p pos : Pos} {e : Expr} {es : List Expr} {fs : M (List RV)} (h : FnG X.prog X.w X.K X.mg X.base CX0 k f fd ps (spD (Gx X) g)) (hr : Room k X.A) (gd : X.A.guards = some []) (hg : Gl X x) (hm : X.mg x = some (.ref f))
    (hk : PySem.W.keepIn X.K (.ref f) = true) (hb : Binds X.K fd ps []) (ha : DA X (e :: es) fs) (hdb : (x == ("__debug__" : Str)) = false := by decide) (he : starEach (e :: es) X.env = (false, eval e X.env) :: starEach es X.env := by rfl)
    (hpl : (backTo pos (starEach es X.env)).any (·.1) = false := by rfl) : DE X (.Call (.Name x p) (e :: es) [] pos) (eUser g fs) := ⟨fun F => pe_imp (pe_callG h hr gd hg hm hk hb .nil pass0 (ha.run F) hdb he hpl) fun σ H Q q => user_tD (E := E0) q⟩
theorem user_callN {X : Cx} {k : Nat} {f : Addr} {fd : FuncData} {ps : List Str} {g : FD} {x : Str} {p pos : Pos} {e : Expr} {es : List Expr} {fs : M (List RV)} (h : FnG X.prog X.w X.K X.mg X.base CX0 k f fd ps (spD (Gx X) g)) (hr : Room k X.A) (gd : X.A.guards = some []) (hg : Gl X x) (hm : X.mg x = some (.ref f))
    (hk : PySem.W.keepIn X.K (.ref f) = true) (hb : Binds X.K fd ps []) (ha : DA X (e :: es) fs) (hdb : (x == ("__debug__" : Str)) = false := by decide) (he : starEach (e :: es) X.env = (false, eval e X.env) :: starEach es X.env := by rfl)
    (hpl : (backTo pos (starEach es X.env)).any (·.1) = false := by rfl) : DN X (.Call (.Name x p) (e :: es) [] pos) (nUser g fs) := ⟨fun F => pe_imp (pe_callG h hr gd hg hm hk hb .nil pass0 (ha.run F) hdb he hpl) fun σ H Q q => user_tN (E := E0) q⟩
def defF (n m : Nat) (f : SS) : FD := fun svs => match decide (svs.length = n) with
  | true => runF m f svs
  | false => none
theorem body_ok {X : Cx} {body : List Stmt} {f : SS} {N : List Str} {H : Hp} {vs : List V} {Q : VK} {E : XK} {n : Nat} (hn : n ≤ N.length) (h : DSs X body f) (q : spD (Gx X) (defF n N.length f) vs H Q E) :
    ∃ t, PSs X body t ∧ t { nx := fun _ H' => Q .non H', rt := Q } (start N vs) H := by
  obtain ⟨Z, svs, B, fr, outs, z, ao, nd, e, k⟩ := q
  unfold defF at e
  split at e
  · rename_i hl
    have hl := of_decide_eq_true hl
    refine ⟨_, h.run ⟨H, Z, B⟩, B, entry N.length svs, Sts.entry ao z nd (by omega), ?_⟩
    have fin : ∀ {A' σ' ρ' H'}, Sts (Gx X) ⟨H, Z, B⟩ A' σ' ρ' H' → Stp B H H' ∧ OutsOk (Gx X) Z H' B (bos ρ') := fun {A' σ' ρ' H'} S => by
      refine ⟨fun a o h n => S.keep a o h n, fun i a hb => ?_⟩
      obtain ⟨h1, xs, h2⟩ := S.bor i a hb
      obtain ⟨b, h3, h4, _, ws, h5, h6⟩ := S.bo i xs h2
      obtain rfl := (S.uni i i a b h1 h3).mp rfl
      exact ⟨xs, ws, bos_at ρ' i xs h2, h5, h6.mono zs_Z⟩
    unfold runF at e
    split at e
    · rename_i ρ' e1
      cases e
      rw [e1]
      exact fun A' σ' H' S m => k .non H' (fin S).1 (fin S).2 .non
    · rename_i d ρ' e1
      cases e
      rw [e1]
      exact fun v A' σ' H' S r => k v H' (fin S).1 (fin S).2 r
    · rename_i xs ρ' e1
      cases e
      rw [e1]
      exact fun p ws A' σ' H' S h0 hp r => k (.ref p) H' (fin S).1 (fin S).2 ⟨p, ws, rfl, h0, hp, r⟩
    · cases e
  · cases e
theorem spD_len {G : Gp} {n m : Nat} {f : SS} {vs : List V} {H : Hp} {Q : VK} {E : XK} (q : spD G (defF n m f) vs H Q E) : vs.length = n := by
  obtain ⟨Z, svs, B, fr, outs, z, ao, nd, e, k⟩ := q
  unfold defF at e
  split at e
  · rename_i hl
    rw [ao.len]; exact of_decide_eq_true hl
  · cases e
abbrev cxG (P : Program) (w : World) (K : PySem.W.Frag) (mg : Str → Option Value) (base : Heap) (N : List Str) (qual : Str) (sc : Scope) (f : Addr) (cdv : Value) (A : Around) (outer : List Env) (s : Shared) (H : Hp) (E : XK) : Cx := (cxOf CX0 P w K mg base N qual sc f cdv A outer s H E).nox
theorem fnG_ok {P : Program} {w : World} {K : PySem.W.Frag} {mg : Str → Option Value} {base : Heap} {x qual : Str} {pa : Arguments} {body : List Stmt} {sc : Scope} {f : Addr} {fd : FuncData} {N ps : List Str} {k : Nat} {g : SS} (D : FunD K x qual pa body sc [] [] f fd) (S : FnScope N ps sc)
    (h : ∀ (cdv : Value) (A : Around) (outer : List Env) (s : Shared) (H : Hp) (E : XK), Room k (A.deeper (envOfC qual sc s.heap.objs.size f cdv)) → A.guards = some [] → DSs (cxG P w K mg base N qual sc f cdv A outer s H E) body g) :
    FnG P w K mg base CX0 (k + 1) f fd ps (spD ⟨K, mg, P, w⟩ (defF ps.length N.length g)) := by
  obtain ⟨oc, od, dV, kV, doc, pm, an, cdv, ct, osl, rfl, lk, hcd, _, _⟩ := D.ex
  refine ⟨fun vs H Q E q => spD_len q, ?_⟩
  intro A outer s H args us vs Q E room gd e0 hb r q
  have hpl : ps.length ≤ N.length := by
    have z := congrArg List.length S.pre
    rw [List.length_take] at z
    omega
  have vl : vs.length = ps.length := spD_len q
  have kin : K.In s.heap := e0.mod.kin.keeps fun b o z => (e0.bs b o z).1
  have nl : s.heap.NoLimit := e0.mod.nolimit.keeps fun b o z => (e0.bs b o z).1
  have kinds : ∀ y ∈ ps.zip us, sc.names.lookup y.1 = some .local ∨ (sc.names.lookup y.1 = some .cell ∧ ((cellsFrom (s.heap.objs.size + 1) sc.names []).lookup y.1).isSome = true) := by
    rintro ⟨n, v⟩ hy
    have hp := S.par n (List.of_mem_zip hy).1
    rcases hp with hp | hp
    · exact .inl hp
    · exact .inr ⟨hp, PySem.W.cellsFrom_some _ _ _ (.inl hp)⟩
  apply codeAny_call_function room.depth (kin _ _ lk) rfl S.co S.gen rfl (PySem.W.codeRec_of kin hcd)
  apply hb
  apply wpAny_newFunctionEnv_cells S.kind kinds
  intro env he s1 ic
  subst he
  refine ⟨nl.keeps ic.toInCall.keep, codeAny_func ?_⟩
  obtain ⟨t, ht, hq⟩ := body_ok (E := E) hpl (h cdv A outer s H E (room.deeper _) gd) q
  have I := inv_start (CX := CX0) (P := P) (w := w) (K := K) (mg := mg) (base := base) (f := f) (cd := cdv) (A := A) (E := E) S room.hd e0 vl r ic
  have J := ht.nox.run [] s1 (start N vs) H _ I hq
  refine wpAny_mono J (fun fl s' hs => ?_) fun e s' hs => hs
  have done : ∀ {σ' : L2.St} {H' : Hp} {v : V} {u : Value}, Inv (cxOf CX0 P w K mg base N qual sc f cdv A outer s H E) [] σ' H' s' → RelV v u → Q v H' → CE outer P w H s Q u s' := fun {σ' H' v u} I' rv qv => ⟨v, H', I'.os, I'.bare, I'.base, I'.hok, rv, qv⟩
  cases fl with
  | next => obtain ⟨σ', H', I', qv⟩ := hs; exact done (v := .non) (u := .none) I' rfl qv
  | ret u => obtain ⟨v, σ', H', I', rv, qv⟩ := hs; exact done I' rv qv
  | brk => obtain ⟨_, _, _, z⟩ := hs; exact z.elim
  | cont => obtain ⟨_, _, _, z⟩ := hs; exact z.elim
theorem ints_rd {G : Gp} {H : Hp} {a : Addr} {ns : List Int} (h : SqL G.K H a (ns.map V.int)) : RD G H (.ref a) (.lst (ns.map D.int)) := .lst h (RDs.map_int ns)
theorem law_run {P : Program} {w : World} {K : PySem.W.Frag} {mg mb : Str → Option Value} {k : Nat} {fa a : Addr} {fd : FuncData} {x : Str} {g : FD} {s1 : Shared} {us : List Value} {ns : List Int}
    (kin : K.In s1.heap) (gn : s1.heap.Ns mainGlobals mg) (bn : s1.heap.Ns builtinsNs mb) (bb : ∀ y : Str, y ≠ "__name__" → mb y = bootBuiltins y) (nl : s1.heap.NoLimit) (g0 : s1.gens = #[])
    (ha : s1.heap.get? a = some { cls := .type "list", data := .seq us.toArray }) (ui : IntsAre us ns) (hl : ns.length ≤ sizeLine) (room : Room k callerA)
    (F : ∀ base : Heap, K.In base → base.Ns mainGlobals mg → FnG P w K mg base CX0 k fa fd [x] (spD ⟨K, mg, P, w⟩ g)) (hb : ∀ (s : Shared) (u : Value), BindsTo s fd ⟨[u], []⟩ [(x, u)])
    (fact : g [.im (.lst (ns.map D.int))] = some (.im (.bl true), [])) :
    codeAny (model P w) callerA (.call (.ref fa) ⟨[.ref a], []⟩) (fun r s' => r = .ok (.ret (.bool true)) ∧ OldK s1.heap s'.heap ∧ s'.os = s1.os ∧ AllBare s'.gens) s1 := by
  have rv := vals_ints ui
  have lv := ui.length
  have main : ∀ H : Hp, (∀ b, H b = none ∨ (b = a ∧ K.lookup a = none ∧ ∃ o xs, H b = some (.frz o (.lst xs)))) → SqL K H a (ns.map V.int) → HOk P w H s1.heap →
      codeAny (model P w) callerA (.call (.ref fa) ⟨[.ref a], []⟩) (fun r s' => r = .ok (.ret (.bool true)) ∧ OldK s1.heap s'.heap ∧ s'.os = s1.os ∧ AllBare s'.gens) s1 := by
    intro H hH hS hok
    have at_a : ∀ b, H b ≠ none → b = a ∧ K.lookup a = none := fun b z => by
      rcases hH b with q | ⟨q1, q2, _⟩
      · exact absurd q z
      · exact ⟨q1, q2⟩
    have nodict : ∀ {b : Addr} {o : Obj} {es : Array DictEntry} {ep : Nat}, s1.heap.get? b = some o → o.data = .dict es ep → H b = none := by
      intro b o es ep e d
      cases q : H b with
      | none => rfl
      | some u =>
        obtain ⟨rfl, _⟩ := at_a b (by rw [q]; exact fun z => nomatch z)
        rw [ha] at e
        cases e
        cases d
    have ns_hid : ∀ {b : Addr} {m : Str → Option Value}, s1.heap.Ns b m → (hidT s1.heap H).Ns b m := by
      rintro b m ⟨o, es, ep, e, d, r⟩
      exact ⟨o, es, ep, hidT_get e (nodict e d), d, r⟩
    have kinH : K.In (hidT s1.heap H) := by
      intro b o e
      refine hidT_get (kin b o e) ?_
      cases q : H b with
      | none => rfl
      | some u =>
        obtain ⟨rfl, z⟩ := at_a b (by rw [q]; exact fun z => nomatch z)
        rw [z] at e
        cases e
    have lim : (hidT s1.heap H).NoLimit := by
      obtain ⟨mc, q1, q2⟩ := nl
      exact ⟨mc, ns_hid q1, q2⟩
    have md : Mod K mg (hidT s1.heap H) := ⟨kinH, ns_hid gn, ⟨mb, ns_hid bn, bb⟩, lim⟩
    have e0 : Env0 P w K mg (hidT s1.heap H) callerA [] s1 H := by
      refine ⟨rfl, md, fun b o e => of_hidT e, Nat.le_of_eq (hidT_size _ _), trivial, ?_, hok, .of_eq g0⟩
      intro b z
      cases z
    have sp : spD ⟨K, mg, P, w⟩ g [.ref a] H (fun v _ => v = .bl true) fun _ _ _ => False := by
      refine ⟨[], _, [], .im (.bl true), [], fun b z => (nomatch z), .im (k := 0) ?_ (.nil _), List.nodup_nil, fact, fun v H' _ _ r => ?_⟩
      · exact (ints_rd (G := ⟨K, mg, P, w⟩) hS).mono fun b o e => hid_of List.not_mem_nil e
      · cases r; rfl
    refine codeAny_mono ((F _ kinH (ns_hid gn)).go callerA [] s1 H ⟨[.ref a], []⟩ [.ref a] [.ref a] _ _ room rfl e0 (hb s1 (.ref a)) (.cons rfl .nil) sp) ?_
    intro r s' h
    cases r with
    | error e => exact False.elim h
    | ok fl =>
      cases fl with
      | ret u =>
        obtain ⟨v, H', os, bare, un, hok', rv', hv⟩ := h
        subst hv
        obtain rfl : u = Value.bool true := rv'
        refine ⟨rfl, OldK.of_keep ?_, os, bare⟩
        intro b o e
        rcases hH b with q | ⟨_, _, ob, xs, q⟩
        · exact un.keep b o e q (fun z => nomatch z) (fun z => nomatch z)
        · obtain ⟨e1, _⟩ := hok b _ q
          obtain ⟨e2, _⟩ := hok' b _ (un.frzs b ob _ q)
          rw [e] at e1
          cases e1
          exact e2
      | _ => exact False.elim h
  cases hk : K.lookup a with
  | some o =>
    have e := kin a o hk
    rw [ha] at e
    cases e
    refine main (fun _ => none) (fun _ => .inl rfl) (.inr ⟨_, us.toArray, _, hk, rfl, rfl, rfl, ?_, ?_⟩) fun b u z => ?_
    · rw [List.size_toArray, lv]; exact hl
    · simpa using rv
    · cases (show (none : Option HO) = some u from z)
  | none =>
    refine main (fun b => if b = a then some (.frz { cls := .type "list", data := .seq us.toArray } (.lst (ns.map V.int))) else none) (fun b => ?_) (.inl (.inr ⟨{ cls := .type "list", data := .seq us.toArray }, if_pos rfl⟩)) fun b u z => ?_
    · by_cases hb : b = a
      · exact .inr ⟨hb, hk, _, _, if_pos hb⟩
      · exact .inl (if_neg hb)
    · by_cases hb : b = a
      · have z' := (if_pos hb).symm.trans z
        cases z'
        subst hb
        exact ⟨ha, by rw [List.length_map]; exact hl, us, _, rv, ha⟩
      · have z' := (if_neg hb).symm.trans z
        cases z'
theorem walkG {l : PySem.W.OpenLaw} {n k : Nat} {q : Program} {loose : List Str} {XP : (Str → Option Value) → Heap → Prop} {YP : World → Heap → Prop} {d : DefRec} {x : Str} (hn : l.most = some n) (hn2 : n ≤ sizeLine) (hdf : d.params.defaults = []) (room : Room k callerA)
    (F : ∀ (w : World) (mg : Str → Option Value) (fa : Addr) (h : Heap), YP w h → h.Ns mainGlobals mg → mg d.name = some (.ref fa) →
      ∃ (K : PySem.W.Frag) (fd : FuncData) (g : FD), K.In h ∧ (∀ (s : Shared) (u : Value), BindsTo s fd ⟨[u], []⟩ [(x, u)]) ∧ (∀ ns : List Int, ns.length ≤ n → g [.im (.lst (ns.map D.int))] = some (.im (.bl true), [])) ∧
        ∀ base : Heap, K.In base → base.Ns mainGlobals mg → FnG l.prog w K mg base CX0 k fa fd [x] (spD ⟨K, mg, l.prog, w⟩ g)) : PySem.W.WalkO q loose XP YP l.row.toRowW d [] (fun f vs => PySem.call f vs) := by
  apply Att.attach_call hn hdf
  intro w s0 s1 mg mb fa o pm cd doc a us ns G Y ho hd hcd hmg hobj hints hlen hg
  obtain ⟨K, fd, g, kin, hb, fact, hF⟩ := F w mg fa _ Y G.T.g hmg
  exact law_run kin G.T.g G.T.b G.T.builtins G.T.nolimit hg hobj hints (Nat.le_trans hlen hn2) room hF hb (fact ns hlen)
end Dv
namespace Dv
open PySem PySem.Spec PyProof.Rows L2
section
variable {X : Cx}
theorem ret_int {G : Gp} {Z : List Addr} {H : Hp} {i : Int} {Q : VK} (q : ∀ v H', Same H H' → RD G (hid Z H') v (.int i) → Q v H') : Q (.int i) H := q _ H (Same.refl _) (.int i)
theorem ret_bl {G : Gp} {Z : List Addr} {H : Hp} {i : Bool} {Q : VK} (q : ∀ v H', Same H H' → RD G (hid Z H') v (.bl i) → Q v H') : Q (.bl i) H := q _ H (Same.refl _) (.bl i)
theorem ret_str {G : Gp} {Z : List Addr} {H : Hp} {i : Str} {Q : VK} (q : ∀ v H', Same H H' → RD G (hid Z H') v (.str i) → Q v H') : Q (.str i) H := q _ H (Same.refl _) (.str i)
def gI (c : Int → Int → Bool) (f : Int → Int → D) : D → D → Option D
  | .int i, .int j => if c i j = true then some (f i j) else none
  | _, _ => none
theorem opD_I {f : Value → Value → Sem Value} {C : Int → Int → Prop} {c : Int → Int → Bool} {h : Int → Int → Int} (ho : OpR X f (rI C fun i j => .int (h i j))) (hc : ∀ i j, c i j = true → C i j) : OpD X f (gI c fun i j => .int (h i j)) :=
  ⟨_, ho, fun Z H x y dx dy d Q z rx ry e q => by
    unfold gI at e
    split at e
    · rename_i i j
      by_cases k : c i j = true
      · rw [if_pos k] at e
        cases e
        exact ⟨i, j, rx.int, ry.int, hc i j k, ret_int q⟩
      · rw [if_neg k] at e; cases e
    · cases e⟩
def gI0 (f : Int → Int → D) : D → D → Option D
  | .int i, .int j => some (f i j)
  | _, _ => none
theorem opD_I0 {f : Value → Value → Sem Value} {h : Int → Int → Int} (ho : OpR X f (rI0 fun i j => .int (h i j))) : OpD X f (gI0 fun i j => .int (h i j)) :=
  ⟨_, ho, fun Z H x y dx dy d Q z rx ry e q => by
    unfold gI0 at e
    split at e
    · rename_i i j
      cases e
      exact ⟨i, j, rx.int, ry.int, ret_int q⟩
    · cases e⟩
theorem opD_B0 {f : Value → Value → Sem Value} {h : Int → Int → Bool} (ho : OpR X f (rI0 fun i j => .bl (h i j))) : OpD X f (gI0 fun i j => .bl (h i j)) :=
  ⟨_, ho, fun Z H x y dx dy d Q z rx ry e q => by
    unfold gI0 at e
    split at e
    · rename_i i j
      cases e
      exact ⟨i, j, rx.int, ry.int, ret_bl q⟩
    · cases e⟩
def gSub := gI0 fun i j => .int (i - j)
theorem od_sub : OpD X (binaryOp .Sub) gSub := opD_I0 op_sub
def cMul (i j : Int) : Bool := decide (i.natAbs < 2 ^ 64) || decide (j.natAbs < 2 ^ 64) || (decide (i.natAbs < 2 ^ 4000) && decide (j.natAbs < 2 ^ 4000))
theorem cMul_ok {i j : Int} (h : cMul i j = true) : CMulW i j ∨ CMul i j := by
  unfold cMul at h
  rw [Bool.or_eq_true, Bool.or_eq_true, Bool.and_eq_true] at h
  rcases h with (h | h) | ⟨h1, h2⟩
  · have h := of_decide_eq_true h
    exact .inr (.inl ⟨by omega, by omega⟩)
  · have h := of_decide_eq_true h
    exact .inr (.inr ⟨by omega, by omega⟩)
  · exact .inl (wide_mul (of_decide_eq_true h1) (of_decide_eq_true h2) (by decide) (by decide) (by decide))
def gMul := gI cMul fun i j => .int (i * j)
theorem od_mul : OpD X (binaryOp .Mult) gMul := ⟨_, op_mulW.or op_mul, fun Z H x y dx dy d Q z rx ry e q => by
  unfold gMul gI at e
  split at e
  · rename_i i j
    by_cases k : cMul i j = true
    · rw [if_pos k] at e
      cases e
      rcases cMul_ok k with k | k
      · exact .inl ⟨i, j, rx.int, ry.int, k, ret_int q⟩
      · exact .inr ⟨i, j, rx.int, ry.int, k, ret_int q⟩
    · rw [if_neg k] at e; cases e
  · cases e⟩
def cDiv (i j : Int) : Bool := decide (0 < j) && decide (j.natAbs < 2 ^ 4000)
def gDiv := gI cDiv fun i j => .int (i / j)
theorem od_div : OpD X (binaryOp .FloorDiv) gDiv := opD_I op_fdivW fun i j h => by
  unfold cDiv at h
  rw [Bool.and_eq_true] at h
  exact wide_div (of_decide_eq_true h.1) (of_decide_eq_true h.2) (by decide) (by decide)
def gMod := gI (fun _ j => decide (0 < j)) fun i j => .int (i % j)
theorem od_mod : OpD X (binaryOp .Mod) gMod := opD_I op_mod fun i j h => of_decide_eq_true h
def cPow (i j : Int) : Bool := decide (0 ≤ j) && decide (j ≤ 1000000) && decide (i.natAbs < 2 ^ 64)
theorem cPow_ok (i j : Int) (h : cPow i j = true) : CPow i j := by
  unfold cPow at h
  rw [Bool.and_eq_true, Bool.and_eq_true] at h
  exact ⟨of_decide_eq_true h.1.1, of_decide_eq_true h.1.2, of_decide_eq_true h.2⟩
def cPowW (i j : Int) : Bool := cPow i j || (decide (0 ≤ j) && decide (j ≤ 1000) && decide (i.natAbs < 2 ^ 4000))
theorem bitsW {a n : Int} (ha : a.natAbs < 2 ^ 4000) (h0 : 0 ≤ n) (hn : n ≤ 1000) : (Builtin.Int.intBits a : Int) * n ≤ 2 ^ 27 := by
  have hb : Builtin.Int.intBits a ≤ 4000 := intBits_le ha
  have h1 : (Builtin.Int.intBits a : Int) * n ≤ 4000 * n := Int.mul_le_mul_of_nonneg_right (by omega) h0
  omega
theorem op_powW : OpR X (binaryOp .Pow) (rI (fun i j => cPowW i j = true) fun i j => .int (i ^ j.toNat)) := opI fun i j _ _ _ _ _ hc q => by
  unfold cPowW at hc
  rw [Bool.or_eq_true] at hc
  rcases hc with hc | hc
  · obtain ⟨h1, h2, h3⟩ := cPow_ok i j hc
    exact pow_int_small h1 h2 h3 q
  · rw [Bool.and_eq_true, Bool.and_eq_true] at hc
    exact pow_int (of_decide_eq_true hc.1.1) (bitsW (of_decide_eq_true hc.2) (of_decide_eq_true hc.1.1) (of_decide_eq_true hc.1.2)) q
def gPow := gI cPowW fun i j => .int (i ^ j.toNat)
theorem od_pow : OpD X (binaryOp .Pow) gPow := opD_I op_powW fun _ _ h => h
def gShl := gI cPow fun i j => .int (i * 2 ^ j.toNat)
theorem od_shl : OpD X (binaryOp .LShift) gShl := opD_I op_shl cPow_ok
def gShr := gI (fun _ j => decide (0 ≤ j)) fun i j => .int (i / 2 ^ j.toNat)
theorem od_shr : OpD X (binaryOp .RShift) gShr := opD_I op_shr fun i j h => of_decide_eq_true h
def gAnd := gI0 fun i j => .int (Builtin.bitAnd i j)
theorem od_and : OpD X (binaryOp .BitAnd) gAnd := opD_I0 op_and
def gOr := gI0 fun i j => .int (Builtin.bitOr i j)
theorem od_or : OpD X (binaryOp .BitOr) gOr := opD_I0 op_or
def gXor := gI0 fun i j => .int (Builtin.bitXor i j)
theorem od_xor : OpD X (binaryOp .BitXor) gXor := opD_I0 op_xor
def gLt := gI0 fun i j => .bl (decide (i < j))
theorem od_lt : OpD X (compareOp .Lt) gLt := opD_B0 op_lt
def gLe := gI0 fun i j => .bl (decide (i ≤ j))
theorem od_le : OpD X (compareOp .LtE) gLe := opD_B0 op_le
def gGt := gI0 fun i j => .bl (decide (j < i))
theorem od_gt : OpD X (compareOp .Gt) gGt := opD_B0 op_gt
def gGe := gI0 fun i j => .bl (decide (j ≤ i))
theorem od_ge : OpD X (compareOp .GtE) gGe := opD_B0 op_ge
def gNeg : D → Option D
  | .int i => some (.int (-i))
  | _ => none
theorem ud_neg : UnD X (unaryOp .USub) gNeg := ⟨_, un_neg, fun Z H x dx d Q z rx e q => by
  cases dx <;> cases e
  exact ⟨_, rx.int, ret_int q⟩⟩
def gInv : D → Option D
  | .int i => some (.int (Builtin.bitNot i))
  | _ => none
theorem ud_inv : UnD X (unaryOp .Invert) gInv := ⟨_, un_inv, fun Z H x dx d Q z rx e q => by
  cases dx <;> cases e
  exact ⟨_, rx.int, ret_int q⟩⟩
theorem id_sub : IpD X .Sub gSub := opD_I0 iop_sub
theorem id_and : IpD X .BitAnd gAnd := opD_I0 iop_and
theorem id_or : IpD X .BitOr gOr := opD_I0 iop_or
def cMulS (i j : Int) : Bool := decide (i.natAbs < 2 ^ 64) || decide (j.natAbs < 2 ^ 64)
def gMulS := gI cMulS fun i j => .int (i * j)
theorem id_mul : IpD X .Mult gMulS := opD_I iop_mul fun i j h => by
  unfold cMulS at h
  rw [Bool.or_eq_true] at h
  rcases h with h | h
  · have h := of_decide_eq_true h
    exact .inl ⟨by omega, by omega⟩
  · have h := of_decide_eq_true h
    exact .inr ⟨by omega, by omega⟩
def gAbs : List D → Option D
  | [.int i] => some (.int (if i < 0 then -i else i))
  | _ => none
theorem cd_abs : CallD X (.builtin "abs") gAbs := ⟨_, call_abs, fun Z H xs ds d Q z r e q => by
  unfold gAbs at e
  split at e
  · cases e
    obtain ⟨v, rfl, r1⟩ := r.one
    rw [r1.int]
    exact ⟨_, rfl, ret_int q⟩
  · cases e⟩
def gMax2 : List D → Option D
  | [.int i, .int j] => some (.int (if j > i then j else i))
  | _ => none
theorem cd_max2 (hc : X.calm = true) : CallD X (.builtin "max") gMax2 := ⟨_, call_max2 hc, fun Z H xs ds d Q z r e q => by
  unfold gMax2 at e
  split at e
  · cases e
    obtain ⟨v, u, rfl, r1, r2⟩ := r.two
    rw [r1.int, r2.int]
    exact ⟨_, _, rfl, ret_int q⟩
  · cases e⟩
def gMin2 : List D → Option D
  | [.int i, .int j] => some (.int (if j < i then j else i))
  | _ => none
theorem cd_min2 (hc : X.calm = true) : CallD X (.builtin "min") gMin2 := ⟨_, call_min2 hc, fun Z H xs ds d Q z r e q => by
  unfold gMin2 at e
  split at e
  · cases e
    obtain ⟨v, u, rfl, r1, r2⟩ := r.two
    rw [r1.int, r2.int]
    exact ⟨_, _, rfl, ret_int q⟩
  · cases e⟩
def gInt : List D → Option D
  | [.int i] => some (.int i)
  | [.bl k] => some (.int (if k then 1 else 0))
  | _ => none
theorem cd_int : CallD X (.type "int") gInt := ⟨_, call_int1, fun Z H xs ds d Q z r e q => by
  unfold gInt at e
  split at e
  · cases e
    obtain ⟨v, rfl, r1⟩ := r.one
    exact .inl ⟨_, by rw [r1.int], ret_int q⟩
  · cases e
    obtain ⟨v, rfl, r1⟩ := r.one
    exact .inr ⟨_, by rw [r1.bl], ret_int q⟩
  · cases e⟩
def gLen : List D → Option D
  | [.lst xs] => some (.int xs.length)
  | [.tup xs] => some (.int xs.length)
  | [.str x] => if x.length ≤ 1000000 then some (.int x.length) else none
  | _ => none
theorem cd_len : CallD X (.builtin "len") gLen := ⟨_, call_len, fun Z H xs ds d Q z r e q => by
  unfold gLen at e
  split at e
  · cases e
    obtain ⟨v, rfl, r1⟩ := r.one
    obtain ⟨a, vs, rfl, h1, h2⟩ := r1.lst
    exact ⟨_, vs.length, rfl, .inl ⟨vs, h1, rfl⟩, by rw [h2.len]; exact ret_int q⟩
  · cases e
    obtain ⟨v, rfl, r1⟩ := r.one
    obtain ⟨a, vs, rfl, h1, h2⟩ := r1.tup
    exact ⟨_, vs.length, rfl, .inr ⟨vs, h1.sq, rfl⟩, by rw [h2.len]; exact ret_int q⟩
  · rename_i x
    by_cases hx : x.length ≤ 1000000
    · rw [if_pos hx] at e
      cases e
      obtain ⟨v, rfl, r1⟩ := r.one
      rw [r1.str]
      exact ⟨_, x.length, rfl, ⟨len_line hx, rfl⟩, ret_int q⟩
    · rw [if_neg hx] at e; cases e
  · cases e⟩
end
end Dv
namespace Dv
open PySem PySem.Spec PyProof.Rows L2
mutual
def eqb : D → D → Bool
  | .non, .non => true
  | .bl a, .bl b => a == b
  | .bl a, .int j => (if a then 1 else 0) == j
  | .int i, .bl b => i == (if b then 1 else 0)
  | .int i, .int j => i == j
  | .str x, .str y => x == y
  | .lst xs, .lst ys => eqbs xs ys
  | .tup xs, .tup ys => eqbs xs ys
  | _, _ => false
def eqbs : List D → List D → Bool
  | [], [] => true
  | x :: xs, y :: ys => eqb x y && eqbs xs ys
  | _, _ => false
end
mutual
def pl : Nat → D → Bool
  | _, .non => true
  | _, .bl _ => true
  | _, .int _ => true
  | _, .str x => PyData.strOk x
  | n + 1, .lst xs => pls n xs
  | n + 1, .tup xs => pls n xs
  | _, _ => false
def pls : Nat → List D → Bool
  | _, [] => true
  | n, x :: xs => pl n x && pls n xs
end
mutual
def pd : D → PyData
  | .non => .none
  | .bl b => .bool b
  | .int i => .int i
  | .str x => .str x
  | .lst xs => .list (pds xs)
  | .tup xs => .tuple (pds xs)
  | _ => .none
def pds : List D → List PyData
  | [] => []
  | x :: xs => pd x :: pds xs
end
mutual
theorem pl_dp {G : Gp} {H : Hp} : ∀ (n : Nat) (d : D) (v : V), pl n d = true → RD G H v d → Dp G.K H v (pd d)
  | n, .non, v, e, r => by cases r; exact .non
  | n, .bl b, v, e, r => by cases r; exact .bl b
  | n, .int i, v, e, r => by cases r; exact .int i
  | n, .str x, v, e, r => by cases r; exact .str x
  | 0, .lst xs, v, e, r => by rw [pl.eq_def] at e; cases e
  | n + 1, .lst xs, v, e, r => by
    rw [pl.eq_def] at e
    cases r with
    | lst h1 h2 => exact .lst h1 (pls_dp n xs _ e h2)
  | 0, .tup xs, v, e, r => by rw [pl.eq_def] at e; cases e
  | n + 1, .tup xs, v, e, r => by
    rw [pl.eq_def] at e
    cases r with
    | tup h1 h2 => exact .tup h1.sq (pls_dp n xs _ e h2)
  | n, .dct _ _, v, e, r => by rw [pl.eq_def] at e; cases e
  | n, .set _, v, e, r => by rw [pl.eq_def] at e; cases e
  | n, .obj _ _ _, v, e, r => by rw [pl.eq_def] at e; cases e
  | n, .ref _, v, e, r => by rw [pl.eq_def] at e; cases e
theorem pls_dp {G : Gp} {H : Hp} : ∀ (n : Nat) (ds : List D) (vs : List V), pls n ds = true → RDs G H vs ds → DpAll G.K H vs (pds ds)
  | n, [], vs, e, r => by cases r; exact .nil
  | n, x :: xs, vs, e, r => by
    rw [pls.eq_def] at e
    obtain ⟨e1, e2⟩ := Bool.and_eq_true_iff.mp e
    cases r with
    | cons a b => exact .cons (pl_dp n x _ e1 a) (pls_dp n xs _ e2 b)
end
mutual
theorem pl_lay : ∀ (n : Nat) (d : D), pl n d = true → (pd d).canLay0 = true ∧ (pd d).depth ≤ n
  | n, .non, e => ⟨rfl, Nat.zero_le _⟩
  | n, .bl b, e => ⟨rfl, Nat.zero_le _⟩
  | n, .int i, e => ⟨rfl, Nat.zero_le _⟩
  | n, .str x, e => ⟨by rw [pl.eq_def] at e; exact e, Nat.zero_le _⟩
  | 0, .lst xs, e => by rw [pl.eq_def] at e; cases e
  | n + 1, .lst xs, e => by
    rw [pl.eq_def] at e
    obtain ⟨h1, h2⟩ := pls_lay n xs e
    exact ⟨h1, Nat.succ_le_succ h2⟩
  | 0, .tup xs, e => by rw [pl.eq_def] at e; cases e
  | n + 1, .tup xs, e => by
    rw [pl.eq_def] at e
    obtain ⟨h1, h2⟩ := pls_lay n xs e
    exact ⟨h1, Nat.succ_le_succ h2⟩
  | n, .dct _ _, e => by rw [pl.eq_def] at e; cases e
  | n, .set _, e => by rw [pl.eq_def] at e; cases e
  | n, .obj _ _ _, e => by rw [pl.eq_def] at e; cases e
  | n, .ref _, e => by rw [pl.eq_def] at e; cases e
theorem pls_lay : ∀ (n : Nat) (ds : List D), pls n ds = true → PyData.canLayAll0 (pds ds) = true ∧ PyData.depthAll (pds ds) ≤ n
  | n, [], e => ⟨rfl, Nat.zero_le _⟩
  | n, x :: xs, e => by
    rw [pls.eq_def] at e
    obtain ⟨e1, e2⟩ := Bool.and_eq_true_iff.mp e
    obtain ⟨h1, h2⟩ := pl_lay n x e1
    obtain ⟨h3, h4⟩ := pls_lay n xs e2
    exact ⟨Bool.and_eq_true_iff.mpr ⟨h1, h3⟩, Nat.max_le.mpr ⟨h2, h4⟩⟩
end
theorem pl_shaped {n : Nat} {d : D} (h : pl n d = true) (hn : n ≤ 60) : SeqAt.shaped (pd d) = true := by
  obtain ⟨h1, h2⟩ := pl_lay n d h
  exact Bool.and_eq_true_iff.mpr ⟨h1, decide_eq_true (by omega)⟩
mutual
theorem eqv_pd : ∀ (n m : Nat) (d e : D), pl n d = true → pl m e = true → PyData.eqv (pd d) (pd e) = eqb d e
  | n, m, .non, e, h, k => by cases e <;> first | rfl | (rw [pl.eq_def] at k; cases k) | (simp [pd, PyData.eqv, eqb])
  | n, m, .bl b, e, h, k => by cases e <;> first | rfl | (rw [pl.eq_def] at k; cases k) | (simp [pd, PyData.eqv, eqb])
  | n, m, .int i, e, h, k => by cases e <;> first | rfl | (rw [pl.eq_def] at k; cases k) | (simp [pd, PyData.eqv, eqb])
  | n, m, .str x, e, h, k => by cases e <;> first | rfl | (rw [pl.eq_def] at k; cases k) | (simp [pd, PyData.eqv, eqb])
  | 0, m, .lst xs, e, h, k => by rw [pl.eq_def] at h; cases h
  | n + 1, m, .lst xs, e, h, k => by
    cases e with
    | lst ys =>
      cases m with
      | zero => rw [pl.eq_def] at k; cases k
      | succ m =>
        rw [pl.eq_def] at h k
        simp only [pd, PyData.eqv, eqb]
        exact eqvs_pd n m xs ys h k
    | _ => first | rfl | (rw [pl.eq_def] at k; cases k) | (simp [pd, PyData.eqv, eqb])
  | 0, m, .tup xs, e, h, k => by rw [pl.eq_def] at h; cases h
  | n + 1, m, .tup xs, e, h, k => by
    cases e with
    | tup ys =>
      cases m with
      | zero => rw [pl.eq_def] at k; cases k
      | succ m =>
        rw [pl.eq_def] at h k
        simp only [pd, PyData.eqv, eqb]
        exact eqvs_pd n m xs ys h k
    | _ => first | rfl | (rw [pl.eq_def] at k; cases k) | (simp [pd, PyData.eqv, eqb])
  | n, m, .dct _ _, e, h, k => by rw [pl.eq_def] at h; cases h
  | n, m, .set _, e, h, k => by rw [pl.eq_def] at h; cases h
  | n, m, .obj _ _ _, e, h, k => by rw [pl.eq_def] at h; cases h
  | n, m, .ref _, e, h, k => by rw [pl.eq_def] at h; cases h
theorem eqvs_pd : ∀ (n m : Nat) (ds es : List D), pls n ds = true → pls m es = true → PyData.eqvAll (pds ds) (pds es) = eqbs ds es
  | n, m, [], [], h, k => rfl
  | n, m, [], e :: es, h, k => by simp [pds, PyData.eqvAll, eqbs]
  | n, m, d :: ds, [], h, k => by simp [pds, PyData.eqvAll, eqbs]
  | n, m, d :: ds, e :: es, h, k => by
    rw [pls.eq_def] at h k
    obtain ⟨h1, h2⟩ := Bool.and_eq_true_iff.mp h
    obtain ⟨k1, k2⟩ := Bool.and_eq_true_iff.mp k
    simp only [pds, PyData.eqvAll, eqbs]
    rw [eqv_pd n m d e h1 k1, eqvs_pd n m ds es h2 k2]
end
section
variable {X : Cx}
def twoS : D → D → Option Bool
  | .str a, .str b => some (a == b)
  | _, _ => none
theorem twoS_ok {x y : D} {k : Bool} (h : twoS x y = some k) : ∃ a b, x = .str a ∧ y = .str b ∧ k = (a == b) := by
  unfold twoS at h
  split at h
  · cases h; exact ⟨_, _, rfl, rfl, rfl⟩
  · cases h
theorem scal_str (a b : Str) : scal (.str a) (.str b) = true := rfl
theorem dec_strV {a b : Str} : decide (V.str a = V.str b) = (a == b) := by
  rw [Bool.eq_iff_iff]
  simp
def gEqP (x y : D) : Option D := match pl 50 x && pl 50 y with
  | true => some (.bl (eqb x y))
  | false => none
def gNeP (x y : D) : Option D := match pl 50 x && pl 50 y with
  | true => some (.bl (!eqb x y))
  | false => none
def gEq (x y : D) : Option D := match twoS x y with
  | some b => some (.bl b)
  | none => gEqP x y
def gNe (x y : D) : Option D := match twoS x y with
  | some b => some (.bl (!b))
  | none => gNeP x y
theorem od_eq (hu : X.A.units + 64 < cLine) : OpD X (compareOp .Eq) gEq := ⟨_, op_eq.or (op_eqD hu), fun Z H x y dx dy d Q z rx ry e q => by
  unfold gEq at e
  split at e
  · rename_i h
    cases e
    obtain ⟨a, b, rfl, rfl, rfl⟩ := twoS_ok h
    rw [rx.str, ry.str]
    exact .inl ⟨scal_str a b, by rw [dec_strV]; exact ret_bl q⟩
  · unfold gEqP at e
    split at e
    · rename_i h
      cases e
      obtain ⟨h1, h2⟩ := Bool.and_eq_true_iff.mp h
      exact .inr ⟨_, _, pl_dp 50 dx x h1 rx.full, pl_dp 50 dy y h2 ry.full, pl_shaped h1 (by decide), pl_shaped h2 (by decide), by rw [eqv_pd 50 50 dx dy h1 h2]; exact ret_bl q⟩
    · cases e⟩
theorem od_ne (hu : X.A.units + 64 < cLine) : OpD X (compareOp .NotEq) gNe := ⟨_, op_ne.or (op_neD hu), fun Z H x y dx dy d Q z rx ry e q => by
  unfold gNe at e
  split at e
  · rename_i h
    cases e
    obtain ⟨a, b, rfl, rfl, rfl⟩ := twoS_ok h
    rw [rx.str, ry.str]
    exact .inl ⟨scal_str a b, by rw [dec_strV]; exact ret_bl q⟩
  · unfold gNeP at e
    split at e
    · rename_i h
      cases e
      obtain ⟨h1, h2⟩ := Bool.and_eq_true_iff.mp h
      exact .inr ⟨_, _, pl_dp 50 dx x h1 rx.full, pl_dp 50 dy y h2 ry.full, pl_shaped h1 (by decide), pl_shaped h2 (by decide), by rw [eqv_pd 50 50 dx dy h1 h2]; exact ret_bl q⟩
    · cases e⟩
def rInT (K : PySem.W.Frag) (neg : Bool) : R2 := fun x y H Q => ∃ d ds, Dp K H x d ∧ Dp K H y (.tuple ds) ∧ SeqAt.shaped d = true ∧ SeqAt.shaped (.tuple ds) = true ∧ Q (.bl (if neg then !ds.any (fun z => PyData.eqv z d) else ds.any fun z => PyData.eqv z d)) H
theorem op_inT (hu : X.A.units + 65 < cLine) : OpR X (compareOp .In) (rInT X.K false) := by
  rintro pins s σ H x y v u Q I rx ry ⟨d, ds, hd, he, sd, se, q⟩
  obtain ⟨as, r1⟩ := Dp.reads I d x v hd rx
  obtain ⟨bs, r2⟩ := Dp.reads I (.tuple ds) y u he ry
  apply SeqAt.in_tuple_reads r2 r1 (SeqAt.canLay_of_shaped se) (SeqAt.canLay_of_shaped sd) (room_in_shaped sd hu)
  exact ⟨.bl _, H, I, rfl, q⟩
theorem op_notInT (hu : X.A.units + 65 < cLine) : OpR X (compareOp .NotIn) (rInT X.K true) := by
  rintro pins s σ H x y v u Q I rx ry ⟨d, ds, hd, he, sd, se, q⟩
  obtain ⟨as, r1⟩ := Dp.reads I d x v hd rx
  obtain ⟨bs, r2⟩ := Dp.reads I (.tuple ds) y u he ry
  apply SeqAt.notIn_tuple_reads r2 r1 (SeqAt.canLay_of_shaped se) (SeqAt.canLay_of_shaped sd) (room_in_shaped sd hu)
  exact ⟨.bl _, H, I, rfl, q⟩
theorem any_pds {d : D} {n m : Nat} (h : pl n d = true) : ∀ {ds : List D}, pls m ds = true → ((pds ds).any fun z => PyData.eqv z (pd d)) = ds.any fun z => eqb z d
  | [], _ => rfl
  | x :: xs, k => by
    rw [pls.eq_def] at k
    obtain ⟨k1, k2⟩ := Bool.and_eq_true_iff.mp k
    simp only [pds, List.any_cons]
    rw [eqv_pd m n x d k1 h, any_pds h k2]
def gIn (x y : D) : Option D := match pl 50 x && pl 50 y with
  | true => match y with
    | .lst xs => some (.bl (xs.any fun z => eqb z x))
    | .tup xs => some (.bl (xs.any fun z => eqb z x))
    | _ => none
  | false => none
def gNotIn (x y : D) : Option D := match pl 50 x && pl 50 y with
  | true => match y with
    | .lst xs => some (.bl (!xs.any fun z => eqb z x))
    | .tup xs => some (.bl (!xs.any fun z => eqb z x))
    | _ => none
  | false => none
theorem pl_lst {n : Nat} {xs : List D} (h : pl (n + 1) (.lst xs) = true) : pls n xs = true := by rw [pl.eq_def] at h; exact h
theorem pl_tup {n : Nat} {xs : List D} (h : pl (n + 1) (.tup xs) = true) : pls n xs = true := by rw [pl.eq_def] at h; exact h
theorem od_in (hu : X.A.units + 65 < cLine) : OpD X (compareOp .In) gIn := ⟨_, (op_inD hu).or (op_inT hu), fun Z H x y dx dy d Q z rx ry e q => by
  unfold gIn at e
  split at e
  · rename_i h
    obtain ⟨h1, h2⟩ := Bool.and_eq_true_iff.mp h
    split at e
    · rename_i xs
      cases e
      exact .inl ⟨_, pds xs, pl_dp 50 dx x h1 rx.full, pl_dp 50 _ y h2 ry.full, pl_shaped h1 (by decide), pl_shaped (d := .lst xs) h2 (by decide), by rw [any_pds h1 (pl_lst h2)]; exact ret_bl q⟩
    · rename_i xs
      cases e
      exact .inr ⟨_, pds xs, pl_dp 50 dx x h1 rx.full, pl_dp 50 _ y h2 ry.full, pl_shaped h1 (by decide), pl_shaped (d := .tup xs) h2 (by decide), by rw [if_neg Bool.false_ne_true, any_pds h1 (pl_tup h2)]; exact ret_bl q⟩
    · cases e
  · cases e⟩
theorem od_notIn (hu : X.A.units + 65 < cLine) : OpD X (compareOp .NotIn) gNotIn := ⟨_, (op_notInD hu).or (op_notInT hu), fun Z H x y dx dy d Q z rx ry e q => by
  unfold gNotIn at e
  split at e
  · rename_i h
    obtain ⟨h1, h2⟩ := Bool.and_eq_true_iff.mp h
    split at e
    · rename_i xs
      cases e
      exact .inl ⟨_, pds xs, pl_dp 50 dx x h1 rx.full, pl_dp 50 _ y h2 ry.full, pl_shaped h1 (by decide), pl_shaped (d := .lst xs) h2 (by decide), by rw [any_pds h1 (pl_lst h2)]; exact ret_bl q⟩
    · rename_i xs
      cases e
      exact .inr ⟨_, pds xs, pl_dp 50 dx x h1 rx.full, pl_dp 50 _ y h2 ry.full, pl_shaped h1 (by decide), pl_shaped (d := .tup xs) h2 (by decide), by rw [if_pos rfl, any_pds h1 (pl_tup h2)]; exact ret_bl q⟩
    · cases e
  · cases e⟩
def isNon : D → Bool
  | .non => true
  | _ => false
def gIsN (x y : D) : Option D := match y with
  | .non => some (.bl (isNon x))
  | _ => none
theorem rd_non {G : Gp} {Z : List Addr} {H : Hp} {v : V} {d : D} (h : RT G Z H v d) : decide (v = .non) = isNon d := by
  rcases h with h | ⟨a, vs, ds, rfl, rfl, _⟩
  · cases h <;> rfl
  · rfl
theorem od_isN : OpD X (compareOp .Is) gIsN := ⟨_, op_isN, fun Z H x y dx dy d Q z rx ry e q => by
  unfold gIsN at e
  split at e
  · cases e
    refine ⟨ry.non, ?_⟩
    rw [rd_non rx]
    exact ret_bl q
  · cases e⟩
def gNotN (x y : D) : Option D := match y with
  | .non => some (.bl (!isNon x))
  | _ => none
theorem od_notN : OpD X (compareOp .IsNot) gNotN := ⟨_, op_notN, fun Z H x y dx dy d Q z rx ry e q => by
  unfold gNotN at e
  split at e
  · cases e
    refine ⟨ry.non, ?_⟩
    rw [rd_non rx]
    exact ret_bl q
  · cases e⟩
def gIx (x y : D) : Option D := match x, y with
  | .lst xs, .int i => atI xs i
  | .tup xs, .int i => atI xs i
  | .str z, .int i => if z.length ≤ 1000000 then (match atI z.cps.toList i with
    | some c => some (.str ⟨#[c]⟩)
    | none => none) else none
  | _, _ => none
theorem atI_rd {G : Gp} {H : Hp} {vs : List V} {ds : List D} {i : Int} {d : D} (r : RDs G H vs ds) (e : atI ds i = some d) : ∃ v, atI vs i = some v ∧ RD G H v d := by
  unfold atI at e ⊢
  rw [r.len]
  cases q : ixN ds.length i with
  | none => rw [q] at e; cases e
  | some j =>
    rw [q] at e
    obtain ⟨v, h1, h2⟩ := r.get (i := j) (d := d) e
    exact ⟨v, h1, h2⟩
theorem ix_rd {G : Gp} {Z : List Addr} {H : Hp} {x y : V} {dx dy d : D} {Q : VK} (z : ZOk Z H) (rx : RT G Z H x dx) (ry : RT G Z H y dy) (e : gIx dx dy = some d) (q : ∀ v H', Same H H' → RD G (hid Z H') v d → Q v H') : rIx G.K x y H Q := by
  unfold gIx at e
  split at e
  · obtain ⟨a, vs, rfl, h1, h2⟩ := rx.lst
    obtain ⟨v, h3, h4⟩ := atI_rd h2 e
    exact .inl ⟨a, vs, _, v, rfl, ry.int, h1, h3, q v H (Same.refl _) h4⟩
  · obtain ⟨a, vs, rfl, h1, h2⟩ := rx.tup
    obtain ⟨v, h3, h4⟩ := atI_rd h2 e
    exact .inr (.inl ⟨a, vs, _, v, rfl, ry.int, h1.sq, h3, q v H (Same.refl _) h4⟩)
  · rename_i w i
    by_cases hw : w.length ≤ 1000000
    · rw [if_pos hw] at e
      split at e
      · rename_i c hc
        cases e
        exact .inr (.inr ⟨w, i, c, rx.str, ry.int, len_line hw, hc, ret_str q⟩)
      · cases e
    · rw [if_neg hw] at e; cases e
  · cases e
theorem de_ix {a b : Expr} {fa fb : ES} {pos : Pos} (ha : DE X a fa) (hb : DE X b fb) (hs : PlainIx b) : DE X (.Subscript a b pos) (eBin gIx fa fb) := ⟨fun F => pe_imp (pe_ix ix_seq (ha.run F) (hb.run F) hs) fun σ H Q h => tOp_of (fun Z H x y dx dy d Q z rx ry e q => ix_rd z rx ry e q) h⟩
structure DO (X : Cx) (e : Option Expr) (f : M (Option Int)) : Prop where
  run : ∀ F, PO X e (fun σ H Q => ∃ A ρ o ρ', Sts (Gx X) F A σ ρ H ∧ f ρ = .ok o ρ' ∧ ∀ H', Sts (Gx X) F A σ ρ' H' → Stp A H H' → Q o H')
theorem po_imp {X : Cx} {e : Option Expr} {t t' : TO} (h : PO X e t) (i : ∀ σ H Q, t' σ H Q → t σ H Q) : PO X e t' := ⟨fun pins s σ H Q I q => h.run pins s σ H Q I (i σ H Q q)⟩
def oNone : M (Option Int) := M.ret none
def oSome (fa : ES) : M (Option Int) := M.bind fa fun r => M.bind (val r) fun d => M.bind (M.opt (isInt d)) fun i => M.ret (some i)
theorem do_none : DO X none oNone := ⟨fun F => po_imp po_none fun σ H Q ⟨A, ρ, o, ρ', S, e, q⟩ => by
  obtain ⟨rfl, rfl⟩ := ret_ok e
  exact q H S (Stp.refl _ _)⟩
theorem do_some {e : Expr} {fa : ES} (ha : DE X e fa) : DO X (some e) (oSome fa) := ⟨fun F => po_imp (po_some (ha.run F)) fun σ H Q ⟨A, ρ, o, ρ', S, e, q⟩ => by
  obtain ⟨r, ρ1, e1, e⟩ := bind_ok e
  obtain ⟨d, ρ2, e2, e⟩ := bind_ok e
  obtain ⟨l2, rfl⟩ := val_ok e2
  obtain ⟨i, ρ3, e3, e⟩ := bind_ok e
  obtain ⟨l3, rfl⟩ := opt_ok e3
  obtain ⟨rfl, rfl⟩ := ret_ok e
  refine ⟨A, ρ, r, _, S, e1, fun v H1 S1 m1 r1 => ⟨i, ?_, q H1 S1 m1⟩⟩
  have rt := look_rt S1 r1 l2
  unfold isInt at l3
  split at l3
  · cases l3; exact rt.int
  · cases l3⟩
def cutD (xs : List D) (lo hi : Option Int) : List D := (xs.drop (HT.sIx xs.length 0 lo)).take (HT.sIx xs.length xs.length hi - HT.sIx xs.length 0 lo)
theorem cut_rd {G : Gp} {H : Hp} {vs : List V} {ds : List D} {lo hi : Option Int} (r : RDs G H vs ds) : RDs G H (cutV vs lo hi) (cutD ds lo hi) := by
  unfold cutV cutD
  rw [r.len]
  exact (r.drop _).take _
def rSlF (K : PySem.W.Frag) : V → Option Int → Option Int → Hp → VK → Prop := fun x lo hi H Q => ∃ a xs, x = .ref a ∧ SqT K H a xs ∧ (HT.sIx xs.length 0 lo = 0 ∧ HT.sIx xs.length xs.length hi = xs.length → Q (.ref a) H) ∧
  (¬ (HT.sIx xs.length 0 lo = 0 ∧ HT.sIx xs.length xs.length hi = xs.length) → ∀ p its, H p = none → Q (.ref p) (upd H p (tHO its (cutV xs lo hi))))
theorem sl_tupF : SlR X (rSlF X.K) := by
  rintro pins s σ H x v vl vu lo hi sl Q I rx hs pl pu ⟨a, xs, rfl, hx, q1, q2⟩
  cases rx
  obtain ⟨its, r, ht, hz⟩ := I.tuple hx
  have hl : its.toArray.size = xs.length := by rw [List.size_toArray]; exact r.length.symm
  refine ⟨"tuple", _, PyProof.Rows.slot_tuple_getitem.lookup, ht.typeIs, ?_⟩
  by_cases hw : HT.sIx xs.length 0 lo = 0 ∧ HT.sIx xs.length xs.length hi = xs.length
  · exact L2.getItem_tuple_whole ht hs pl pu (hl ▸ hw) ⟨.ref a, H, I, rfl, q1 hw⟩
  · apply HT.getItem_tuple_cut ht hs pl pu (hl ▸ hw) (hsz := hl ▸ hz)
    have rc : Vals (cutV xs lo hi) ((its.toArray.toList.drop (HT.sIx its.toArray.size 0 lo)).take (HT.sIx its.toArray.size its.toArray.size hi - HT.sIx its.toArray.size 0 lo)) := by
      rw [hl]
      exact (r.drop _).take _
    exact ⟨V.ref s.heap.objs.size, _, lay_tup I rc (Nat.le_trans (cutV_length xs lo hi) hz) s.toks, rfl, q2 hw _ _ (I.hok.fresh (Nat.le_refl _))⟩
def gSl (x : D) (lo hi : Option Int) : Option D := match x with
  | .lst xs => some (.lst (cutD xs lo hi))
  | .tup xs => some (.tup (cutD xs lo hi))
  | _ => none
def eSl (fa : ES) (fl fh : M (Option Int)) : ES := M.bind fa fun r => M.bind fl fun lo => M.bind fh fun hi => M.bind (val r) fun d => M.bind (M.opt (gSl d lo hi)) fun x => M.ret (.im x)
theorem cut_whole {α : Type} (xs : List α) {lo hi : Option Int} (h : HT.sIx xs.length 0 lo = 0 ∧ HT.sIx xs.length xs.length hi = xs.length) : (xs.drop (HT.sIx xs.length 0 lo)).take (HT.sIx xs.length xs.length hi - HT.sIx xs.length 0 lo) = xs := by
  rw [h.1, h.2, List.drop_zero, Nat.sub_zero, List.take_length]
theorem de_sl {e : Expr} {fa : ES} {lo hi : Option Expr} {fl fh : M (Option Int)} {p2 pos : Pos} (ha : DE X e fa) (hl : DO X lo fl) (hh : DO X hi fh) : DE X (.Subscript e (.Slice lo hi none p2) pos) (eSl fa fl fh) := ⟨fun F => pe_imp (pe_slice (sl_list.or sl_tupF) (ha.run F) (hl.run F) (hh.run F)) fun σ H Q ⟨A, ρ, rr, ρ', S, e, q⟩ => by
  obtain ⟨r, ρ1, e1, e⟩ := bind_ok e
  obtain ⟨lo, ρ2, e2, e⟩ := bind_ok e
  obtain ⟨hi, ρ3, e3, e⟩ := bind_ok e
  obtain ⟨d, ρ4, e4, e⟩ := bind_ok e
  obtain ⟨l4, rfl⟩ := val_ok e4
  obtain ⟨x, ρ5, e5, e⟩ := bind_ok e
  obtain ⟨l5, rfl⟩ := opt_ok e5
  obtain ⟨rfl, rfl⟩ := ret_ok e
  refine ⟨A, ρ, r, ρ1, S, e1, fun v H1 S1 m1 r1 => ⟨A, ρ1, lo, ρ2, S1, e2, fun H2 S2 m2 => ⟨A, ρ2, hi, _, S2, e3, fun H3 S3 m3 => ?_⟩⟩⟩
  have rt := look_rt S3 ((r1.same m2.hid).same m3.hid) l4
  have m := (m1.trans m2).trans m3
  unfold gSl at l5
  split at l5
  · cases l5
    obtain ⟨a, vs, rfl, h1, h2⟩ := rt.lst
    refine .inl ⟨a, vs, rfl, h1, fun p hp => ?_⟩
    have sm := Same.of_new (o := .lst (cutV vs lo hi)) hp
    exact q _ _ (S3.same sm) (m.trans (Stp.of sm)) (.lst (SqL.of (hid_new S3.zall hp)) ((cut_rd h2).mono (Same.hid sm)))
  · rename_i xs
    cases l5
    obtain ⟨a, vs, rfl, h1, h2⟩ := rt.tup
    refine .inr ⟨a, vs, rfl, h1.sq, fun hw => ?_, fun hw p its hp => ?_⟩
    · have ew : cutD xs lo hi = xs := cut_whole xs (by rw [← h2.len]; exact hw)
      rw [ew] at q
      rcases rt with rt | ⟨_, _, _, _, ee, _⟩
      · exact q _ H3 S3 m rt
      · cases ee
    · have sm := Same.of_new (o := tHO its (cutV vs lo hi)) hp
      exact q _ _ (S3.same sm) (m.trans (Stp.of sm)) (.tup (.inl ⟨_, hid_new S3.zall hp, rfl⟩) ((cut_rd h2).mono (Same.hid sm)))
  · cases l5⟩
end
end Dv
namespace Dv
open PySem PySem.Spec PyProof.Rows L2
section
variable {X : Cx}
def rTupF (K : PySem.W.Frag) : List V → Hp → VK → Prop := fun xs H Q => ∃ p ys, xs = [.ref p] ∧ ((SqL K H p ys ∧ ∀ l its, H l = none → Q (.ref l) (upd H l (tHO its ys))) ∨ (SqT K H p ys ∧ Q (.ref p) H))
theorem call_tupF : CallR X (.type "tuple") (rTupF X.K) := by
  rintro pins s σ H xs us Q I r ⟨p, ys, rfl, h⟩
  obtain ⟨u, rfl, rx⟩ := vals1 r
  cases rx
  rcases h with ⟨hq, q⟩ | ⟨hq, q⟩
  · obtain ⟨its, rv, pl, hz⟩ := I.list hq
    have hl := rv.length
    apply call_tuple_list pl.isList (hsz := by simp only [List.size_toArray]; omega)
    intro h' kp
    have I1 : Inv X pins σ H { s with heap := h' } := I.kept (t' := s.toks) kp
    exact ⟨V.ref h'.objs.size, _, lay_tup I1 rv hz s.toks, rfl, q _ its (I1.hok.fresh (Nat.le_refl _))⟩
  · obtain ⟨its, rv, pl, hz⟩ := I.tuple hq
    exact call_tuple_same pl ⟨.ref p, H, I, rfl, q⟩
def gTuple : List D → Option D
  | [.lst xs] => some (.tup xs)
  | [.tup xs] => some (.tup xs)
  | _ => none
theorem cd_tuple : CallD X (.type "tuple") gTuple := ⟨_, call_tupF, fun Z H xs ds d Q z r e q => by
  unfold gTuple at e
  split at e
  · cases e
    obtain ⟨v, rfl, r1⟩ := r.one
    obtain ⟨a, vs, rfl, h1, h2⟩ := r1.lst
    refine ⟨a, vs, rfl, .inl ⟨h1, fun p its hp => ?_⟩⟩
    have sm := Same.of_new (o := tHO its vs) hp
    exact q _ _ sm (.tup (.inl ⟨_, hid_new z hp, rfl⟩) (h2.mono (Same.hid sm)))
  · cases e
    obtain ⟨v, rfl, r1⟩ := r.one
    rcases r1 with r1 | ⟨_, _, _, _, ee, _⟩
    · cases r1 with
      | tup h1 h2 => exact ⟨_, _, rfl, .inr ⟨Same.tupq hid_full h1.sq, q _ _ (Same.refl _) (.tup h1 h2)⟩⟩
    · cases ee
  · cases e⟩
def gList : List D → Option (List D)
  | [.lst xs] => some xs
  | [.tup xs] => some xs
  | _ => none
theorem cn_list : CallN X (.type "list") gList := ⟨_, call_list_of, fun Z H xs ds es Q z r e q => by
  unfold gList at e
  split at e
  · cases e
    obtain ⟨v, rfl, r1⟩ := r.one
    obtain ⟨a, vs, rfl, h1, h2⟩ := r1.lst
    exact ⟨a, vs, rfl, .inl h1, fun p hp => q p vs hp h2⟩
  · cases e
    obtain ⟨v, rfl, r1⟩ := r.one
    obtain ⟨a, vs, rfl, h1, h2⟩ := r1.tup
    exact ⟨a, vs, rfl, .inr h1.sq, fun p hp => q p vs hp h2⟩
  · cases e⟩
def asInts : List D → Option (List Int)
  | [] => some []
  | .int i :: r => match asInts r with
    | some ns => some (i :: ns)
    | none => none
  | _ :: _ => none
theorem asInts_eq : ∀ {xs : List D} {ns : List Int}, asInts xs = some ns → xs = ns.map D.int
  | [], ns, e => by cases e; rfl
  | .int i :: r, ns, e => by
    simp only [asInts] at e
    split at e
    · rename_i ms q
      cases e
      rw [asInts_eq q]; rfl
    · cases e
  | .non :: _, _, e => by cases e
  | .bl _ :: _, _, e => by cases e
  | .str _ :: _, _, e => by cases e
  | .tup _ :: _, _, e => by cases e
  | .lst _ :: _, _, e => by cases e
  | .dct _ _ :: _, _, e => by cases e
  | .set _ :: _, _, e => by cases e
  | .obj _ _ _ :: _, _, e => by cases e
  | .ref _ :: _, _, e => by cases e
theorem asInts_map : ∀ (ns : List Int), asInts (ns.map D.int) = some ns
  | [] => rfl
  | n :: r => by simp only [List.map_cons, asInts, asInts_map r]
def bls : List D → Option (List Bool)
  | [] => some []
  | .bl i :: r => match bls r with
    | some ns => some (i :: ns)
    | none => none
  | _ :: _ => none
theorem bls_eq : ∀ {xs : List D} {ns : List Bool}, bls xs = some ns → xs = ns.map D.bl
  | [], ns, e => by cases e; rfl
  | .bl i :: r, ns, e => by
    simp only [bls] at e
    split at e
    · rename_i ms q
      cases e
      rw [bls_eq q]; rfl
    · cases e
  | .non :: _, _, e => by cases e
  | .int _ :: _, _, e => by cases e
  | .str _ :: _, _, e => by cases e
  | .tup _ :: _, _, e => by cases e
  | .lst _ :: _, _, e => by cases e
  | .dct _ _ :: _, _, e => by cases e
  | .set _ :: _, _, e => by cases e
  | .obj _ _ _ :: _, _, e => by cases e
  | .ref _ :: _, _, e => by cases e
theorem bls_map : ∀ (ns : List Bool), bls (ns.map D.bl) = some ns
  | [] => rfl
  | n :: r => by simp only [List.map_cons, bls, bls_map r]
def gSum : List D → Option D
  | [.lst xs] => match asInts xs with
    | some ns => some (.int ns.sum)
    | none => none
  | _ => none
theorem cd_sum (hc : X.calm = true) : CallD X (.builtin "sum") gSum := ⟨_, cr_sum hc, fun Z H xs ds d Q z r e q => by
  unfold gSum at e
  split at e
  · split at e
    · rename_i ns q1
      cases e
      obtain rfl := asInts_eq q1
      obtain ⟨v, rfl, r1⟩ := r.one
      obtain ⟨a, vs, rfl, h1, h2⟩ := r1.lst
      obtain rfl := h2.ints
      exact ⟨a, ns, rfl, h1, ret_int q⟩
    · cases e
  · cases e⟩
def gAll : List D → Option D
  | [.lst xs] => match bls xs with
    | some ns => some (.bl (ns.all id))
    | none => none
  | _ => none
theorem cd_all (hc : X.calm = true) : CallD X (.builtin "all") gAll := ⟨_, cr_all hc, fun Z H xs ds d Q z r e q => by
  unfold gAll at e
  split at e
  · split at e
    · rename_i ns q1
      cases e
      obtain rfl := bls_eq q1
      obtain ⟨v, rfl, r1⟩ := r.one
      obtain ⟨a, vs, rfl, h1, h2⟩ := r1.lst
      obtain rfl := h2.bls
      exact ⟨a, ns, rfl, h1, ret_bl q⟩
    · cases e
  · cases e⟩
def gAny : List D → Option D
  | [.lst xs] => match bls xs with
    | some ns => some (.bl (ns.any id))
    | none => none
  | _ => none
theorem cd_any (hc : X.calm = true) : CallD X (.builtin "any") gAny := ⟨_, cr_any hc, fun Z H xs ds d Q z r e q => by
  unfold gAny at e
  split at e
  · split at e
    · rename_i ns q1
      cases e
      obtain rfl := bls_eq q1
      obtain ⟨v, rfl, r1⟩ := r.one
      obtain ⟨a, vs, rfl, h1, h2⟩ := r1.lst
      obtain rfl := h2.bls
      exact ⟨a, ns, rfl, h1, ret_bl q⟩
    · cases e
  · cases e⟩
def insI (i : Int) : List Int → List Int
  | [] => [i]
  | j :: r => if i ≤ j then i :: j :: r else j :: insI i r
def sortI : List Int → List Int
  | [] => []
  | i :: r => insI i (sortI r)
theorem insI_perm (i : Int) : ∀ l, (insI i l).Perm (i :: l)
  | [] => .refl _
  | j :: r => by
    unfold insI
    split
    · exact .refl _
    · exact ((insI_perm i r).cons j).trans (.swap _ _ _)
theorem sortI_perm : ∀ l, (sortI l).Perm l
  | [] => .refl _
  | i :: r => (insI_perm i _).trans ((sortI_perm r).cons i)
theorem insI_sorted (i : Int) : ∀ l, l.Pairwise (· ≤ ·) → (insI i l).Pairwise (· ≤ ·)
  | [], _ => List.pairwise_singleton _ _
  | j :: r, h => by
    obtain ⟨h1, h2⟩ := List.pairwise_cons.mp h
    unfold insI
    split
    · rename_i hij
      refine List.pairwise_cons.mpr ⟨fun x hx => ?_, h⟩
      rcases List.mem_cons.mp hx with rfl | hx
      · exact hij
      · exact Int.le_trans hij (h1 x hx)
    · rename_i hij
      refine List.pairwise_cons.mpr ⟨fun x hx => ?_, insI_sorted i r h2⟩
      rcases List.mem_cons.mp ((insI_perm i r).mem_iff.mp hx) with rfl | hx
      · omega
      · exact h1 x hx
theorem sortI_sorted : ∀ l, (sortI l).Pairwise (· ≤ ·)
  | [] => .nil
  | i :: r => insI_sorted i _ (sortI_sorted r)
theorem sorted_uniq : ∀ {l m : List Int}, l.Perm m → l.Pairwise (· ≤ ·) → m.Pairwise (· ≤ ·) → l = m
  | [], m, p, _, _ => by rw [List.nil_perm.mp p]
  | i :: r, [], p, _, _ => by cases List.perm_nil.mp p
  | i :: r, j :: t, p, hl, hm => by
    obtain ⟨l1, l2⟩ := List.pairwise_cons.mp hl
    obtain ⟨m1, m2⟩ := List.pairwise_cons.mp hm
    have e : i = j := by
      have a1 : i ∈ j :: t := p.mem_iff.mp List.mem_cons_self
      have a2 : j ∈ i :: r := p.mem_iff.mpr List.mem_cons_self
      rcases List.mem_cons.mp a1 with a1 | a1
      · exact a1
      · rcases List.mem_cons.mp a2 with a2 | a2
        · exact a2.symm
        · exact Int.le_antisymm (l1 j a2) (m1 i a1)
    subst e
    rw [sorted_uniq (List.perm_cons _ |>.mp p) l2 m2]
def gSortedI : List D → Option (List D)
  | [.lst xs] => match asInts xs with
    | some ns => some ((sortI ns).map .int)
    | none => none
  | _ => none
theorem cn_sortedI : CallN X (.builtin "sorted") gSortedI := ⟨_, cr_sortedI, fun Z H xs ds es Q z r e q => by
  unfold gSortedI at e
  split at e
  · split at e
    · rename_i ns q1
      cases e
      obtain rfl := asInts_eq q1
      obtain ⟨v, rfl, r1⟩ := r.one
      obtain ⟨a, vs, rfl, h1, h2⟩ := r1.lst
      obtain rfl := h2.ints
      refine ⟨a, ns, rfl, h1, fun ns' p h3 h4 hp => ?_⟩
      rw [sorted_uniq (h3.trans (sortI_perm ns).symm) h4 (sortI_sorted ns)]
      exact q p _ hp (RDs.map_int _)
    · cases e
  · cases e⟩
def rCatL (K : PySem.W.Frag) : R2 := fun x y H Q => ∃ l b xs zs, x = .ref l ∧ y = .ref b ∧ SqL K H l xs ∧ SqL K H b zs ∧ xs.length + zs.length ≤ sizeLine ∧ ∀ p, H p = none → Q (.ref p) (upd H p (.lst (xs ++ zs)))
theorem op_catL : OpR X (binaryOp .Add) (rCatL X.K) := by
  rintro pins s σ H x y v u Q I rx ry ⟨l, b, xs, zs, rfl, rfl, hl, hb, hz, q⟩
  cases rx
  cases ry
  obtain ⟨its, r, ⟨⟨c1, d1, t1, s1⟩, n, ho, hc, _, hd⟩, _⟩ := I.list hl
  obtain ⟨its2, r2, ⟨⟨c2, d2, t2, s2⟩, n2, ho2, hc2, _, hd2⟩, _⟩ := I.list hb
  simp only at hc hd hc2 hd2
  subst hc hd hc2 hd2
  have len : (its ++ its2).length = xs.length + zs.length := by rw [List.length_append, r.length, r2.length]
  have ea : its.toArray ++ its2.toArray = (its ++ its2).toArray := by simp
  have big : its.toArray.size + its2.toArray.size ≤ sizeLine := by
    rw [List.size_toArray, List.size_toArray, ← List.length_append, len]
    exact hz
  refine concat_meets (s := s) (a := .ref l) (b := .ref b) ⟨_, ho, rfl⟩ ⟨_, ho2, rfl⟩ noFill_list_add seq_list_add PySem.F.slot_list_add PySem.F.entry_list_add (PySem.F.args_list_add_2 _ _) (list_addW l b _ _ n n2 d1 d2 s1 s2 big) ⟨ho, ho2, ?_⟩
  rw [ea]
  have hn := I.hok.fresh (Nat.le_refl s.heap.objs.size)
  refine ⟨V.ref s.heap.objs.size, _, I.laid (t' := s.toks) (o := .lst (xs ++ zs)) (fun _ _ k => Heap.get?_push_of_some _ k) (Nat.le_refl _) ⟨?_, its ++ its2, 0, r.append r2, Heap.get?_push_size _ rfl⟩, rfl, q _ hn⟩
  rw [List.length_append]; exact hz
def rCatF (K : PySem.W.Frag) : R2 := fun x y H Q => ∃ a b xs ys, x = .ref a ∧ y = .ref b ∧ SqT K H a xs ∧ SqT K H b ys ∧ xs.length + ys.length ≤ sizeLine ∧
  (xs = [] → Q (.ref b) H) ∧ (xs ≠ [] → ys = [] → Q (.ref a) H) ∧ (xs ≠ [] → ys ≠ [] → ∀ p its, H p = none → Q (.ref p) (upd H p (tHO its (xs ++ ys))))
theorem op_catF : OpR X (binaryOp .Add) (rCatF X.K) := by
  rintro pins s σ H x y v u Q I rx ry ⟨a, b, xs, ys, rfl, rfl, ha, hb, hz, q0, q1, q2⟩
  cases rx
  cases ry
  obtain ⟨its, r, p1, _⟩ := I.tuple ha
  obtain ⟨its2, r2, p2, _⟩ := I.tuple hb
  by_cases hx : xs = []
  · subst hx
    cases r
    exact cat_tup0 p1 p2 ⟨V.ref b, H, I, rfl, q0 rfl⟩
  · have nx : its ≠ [] := fun k => hx (r.nil_iff.mp k)
    have len : (its ++ its2).length = xs.length + ys.length := by rw [List.length_append, r.length, r2.length]
    apply HT.cat_tup p1 p2 nx (hsz := by rw [← List.length_append, len]; exact hz)
    · intro k
      exact ⟨V.ref a, H, I, rfl, q1 hx (r2.nil_iff.mp k)⟩
    · intro k
      exact ⟨V.ref s.heap.objs.size, _, lay_tup I (r.append r2) (by rw [List.length_append]; exact hz) s.toks, rfl, q2 hx (fun w => k (r2.nil_iff.mpr w)) _ _ (I.hok.fresh (Nat.le_refl _))⟩
def gAdd : D → D → Option D
  | .int i, .int j => some (.int (i + j))
  | .str x, .str y => if x.length + y.length ≤ 1000000 then some (.str (x ++ y)) else none
  | .lst xs, .lst ys => if xs.length + ys.length ≤ 1000000 then some (.lst (xs ++ ys)) else none
  | .tup xs, .tup ys => if xs.length + ys.length ≤ 1000000 then some (.tup (xs ++ ys)) else none
  | _, _ => none
theorem od_add : OpD X (binaryOp .Add) gAdd := ⟨_, (op_add.or op_add_str).or (op_catL.or op_catF), fun Z H x y dx dy d Q z rx ry e q => by
  unfold gAdd at e
  split at e
  · cases e
    exact .inl (.inl ⟨_, _, rx.int, ry.int, ret_int q⟩)
  · split at e
    · rename_i hz
      cases e
      exact .inl (.inr ⟨_, _, rx.str, ry.str, len_line hz, ret_str q⟩)
    · cases e
  · split at e
    · rename_i hz
      cases e
      obtain ⟨a, vs, rfl, h1, h2⟩ := rx.lst
      obtain ⟨b, ws, rfl, h3, h4⟩ := ry.lst
      refine .inr (.inl ⟨a, b, vs, ws, rfl, rfl, h1, h3, by rw [h2.len, h4.len]; exact len_line hz, fun p hp => ?_⟩)
      have sm := Same.of_new (o := .lst (vs ++ ws)) hp
      exact q _ _ sm (.lst (SqL.of (hid_new z hp)) ((h2.app h4).mono (Same.hid sm)))
    · cases e
  · rename_i xs ys
    split at e
    · rename_i hz
      cases e
      obtain ⟨a, vs, rfl, h1, h2⟩ := rx.tup
      obtain ⟨b, ws, rfl, h3, h4⟩ := ry.tup
      refine .inr (.inr ⟨a, b, vs, ws, rfl, rfl, h1.sq, h3.sq, by rw [h2.len, h4.len]; exact len_line hz, fun e1 => ?_, fun e1 e2 => ?_, fun e1 e2 p its hp => ?_⟩)
      · subst e1
        cases h2
        rcases ry with ry | ⟨_, _, _, _, ee, _⟩
        · exact q _ H (Same.refl _) ry
        · cases ee
      · subst e2
        cases h4
        rw [List.append_nil] at q
        rcases rx with rx | ⟨_, _, _, _, ee, _⟩
        · exact q _ H (Same.refl _) rx
        · cases ee
      · have sm := Same.of_new (o := tHO its (vs ++ ws)) hp
        exact q _ _ sm (.tup (.inl ⟨_, hid_new z hp, rfl⟩) ((h2.app h4).mono (Same.hid sm)))
    · cases e
  · cases e⟩
theorem id_add : IpD X .Add (gI0 fun i j => .int (i + j)) := opD_I0 iop_add
theorem rt_ty {G : Gp} {Z : List Addr} {H : Hp} {v : V} {d : D} (h : RT G Z H v d) : ∀ t, (match d with
    | .non => some "NoneType"
    | .bl _ => some "bool"
    | .int _ => some "int"
    | .str _ => some "str"
    | .lst _ => some "list"
    | .tup _ => some "tuple"
    | .dct _ _ => some "dict"
    | _ => none) = some t → TyX G.K H v (.type t) := by
  intro t e
  rcases h with h | ⟨a, vs, ds, rfl, rfl, h1, _⟩
  · cases h with
    | non => cases e; exact .base .non
    | bl b => cases e; exact .base (.bl b)
    | int b => cases e; exact .base (.int b)
    | str b => cases e; exact .base (.str b)
    | ref a => cases e
    | lst h1 h2 =>
      cases e
      rcases hid_full.seq h1 with (h1 | ⟨o, h1⟩) | ⟨o, its, n, k1, k2, _⟩
      · exact .base (.lst h1)
      · exact .base (.frz h1)
      · exact .kList k1 k2
    | tup h1 h2 =>
      cases e
      rcases h1 with ⟨o, h1, _⟩ | ⟨o, its, n, k1, k2, _⟩
      · exact .fTuple (hid_full _ _ h1)
      · exact .kTuple k1 k2
    | dct h1 _ => cases e; exact .base (.dK (hid_full _ _ h1))
    | dctT h1 _ => cases e; exact .base (.dT (hid_full _ _ h1))
    | set _ _ _ _ => cases e
    | obj _ _ _ => cases e
  · cases e; exact .base (.lst h1)
def tyN : D → Option String
  | .non => some "NoneType"
  | .bl _ => some "bool"
  | .int _ => some "int"
  | .str _ => some "str"
  | .lst _ => some "list"
  | .tup _ => some "tuple"
  | .dct _ _ => some "dict"
  | _ => none
def isiB (t n : String) : Bool := t == n || (t == "bool" && n == "int")
def tyKnown (n : String) : Bool := n == "int" || n == "bool" || n == "tuple" || n == "list" || n == "str" || n == "dict"
theorem kit_known {n : String} (hn : tyKnown n = true) : ∀ t ∈ ["NoneType", "bool", "int", "str", "list", "tuple", "dict"], kitB t n = some (isiB t n) := by
  unfold tyKnown at hn
  simp only [Bool.or_eq_true, beq_iff_eq] at hn
  rcases hn with ((((rfl | rfl) | rfl) | rfl) | rfl) | rfl <;> decide +kernel
def gIsi (n : String) (d : D) : Option D := match tyN d with
  | some t => some (.bl (isiB t n))
  | none => none
theorem tyN_mem {d : D} {t : String} (h : tyN d = some t) : t ∈ ["NoneType", "bool", "int", "str", "list", "tuple", "dict"] := by
  cases d <;> cases h <;> decide
theorem de_isi {a : Expr} {fa : ES} {x : Str} {n : String} {p p2 pos : Pos} (hn : tyKnown n = true) (hg : Gl X "isinstance") (hm : X.mg "isinstance" = none) (ha : DE X a fa) (hg2 : Gl X x) (hm2 : X.mg x = none) (hv : bootBuiltins x = some (.type n))
    (hv0 : bootBuiltins "isinstance" = some (.builtin "isinstance")) (hx : x ≠ "__name__" := by decide) (hxd : (x == ("__debug__" : Str)) = false := by decide)
    (h1 : starEach [a, .Name x p2] X.env = (false, eval a X.env) :: starEach [.Name x p2] X.env := by rfl) : DE X (.Call (.Name "isinstance" p) [a, .Name x p2] [] pos) (eUn (gIsi n) fa) := ⟨fun F => by
  refine pe_imp (pe_callB call_isi hg hm hv0 (pa_cons (ha.run F) (pa_cons (pe_bltn (v := .ty n) hg2 hm2 hv rfl hx hxd) pa_nil) h1) (by decide) (by decide) h1) fun σ H Q ⟨A, ρ, rr, ρ', S, e, q⟩ => ?_
  obtain ⟨ra, ρ1, e1, e⟩ := bind_ok e
  obtain ⟨d, ρ3, e3, e⟩ := bind_ok e
  obtain ⟨l3, rfl⟩ := val_ok e3
  obtain ⟨c, ρ5, e5, e⟩ := bind_ok e
  obtain ⟨l5, rfl⟩ := opt_ok e5
  obtain ⟨rfl, rfl⟩ := ret_ok e
  refine ⟨A, ρ, ra, _, S, e1, fun v H1 S1 m1 r1 => ?_⟩
  have rt := look_rt S1 r1 l3
  unfold gIsi at l5
  split at l5
  · rename_i t ht
    cases l5
    refine ⟨v, .ty n, .type t, .type n, isiB t n, rfl, .ty n, rt_ty rt t ?_, kit_ty (kit_known hn t (tyN_mem ht)), q _ H1 S1 m1 (.bl _)⟩
    unfold tyN at ht
    exact ht
  · cases l5⟩
end
mutual
def cost : D → Nat
  | .non => 4
  | .bl _ => 5
  | .int i => if i.natAbs < 10 ^ 18 then 20 else if i.natAbs < 2 ^ 1900 then 1922 else 100000000
  | .str x => if PyData.strOk x = true then 10 * x.length + 2 else 100000000
  | .lst xs => costs xs + 3
  | .tup xs => costs xs + 3
  | _ => 100000000
def costs : List D → Nat
  | [] => 0
  | x :: xs => cost x + 2 + costs xs
end
theorem strOk_of {x : Str} (h : PyData.strOk x = true) : ∀ c ∈ x.cps.toList, c < 16 ^ 8 := fun c hc => by
  have z := Array.all_eq_true_iff_forall_mem.mp h c (by simpa using hc)
  have z := of_decide_eq_true z
  exact Nat.lt_of_lt_of_le z (by decide)
theorem ofString_len (x : String) : (Str.ofString x).length = x.length :=
  PySem.ofString_length x
mutual
theorem cost_ok : ∀ (d : D), cost d ≤ 16000000 → (pd d).showable = true ∧ (pd d).shown.length ≤ cost d
  | .non, _ => ⟨rfl, by decide⟩
  | .bl b, _ => ⟨rfl, by cases b <;> decide⟩
  | .int i, h => by
    simp only [cost] at h ⊢
    by_cases z : i.natAbs < 10 ^ 18
    · rw [if_pos z]
      refine ⟨?_, ?_⟩
      · show decide (i.natAbs.log2 < 1920) = true
        have z2 : i.natAbs < 2 ^ 60 := Nat.lt_of_lt_of_le z (by decide)
        exact decide_eq_true (Nat.lt_trans (PySem.Flt.log2_lt_of (by decide) z2) (by decide))
      · show (Str.ofString (toString i)).length ≤ 20
        rw [ofString_len]
        exact Nat.le_trans (int_text_length_le10 (k := 18) (by decide) z) (by decide)
    · rw [if_neg z] at h ⊢
      by_cases z : i.natAbs < 2 ^ 1900
      · rw [if_pos z]
        have zl := PySem.Flt.log2_lt_of (by decide) z
        refine ⟨?_, ?_⟩
        · show decide (i.natAbs.log2 < 1920) = true
          exact decide_eq_true (Nat.lt_trans zl (by decide))
        · show (Str.ofString (toString i)).length ≤ 1922
          rw [ofString_len]
          exact Nat.le_trans (int_text_length_le (k := 1900) (by decide) zl) (by decide)
      · rw [if_neg z] at h
        exact absurd h (by decide)
  | .str x, h => by
    simp only [cost] at h ⊢
    by_cases z : PyData.strOk x = true
    · rw [if_pos z]
      exact ⟨rfl, StrLaws.reprText_len x (strOk_of z)⟩
    · rw [if_neg z] at h
      exact absurd h (by decide)
  | .lst xs, h => by
    simp only [cost] at h ⊢
    obtain ⟨h1, h2⟩ := costs_ok xs (by omega)
    refine ⟨h1, Nat.le_trans (listText_len_le _) ?_⟩
    omega
  | .tup xs, h => by
    simp only [cost] at h ⊢
    obtain ⟨h1, h2⟩ := costs_ok xs (by omega)
    refine ⟨h1, Nat.le_trans (tupleText_len_le _) ?_⟩
    omega
  | .dct _ _, h => absurd h (by simp [cost])
  | .set _, h => absurd h (by simp [cost])
  | .obj _ _ _, h => absurd h (by simp [cost])
  | .ref _, h => absurd h (by simp [cost])
theorem costs_ok : ∀ (ds : List D), costs ds ≤ 16000000 → PyData.showableAll (pds ds) = true ∧ ((PyData.shownAll (pds ds)).map (·.length)).sum + 2 * (PyData.shownAll (pds ds)).length ≤ costs ds
  | [], _ => ⟨rfl, Nat.le_refl _⟩
  | x :: xs, h => by
    simp only [costs] at h ⊢
    obtain ⟨h1, h2⟩ := cost_ok x (by omega)
    obtain ⟨h3, h4⟩ := costs_ok xs (by omega)
    refine ⟨Bool.and_eq_true_iff.mpr ⟨h1, h3⟩, ?_⟩
    simp only [pds, PyData.shownAll, List.map_cons, List.sum_cons, List.length_cons]
    omega
end
mutual
theorem pd_nodict : ∀ (d : D), (pd d).hasDict = false
  | .non => rfl
  | .bl _ => rfl
  | .int _ => rfl
  | .str _ => rfl
  | .lst xs => pds_nodict xs
  | .tup xs => pds_nodict xs
  | .dct _ _ => rfl
  | .set _ => rfl
  | .obj _ _ _ => rfl
  | .ref _ => rfl
theorem pds_nodict : ∀ (ds : List D), PyData.hasDictAll (pds ds) = false
  | [] => rfl
  | x :: xs => by
    simp only [pds, PyData.hasDictAll]
    rw [pd_nodict x, pds_nodict xs]; rfl
end
section
variable {X : Cx}
def shownD (d : D) : Str := (pd d).shown
def gRepr : List D → Option D
  | [d] => if (pl 50 d && decide (cost d ≤ 16000000)) = true then some (.str (shownD d)) else none
  | _ => none
def rReprD (K : PySem.W.Frag) : List V → Hp → VK → Prop := fun xs H Q => ∃ v d, xs = [v] ∧ pl 50 d = true ∧ cost d ≤ 16000000 ∧ Dp K H v (pd d) ∧ (match d with
  | .non => v = .non
  | .bl b => v = .bl b
  | .int i => v = .int i
  | .str x => v = .str x
  | _ => ∃ a, v = .ref a) ∧ Q (.str (shownD d)) H
theorem call_reprD (gd : X.A.guards = some []) (hu : X.A.units + 64 < cLine) : CallR X (.builtin "repr") (rReprD X.K) := by
  rintro pins s σ H xs us Q I r ⟨v, d, rfl, hp, hc, dp, hv, q⟩
  obtain ⟨u, rfl, ru⟩ := vals1 r
  obtain ⟨c1, c2⟩ := cost_ok d hc
  have len : (pd d).shown.length ≤ sizeLine := Nat.le_trans c2 (Nat.le_trans hc (by rw [sizeLine_eq]; decide))
  have dep : (pd d).depth ≤ 50 := (pl_lay 50 d hp).2
  have fin : ∀ (h' : Heap) (t : Tok) (tk : Nat), (∀ b o, s.heap.get? b = some o → h'.get? b = some o) → EP X pins σ Q (.str (pd d).shown t) { s with heap := h', toks := tk } := fun h' t tk k => ⟨.str (shownD d), H, I.kept k, ⟨t, rfl⟩, q⟩
  have big : (∃ a, v = .ref a) → wpAny (model X.prog X.w) X.A (call (.builtin "repr") [u]) (EP X pins σ Q) X.xe s := by
    rintro ⟨a, rfl⟩
    obtain ⟨as, rd⟩ := Dp.reads I _ _ u dp ru
    cases ru
    exact repr_of_reads' rd c1 (fun z => by rw [pd_nodict d] at z; cases z) gd (by omega) (fun _ _ z => z) (fun h' t tk k => fin h' t tk k) len
  cases d with
  | non =>
    subst hv; cases ru
    exact P.repr_of_none (fin s.heap _ _ fun _ _ z => z)
  | bl b =>
    subst hv; cases ru
    exact P.repr_of_bool (fin s.heap _ _ fun _ _ z => z)
  | int i =>
    subst hv
    obtain ⟨t, rfl⟩ := ru
    exact P.repr_of_int (of_decide_eq_true c1) (fin s.heap _ _ fun _ _ z => z)
  | str x =>
    subst hv
    obtain ⟨t, rfl⟩ := ru
    exact P.repr_of_str (fin s.heap _ _ fun _ _ z => z) len
  | _ => exact big hv
theorem cd_repr (gd : X.A.guards = some []) (hu : X.A.units + 64 < cLine) : CallD X (.builtin "repr") gRepr := ⟨_, call_reprD gd hu, fun Z H xs ds d Q z r e q => by
  unfold gRepr at e
  split at e
  · rename_i x
    split at e
    · rename_i h
      cases e
      obtain ⟨h1, h2⟩ := Bool.and_eq_true_iff.mp h
      obtain ⟨v, rfl, r1⟩ := r.one
      refine ⟨v, x, rfl, h1, of_decide_eq_true h2, pl_dp 50 x v h1 r1.full, ?_, ret_str q⟩
      have f := r1.full
      cases f <;> first | rfl | exact ⟨_, rfl⟩
    · cases e
  · cases e⟩
end
end Dv
namespace Dv
open PySem PySem.Spec PyProof.Rows L2
def lAt (ρ : Rho) (i : Nat) : Option (List D) := match ρ[i]? with
  | some (some (.ow xs)) => some xs
  | some (some (.bo xs)) => some xs
  | _ => none
def lPut (ρ : Rho) (i : Nat) (ys : List D) : Rho := match ρ[i]? with
  | some (some (.ow _)) => ρ.set i (some (.ow ys))
  | some (some (.bo _)) => ρ.set i (some (.bo ys))
  | _ => ρ
theorem lAt_own {G : Gp} {F : Fm} {A : Own} {σ : St} {ρ : Rho} {H : Hp} {i : Nat} {xs : List D} (S : Sts G F A σ ρ H) (h : lAt ρ i = some xs) : ∃ a vs, (i, a) ∈ A ∧ σ[i]? = some (some (.ref a)) ∧ H a = some (.lst vs) ∧ RDs G (hid (zs F A) H) vs xs := by
  unfold lAt at h
  split at h
  · rename_i ys q
    cases h
    obtain ⟨a, h1, _, _, h2, vs, h3, h4⟩ := S.ow i _ q
    exact ⟨a, vs, h1, h2, h3, h4⟩
  · rename_i ys q
    cases h
    obtain ⟨a, h1, _, h2, vs, h3, h4⟩ := S.bo i _ q
    exact ⟨a, vs, h1, h2, h3, h4⟩
  · cases h
theorem Sts.chg {G : Gp} {F : Fm} {A : Own} {σ : St} {ρ : Rho} {H : Hp} {i : Nat} {a : Addr} {xs ys : List D} {vs : List V} (S : Sts G F A σ ρ H) (h : lAt ρ i = some xs) (ha : (i, a) ∈ A) (r : RDs G (hid (zs F A) H) vs ys) :
    Sts G F A σ (lPut ρ i ys) (upd H a (.lst vs)) ∧ Stp A H (upd H a (.lst vs)) := by
  have hz : a ∈ zs F A := mem_zs.mpr (.inr ⟨i, ha⟩)
  have eh : hid (zs F A) (upd H a (.lst vs)) = hid (zs F A) H := hid_upd hz
  have st : Stp A H (upd H a (.lst vs)) := fun b o e n => by
    rw [upd_ne (fun z : b = a => n i (by rw [z]; exact ha))]; exact e
  obtain ⟨a', vs0, ha', hσ, h0, _⟩ := lAt_own S h
  obtain rfl := (S.uni i i a a' ha ha').mp rfl
  have other : ∀ {j b zs'}, (j, b) ∈ A → j ≠ i → OwAt G F A σ H j b zs' → OwAt G F A σ (upd H a (.lst vs)) j b zs' := fun {j b zs'} hb hj ⟨h1, ws, h2, h3⟩ => by
    have nb : b ≠ a := fun z => hj ((S.uni j i b a hb ha).mpr z)
    exact ⟨h1, ws, by rw [upd_ne nb]; exact h2, by rw [eh]; exact h3⟩
  have here : OwAt G F A σ (upd H a (.lst vs)) i a ys := ⟨hσ, vs, upd_same, by rw [eh]; exact r⟩
  have keep : ∀ b o, F.H0 b = some o → (∀ j, (j, b) ∉ F.B) → upd H a (.lst vs) b = some o := fun b o e n => by
    by_cases z : b = a
    · subst z
      unfold lAt at h
      split at h
      · rename_i q
        obtain ⟨c, h1, _, h3, _⟩ := S.ow i _ q
        obtain rfl := (S.uni i i b c ha h1).mp rfl
        rw [h3] at e; cases e
      · rename_i q
        obtain ⟨c, h1, h2, _⟩ := S.bo i _ q
        obtain rfl := (S.uni i i b c ha h1).mp rfl
        exact absurd h2 (n i)
      · cases h
    · rw [upd_ne z]; exact S.keep b o e n
  have zok : ZOk F.Z (upd H a (.lst vs)) := fun b hb q => by
    by_cases z : b = a
    · subst z; rw [upd_same] at q; cases q
    · rw [upd_ne z] at q; exact S.zok b hb q
  refine ⟨?_, st⟩
  unfold lAt at h
  split at h
  · rename_i zs0 q
    have e : lPut ρ i ys = ρ.set i (some (.ow ys)) := by unfold lPut; rw [q]
    rw [e]
    have hi : i < ρ.length := (List.getElem?_eq_some_iff.mp q).1
    refine ⟨by rw [List.length_set]; exact S.len, fun j d hj => ?_, fun j xs' hj => ?_, fun j xs' hj => ?_, fun j b hb => ?_, S.uni, fun j b hb => ?_, keep, zok⟩
    · by_cases z : j = i
      · subst z; rw [List.getElem?_set_self hi] at hj; cases hj
      · rw [List.getElem?_set_ne (Ne.symm z)] at hj
        obtain ⟨v, h1, h2⟩ := S.im j d hj
        exact ⟨v, h1, by rw [eh]; exact h2⟩
    · by_cases z : j = i
      · subst z
        rw [List.getElem?_set_self hi] at hj
        cases hj
        obtain ⟨c, h1, h2, h3, _⟩ := S.ow j _ q
        obtain rfl := (S.uni j j a c ha h1).mp rfl
        exact ⟨a, ha, h2, h3, here⟩
      · rw [List.getElem?_set_ne (Ne.symm z)] at hj
        obtain ⟨c, h1, h2, h3, h4⟩ := S.ow j _ hj
        exact ⟨c, h1, h2, h3, other h1 z h4⟩
    · by_cases z : j = i
      · subst z; rw [List.getElem?_set_self hi] at hj; cases hj
      · rw [List.getElem?_set_ne (Ne.symm z)] at hj
        obtain ⟨c, h1, h2, h4⟩ := S.bo j _ hj
        exact ⟨c, h1, h2, other h1 z h4⟩
    · by_cases z : j = i
      · subst z; exact ⟨ys, .inl (List.getElem?_set_self hi)⟩
      · rw [List.getElem?_set_ne (Ne.symm z)]; exact S.own j b hb
    · obtain ⟨h1, xs', h2⟩ := S.bor j b hb
      have z : j ≠ i := fun z => by subst z; rw [q] at h2; cases h2
      exact ⟨h1, xs', by rw [List.getElem?_set_ne (Ne.symm z)]; exact h2⟩
  · rename_i zs0 q
    have e : lPut ρ i ys = ρ.set i (some (.bo ys)) := by unfold lPut; rw [q]
    rw [e]
    have hi : i < ρ.length := (List.getElem?_eq_some_iff.mp q).1
    refine ⟨by rw [List.length_set]; exact S.len, fun j d hj => ?_, fun j xs' hj => ?_, fun j xs' hj => ?_, fun j b hb => ?_, S.uni, fun j b hb => ?_, keep, zok⟩
    · by_cases z : j = i
      · subst z; rw [List.getElem?_set_self hi] at hj; cases hj
      · rw [List.getElem?_set_ne (Ne.symm z)] at hj
        obtain ⟨v, h1, h2⟩ := S.im j d hj
        exact ⟨v, h1, by rw [eh]; exact h2⟩
    · by_cases z : j = i
      · subst z; rw [List.getElem?_set_self hi] at hj; cases hj
      · rw [List.getElem?_set_ne (Ne.symm z)] at hj
        obtain ⟨c, h1, h2, h3, h4⟩ := S.ow j _ hj
        exact ⟨c, h1, h2, h3, other h1 z h4⟩
    · by_cases z : j = i
      · subst z
        rw [List.getElem?_set_self hi] at hj
        cases hj
        obtain ⟨c, h1, h2, _⟩ := S.bo j _ q
        obtain rfl := (S.uni j j a c ha h1).mp rfl
        exact ⟨a, ha, h2, here⟩
      · rw [List.getElem?_set_ne (Ne.symm z)] at hj
        obtain ⟨c, h1, h2, h4⟩ := S.bo j _ hj
        exact ⟨c, h1, h2, other h1 z h4⟩
    · by_cases z : j = i
      · subst z; exact ⟨ys, .inr (List.getElem?_set_self hi)⟩
      · rw [List.getElem?_set_ne (Ne.symm z)]; exact S.own j b hb
    · obtain ⟨h1, xs', h2⟩ := S.bor j b hb
      by_cases z : j = i
      · subst z; exact ⟨h1, ys, List.getElem?_set_self hi⟩
      · exact ⟨h1, xs', by rw [List.getElem?_set_ne (Ne.symm z)]; exact h2⟩
  · cases h
abbrev Ch := List D → List D → Option (D × List D)
def MtD (X : Cx) (id : String) (ch : Ch) : Prop := ∃ r, MtR X id r ∧ ∀ (Z : List Addr) (H : Hp) (a : Addr) (vs ws : List V) (xs ds ys : List D) (d : D) (Q : VK), a ∈ Z → H a = some (.lst vs) → RDs (Gx X) (hid Z H) vs xs → RDs (Gx X) (hid Z H) ws ds → ch xs ds = some (d, ys) →
  (∀ v vs', RD (Gx X) (hid Z H) v d → RDs (Gx X) (hid Z H) vs' ys → Q v (upd H a (.lst vs'))) → r (.ref a) ws H Q
def eMt (i : Nat) (ch : Ch) (fs : M (List RV)) : ES := fun ρ0 => match lAt ρ0 i with
  | none => .no
  | some _ => (M.bind fs fun rs => fun ρ => match imms rs, lAt ρ i with
    | some ds, some xs => match ch xs ds with
      | some (d, ys) => .ok (.im d) (lPut ρ i ys)
      | none => .no
    | _, _ => .no) ρ0
section
variable {X : Cx} {e : Expr} {es : List Expr} {fs : M (List RV)} {name : Str} {apos cpos : Pos} {id : String} {ch : Ch} {i : Nat} {o : Expr} {pos : Pos} {fa fb : ES} {a b : Expr}
theorem de_mt (pa : PlainAttrs "list") (slot : Slot "list" name id) (hty : typeOf (.builtin id) = pure (.type "method_descriptor")) (hm : MtD X id ch) (ho : PE X o (tVar i)) (ha : DA X (e :: es) fs)
    (hbase : attributeBase o name X.env (eval o X.env) = eval o X.env := by rfl)
    (hfew : ((backTo cpos (starEach (e :: es) X.env)).all (fun x => !x.1) && (backToKw cpos (keywordEach [] X.env)).all (fun x => x.1.isSome)
      && decide ((e :: es).length + ([] : List Keyword).length + (if ([] : List Keyword).isEmpty then 0 else 1) < 30)) = true := by rfl)
    (hline : (apos.endLine == cpos.line) = true := by rfl) (hs : starEach (e :: es) X.env = (false, eval e X.env) :: starEach es X.env := by rfl) (hplain : (backTo cpos (starEach es X.env)).any (·.1) = false := by rfl) :
    DE X (.Call (.Attribute o name apos) (e :: es) [] cpos) (eMt i ch fs) := ⟨fun F => by
  obtain ⟨r, h1, h2⟩ := hm
  refine pe_imp (pe_bm pa slot hty h1 ho (ha.run F) hbase hfew hline hs hplain) fun σ H Q ⟨A, ρ, rr, ρ', S, e, q⟩ => ?_
  unfold eMt at e
  split at e
  · cases e
  · rename_i xs0 hl0
    obtain ⟨p, vs0, hp, hσ, hH, _⟩ := lAt_own S hl0
    refine ⟨.ref p, hσ, ⟨.inl ⟨rfl, vs0, SqL.of hH⟩, ?_⟩⟩
    obtain ⟨rs, ρ1, e1, e⟩ := bind_ok e
    refine ⟨A, ρ, rs, ρ1, S, e1, fun ws H1 S1 m1 r1 => ?_⟩
    split at e
    · rename_i ds xs e2 e3
      split at e
      · rename_i d ys e4
        cases e
        obtain ⟨p', vs, hp', hσ', hH', hr⟩ := lAt_own S1 e3
        obtain rfl := (S1.uni i i p p' hp hp').mp rfl
        refine h2 (zs F A) H1 p vs ws xs ds ys d Q (mem_zs.mpr (.inr ⟨i, hp⟩)) hH' hr (imms_rd r1 e2) e4 fun v vs' rv rvs => ?_
        obtain ⟨S2, m2⟩ := S1.chg e3 hp rvs
        refine q v _ S2 (m1.trans m2) ?_
        show RD _ _ _ _
        rw [hid_upd (mem_zs.mpr (.inr ⟨i, hp⟩))]
        exact rv
      · cases e
    · cases e⟩
theorem de_mt0 (pa : PlainAttrs "list") (slot : Slot "list" name id) (hty : typeOf (.builtin id) = pure (.type "method_descriptor")) (hm : MtD X id ch) (ho : PE X o (tVar i))
    (hbase : attributeBase o name X.env (eval o X.env) = eval o X.env := by rfl) (hline : (apos.endLine == cpos.line) = true := by rfl) :
    DE X (.Call (.Attribute o name apos) [] [] cpos) (eMt i ch aNil) := ⟨fun F => by
  obtain ⟨r, h1, h2⟩ := hm
  refine pe_imp (pe_bm0 pa slot hty h1 ho hbase hline) fun σ H Q ⟨A, ρ, rr, ρ', S, e, q⟩ => ?_
  unfold eMt at e
  split at e
  · cases e
  · rename_i xs0 hl0
    obtain ⟨p, vs0, hp, hσ, hH, _⟩ := lAt_own S hl0
    refine ⟨.ref p, hσ, ⟨.inl ⟨rfl, vs0, SqL.of hH⟩, ?_⟩⟩
    obtain ⟨rs, ρ1, e1, e⟩ := bind_ok e
    obtain ⟨rfl, rfl⟩ := ret_ok e1
    dsimp only [imms] at e
    split at e
    · rename_i ds xs e2 e3
      cases e2
      split at e
      · rename_i d ys e4
        cases e
        obtain ⟨p', vs, hp', hσ', hH', hr⟩ := lAt_own S e3
        obtain rfl := (S.uni i i p p' hp hp').mp rfl
        refine h2 (zs F A) H p vs [] xs [] ys d Q (mem_zs.mpr (.inr ⟨i, hp⟩)) hH' hr .nil e4 fun v vs' rv rvs => ?_
        obtain ⟨S2, m2⟩ := S.chg e3 hp rvs
        refine q v _ S2 m2 ?_
        show RD _ _ _ _
        rw [hid_upd (mem_zs.mpr (.inr ⟨i, hp⟩))]
        exact rv
      · cases e
    · cases e⟩
def cAppend : Ch
  | xs, [d] => if xs.length < 1000000 then some (.non, xs ++ [d]) else none
  | _, _ => none
theorem md_append : MtD X "list.append" cAppend := ⟨_, mt_append, fun Z H a vs ws xs ds ys d Q hz ha r rs e q => by
  unfold cAppend at e
  split at e
  · rename_i d0
    by_cases z : xs.length < 1000000
    · rw [if_pos z] at e
      cases e
      cases rs with
      | cons r1 r2 =>
        cases r2
        exact ⟨a, vs, _, rfl, rfl, ha, by rw [r.len]; exact len_lt z, q _ _ .non (r.app (.cons r1 .nil))⟩
    · rw [if_neg z] at e; cases e
  · cases e⟩
def cPop : Ch
  | xs, [] => match xs[xs.length - 1]? with
    | some d => some (d, xs.dropLast)
    | none => none
  | _, _ => none
theorem RDs.dl {G : Gp} {H : Hp} {vs : List V} {ds : List D} (r : RDs G H vs ds) : RDs G H vs.dropLast ds.dropLast := by
  rw [List.dropLast_eq_take, List.dropLast_eq_take, r.len]; exact r.take _
theorem md_pop : MtD X "list.pop" cPop := ⟨_, mt_pop, fun Z H a vs ws xs ds ys d Q hz ha r rs e q => by
  unfold cPop at e
  split at e
  · split at e
    · rename_i d0 e0
      cases e
      cases rs
      rw [← r.len] at e0
      obtain ⟨v, h1, h2⟩ := r.get e0
      exact ⟨a, vs, v, rfl, rfl, ha, h1, q v _ h2 r.dl⟩
    · cases e
  · cases e⟩
def ixD (n : Nat) (k : Int) : Option Nat := ixN n k
def sSetIx (i : Nat) (fa fx : ES) : SS := M.bind fa fun r => M.bind (imm r) fun d => M.bind (eVar i) fun _ => M.bind fx fun rx => M.bind (val rx) fun dx => M.bind (M.opt (isInt dx)) fun k => fun ρ => match lAt ρ i with
  | some xs => match ixN xs.length k with
    | some j => .ok .nx (lPut ρ i (xs.set j d))
    | none => .no
  | none => .no
theorem isInt_ok {d : D} {k : Int} (h : isInt d = some k) : d = .int k := by
  cases d <;> cases h; rfl
theorem eVar_al {i : Nat} {ρ ρ' : Rho} {r : RV} (h : eVar i ρ = .ok r ρ') : ρ = ρ' ∧ ((∃ d, ρ[i]? = some (some (.im d)) ∧ r = .im d) ∨ ∃ xs, lAt ρ i = some xs ∧ r = .al i) := by
  unfold eVar at h
  split at h
  · rename_i d q; cases h; exact ⟨rfl, .inl ⟨d, q, rfl⟩⟩
  · rename_i xs q; cases h; exact ⟨rfl, .inr ⟨xs, by unfold lAt; rw [q], rfl⟩⟩
  · rename_i xs q; cases h; exact ⟨rfl, .inr ⟨xs, by unfold lAt; rw [q], rfl⟩⟩
  · cases h
theorem ds_setIx {ix : Expr} {fx : ES} {tpos : Pos} (he : DE X e fa) (ho : PE X o (tVar i)) (hx : DE X ix fx)
    (ha : ∀ v, assign (.Subscript o ix tpos) X.env v = (do
      let ov ← holding [v] (eval o X.env)
      let iv ← holding [v, ov] (eval ix X.env)
      standAt tpos
      holding [v, ov, iv] (setItem ov iv v)
      release [v, ov, iv] []) := by intro _; rfl)
    (hs : swapsWithSole [.Subscript o ix tpos] e pos.line X.env = pure false := by rfl) (hw : swappedStores [.Subscript o ix tpos] e X.env = pure none := by rfl)
    (h1 : (assignEach [.Subscript o ix tpos] X.env).map (·.2) = [assign (.Subscript o ix tpos) X.env] := by rfl) :
    DS X (.Assign [.Subscript o ix tpos] e pos) (sSetIx i fa fx) := ⟨fun F => ps_imp (ps_asg (he.run F) (pg_sub ho (hx.run F) set_list ha) hs hw h1) fun D σ H ⟨A, ρ, S, out⟩ => by
  obtain ⟨r, ρ1, e1, out⟩ := out_bind out
  obtain ⟨d, ρ2, e2, out⟩ := out_bind out
  obtain ⟨rfl, rfl⟩ := imm_ok e2
  refine ⟨A, ρ, _, _, S, e1, fun v H1 S1 m1 r1 => ?_⟩
  obtain ⟨r0, ρ3, e3, out⟩ := out_bind out
  obtain ⟨rfl, k3⟩ := eVar_al e3
  have goL : ∃ v0, σ[i]? = some (some v0) ∧ (∀ xs, lAt ρ1 i = some xs → ∃ p, v0 = .ref p ∧ (i, p) ∈ A) := by
    rcases k3 with ⟨d0, q, _⟩ | ⟨xs, q, _⟩
    · obtain ⟨v0, h1, h2⟩ := S1.im i d0 q
      exact ⟨v0, h1, fun xs hx => by unfold lAt at hx; rw [q] at hx; cases hx⟩
    · obtain ⟨p, vs, h1, h2, h3, h4⟩ := lAt_own S1 q
      exact ⟨_, h2, fun _ _ => ⟨p, rfl, h1⟩⟩
  obtain ⟨v0, hv0, _⟩ := goL
  refine ⟨v0, hv0, ?_⟩
  obtain ⟨rx, ρ4, e4, out⟩ := out_bind out
  refine ⟨A, ρ1, rx, ρ4, S1, e4, fun vx H2 S2 m2 r2 => ?_⟩
  obtain ⟨dx, ρ5, e5, out⟩ := out_bind out
  obtain ⟨l5, rfl⟩ := val_ok e5
  obtain ⟨k, l6, o7⟩ := out_opt out
  obtain rfl := isInt_ok l6
  cases q : lAt ρ4 i with
  | none => rw [q] at o7; exact o7.elim
  | some xs =>
    rw [q] at o7
    dsimp only at o7
    cases q2 : ixN xs.length k with
    | none => rw [q2] at o7; exact o7.elim
    | some j =>
      rw [q2] at o7
      obtain ⟨p, vs, hp, hσ, hH, hr⟩ := lAt_own S2 q
      have ev : v0 = .ref p := by
        rw [hv0] at hσ
        exact Option.some.inj (Option.some.inj hσ)
      subst ev
      have rx' := (look_rt S2 r2 l5).int
      subst rx'
      refine ⟨p, vs, k, j, rfl, rfl, hH, by rw [hr.len]; exact q2, ?_⟩
      obtain ⟨S3, m3⟩ := S2.chg (ys := xs.set j d) q hp (hr.upd (RD.mono m2.hid r1) j)
      exact o7 _ _ _ S3 ((Sto.of ((m1.trans m2).trans m3)))⟩
theorem walk_zip {G : Gp} {Hv : Hp} {a b : Addr} {vs ws : List V} {ds es : List D} (h : SqL G.K Hv a vs) (h' : SqL G.K Hv b ws) (r : RDs G Hv vs ds) (r' : RDs G Hv ws es) : Walk G Hv (Itz G.K a b) ((ds.zip es).map fun p => .tw [p.1, p.2]) := fun i H Z z sm => by
  have hs : SqL G.K H a vs := hid_full.seq (sm.seq h)
  have hs' : SqL G.K H b ws := hid_full.seq (sm.seq h')
  refine ⟨fun d hd => ?_, fun hl => ⟨vs, ws, hs, hs', ?_⟩⟩
  · rw [List.getElem?_map] at hd
    obtain ⟨⟨x, y⟩, e1, e2⟩ := Option.map_eq_some_iff.mp hd
    subst e2
    obtain ⟨e3, e4⟩ := List.getElem?_zip_eq_some.mp e1
    obtain ⟨v, h1, h2⟩ := r.get e3
    obtain ⟨w, h3, h4⟩ := r'.get e4
    refine ⟨⟨vs, ws, v, w, hs, hs', h1, h3⟩, fun x' H' ⟨T, v', w', e5, e6, e7, y1, y2⟩ => ?_⟩
    subst e5 e7
    obtain rfl : v' = v := Option.some.inj ((y1 vs hs).symm.trans h1)
    obtain rfl : w' = w := Option.some.inj ((y2 ws hs').symm.trans h3)
    have sm2 := Same.of_new (o := .tup [v', w']) e6
    exact ⟨sm2, T, [v', w'], rfl, .inl (.inl upd_same), .cons ((h2.mono sm).mono (Same.hid sm2)) (.cons ((h4.mono sm).mono (Same.hid sm2)) .nil)⟩
  · rw [List.length_map, List.length_zip] at hl
    rw [r.len, r'.len]; omega
theorem walk_zipT {G : Gp} {Hv : Hp} {a b : Addr} {vs ws : List V} {ds es : List D} (h : SqT G.K Hv a vs) (h' : SqT G.K Hv b ws) (r : RDs G Hv vs ds) (r' : RDs G Hv ws es) : Walk G Hv (RZ.ItzT G.K a b) ((ds.zip es).map fun p => .tw [p.1, p.2]) := fun i H Z z sm => by
  have hs : SqT G.K H a vs := Same.tupq hid_full (Same.tupq sm h)
  have hs' : SqT G.K H b ws := Same.tupq hid_full (Same.tupq sm h')
  refine ⟨fun d hd => ?_, fun hl => ⟨vs, ws, hs, hs', ?_⟩⟩
  · rw [List.getElem?_map] at hd
    obtain ⟨⟨x, y⟩, e1, e2⟩ := Option.map_eq_some_iff.mp hd
    subst e2
    obtain ⟨e3, e4⟩ := List.getElem?_zip_eq_some.mp e1
    obtain ⟨v, h1, h2⟩ := r.get e3
    obtain ⟨w, h3, h4⟩ := r'.get e4
    refine ⟨⟨vs, ws, v, w, hs, hs', h1, h3⟩, fun x' H' ⟨T, v', w', e5, e6, e7, y1, y2⟩ => ?_⟩
    subst e5 e7
    obtain rfl : v' = v := Option.some.inj ((y1 vs hs).symm.trans h1)
    obtain rfl : w' = w := Option.some.inj ((y2 ws hs').symm.trans h3)
    have sm2 := Same.of_new (o := .tup [v', w']) e6
    exact ⟨sm2, T, [v', w'], rfl, .inl (.inl upd_same), .cons ((h2.mono sm).mono (Same.hid sm2)) (.cons ((h4.mono sm).mono (Same.hid sm2)) .nil)⟩
  · rw [List.length_map, List.length_zip] at hl
    rw [r.len, r'.len]; omega
def gZip : List D → Option (List IV)
  | [.lst xs, .lst ys] => some ((xs.zip ys).map fun p => .tw [p.1, p.2])
  | [.tup xs, .tup ys] => some ((xs.zip ys).map fun p => .tw [p.1, p.2])
  | _ => none
def iCallI (g : List D → Option (List IV)) (fs : M (List RV)) : M (List IV) := M.bind fs fun rs => M.bind (M.opt (imms rs)) fun ds => M.opt (g ds)
theorem RDs.one {G : Gp} {H : Hp} {vs : List V} {d : D} (h : RDs G H vs [d]) : ∃ v, vs = [v] ∧ RD G H v d := by
  cases h with
  | cons a b => cases b; exact ⟨_, rfl, a⟩
theorem RDs.two {G : Gp} {H : Hp} {vs : List V} {d e : D} (h : RDs G H vs [d, e]) : ∃ v u, vs = [v, u] ∧ RD G H v d ∧ RD G H u e := by
  cases h with
  | cons a b =>
    obtain ⟨u, rfl, c⟩ := b.one
    exact ⟨_, u, rfl, a, c⟩
theorem di_zip {elts : List Expr} {kk : Nat} {tpos p : Pos} (hg : Gl X "zip") (hm : X.mg "zip" = none) (ha : DA X [a, b] fs)
    (hs : starEach [a, b] X.env = (false, eval a X.env) :: starEach [b] X.env := by rfl) (hpl : (backTo pos (starEach [b] X.env)).any (·.1) = false := by rfl) :
    DI X (.Tuple elts kk tpos) (.Call (.Name "zip" p) [a, b] [] pos) (iCallI gZip fs) := ⟨fun F => pi_imp (RZ.pi_zipA hg hm (ha.run F) hs hpl) fun σ H R ⟨A, ρ, ds, ρ', S, e, q⟩ => by
  obtain ⟨rs, ρ1, e1, e⟩ := bind_ok e
  obtain ⟨xs, ρ2, e2, e⟩ := bind_ok e
  obtain ⟨l2, rfl⟩ := opt_ok e2
  obtain ⟨l3, rfl⟩ := opt_ok e
  refine ⟨A, ρ, rs, _, S, e1, fun vs H1 S1 m1 r1 => ?_⟩
  have rd := imms_rd r1 l2
  unfold gZip at l3
  split at l3
  · cases l3
    obtain ⟨v, u, rfl, c1, c2⟩ := rd.two
    cases c1 with
    | lst g1 g2 =>
      cases c2 with
      | lst g3 g4 => exact ⟨_, _, _, _, rfl, .inl ⟨hid_full.seq g1, hid_full.seq g3, q _ _ S1 m1 (walk_zip g1 g3 g2 g4)⟩⟩
  · cases l3
    obtain ⟨v, u, rfl, c1, c2⟩ := rd.two
    cases c1 with
    | tup g1 g2 =>
      cases c2 with
      | tup g3 g4 => exact ⟨_, _, _, _, rfl, .inr ⟨Same.tupq hid_full g1.sq, Same.tupq hid_full g3.sq, q _ _ S1 m1 (walk_zipT g1.sq g3.sq g2 g4)⟩⟩
  · cases l3⟩
theorem walk_enum {G : Gp} {Hv : Hp} {a : Addr} {vs : List V} {ds : List D} (h : SqL G.K Hv a vs) (r : RDs G Hv vs ds) : Walk G Hv (Ite G.K a) (ds.zipIdx.map fun p => .tw [.int (p.2 : Nat), p.1]) := fun i H Z z sm => by
  have hs : SqL G.K H a vs := hid_full.seq (sm.seq h)
  refine ⟨fun d hd => ?_, fun hl => ⟨vs, hs, by rw [List.length_map, List.length_zipIdx] at hl; rw [r.len]; exact hl⟩⟩
  rw [List.getElem?_map] at hd
  obtain ⟨⟨x, y⟩, e1, e2⟩ := Option.map_eq_some_iff.mp hd
  subst e2
  rw [List.getElem?_zipIdx] at e1
  obtain ⟨x', e3, e4⟩ := Option.map_eq_some_iff.mp e1
  rw [Nat.zero_add] at e4
  cases e4
  obtain ⟨v, h1, h2⟩ := r.get e3
  refine ⟨⟨vs, v, hs, h1⟩, fun x' H' ⟨T, v', e5, e6, e7, y1⟩ => ?_⟩
  subst e5 e7
  obtain rfl : v' = v := Option.some.inj ((y1 vs hs).symm.trans h1)
  have sm2 := Same.of_new (o := .tup [.int (i : Nat), v']) e6
  exact ⟨sm2, T, _, rfl, .inl (.inl upd_same), .cons (.int _) (.cons ((h2.mono sm).mono (Same.hid sm2)) .nil)⟩
def gEnum : List D → Option (List IV)
  | [.lst xs] => some (xs.zipIdx.map fun p => .tw [.int (p.2 : Nat), p.1])
  | _ => none
theorem di_enum {elts : List Expr} {kk : Nat} {tpos p : Pos} (hg : Gl X "enumerate") (hm : X.mg "enumerate" = none) (ha : DA X [a] fs) (hs : starEach [a] X.env = [(false, eval a X.env)] := by rfl) :
    DI X (.Tuple elts kk tpos) (.Call (.Name "enumerate" p) [a] [] pos) (iCallI gEnum fs) := ⟨fun F => pi_imp (pi_enum hg hm (ha.run F) hs) fun σ H R ⟨A, ρ, ds, ρ', S, e, q⟩ => by
  obtain ⟨rs, ρ1, e1, e⟩ := bind_ok e
  obtain ⟨xs, ρ2, e2, e⟩ := bind_ok e
  obtain ⟨l2, rfl⟩ := opt_ok e2
  obtain ⟨l3, rfl⟩ := opt_ok e
  refine ⟨A, ρ, rs, _, S, e1, fun vs H1 S1 m1 r1 => ?_⟩
  have rd := imms_rd r1 l2
  unfold gEnum at l3
  split at l3
  · cases l3
    obtain ⟨v, rfl, c1⟩ := rd.one
    cases c1 with
    | lst g1 g2 => exact ⟨_, _, rfl, hid_full.seq g1, q _ _ S1 m1 (walk_enum g1 g2)⟩
  · cases l3⟩
def eDict0 : ES := M.ret (.im (.dct [] []))
theorem de_dict0 : DE X (.Dict [] [] pos) eDict0 := ⟨fun F => pe_imp pe_dnewK fun σ H Q ⟨A, ρ, rr, ρ', S, e, q⟩ => by
  obtain ⟨rfl, rfl⟩ := ret_ok e
  intro p hp
  have sm := Same.of_new (o := .dK []) hp
  exact q _ _ (S.same sm) (Stp.of sm) (.dct (kvs := []) (hid_new S.zall hp) .nil)⟩
theorem vals_ok1 {r : RV} {ρ : Rho} {d : D} (h : look ρ r = some d) : looks ρ [r] = some [d] := by
  simp [looks, h]
end
end Dv
namespace Dv
open PySem PySem.Spec PyProof.Rows L2
section
variable {prog : Program} {w : World} {A : Around} {E : Value → Shared → Prop} {s : Shared}
theorem places_rev (n : Nat) : Builtin.Slice.slicePlaces ((n : Int) - 1) (-1) (-1) = n := by
  unfold Builtin.Slice.slicePlaces
  have h1 : ¬ ((-1 : Int) > 0) := by omega
  simp only [h1, if_false, Int.neg_neg, Int.ediv_one]
  split <;> omega
theorem fm_map {α β : Type} {f : α → Option β} {g : α → β} : ∀ (l : List α), (∀ m ∈ l, f m = some (g m)) → l.filterMap f = l.map g
  | [], _ => rfl
  | a :: l, h => by rw [List.filterMap_cons, h a List.mem_cons_self, List.map_cons, fm_map l fun m hm => h m (List.mem_cons_of_mem _ hm)]
theorem pick_rev (xs : Array Value) : ((List.range xs.size).filterMap fun (m : Nat) => xs[(((xs.size : Int) - 1) + (m : Int) * (-1)).toNat]?).toArray = xs.toList.reverse.toArray := by
  congr 1
  apply List.ext_getElem?
  intro i
  have key : (List.range xs.size).filterMap (fun (m : Nat) => xs[(((xs.size : Int) - 1) + (m : Int) * (-1)).toNat]?) = (List.range xs.size).map (fun m => xs.toList[xs.size - 1 - m]?.getD default) := by
    apply fm_map
    intro m hm
    rw [List.mem_range] at hm
    have e : (((xs.size : Int) - 1) + (m : Int) * (-1)).toNat = xs.size - 1 - m := by omega
    rw [e, ← Array.getElem?_toList, List.getElem?_eq_getElem (by rw [Array.length_toList]; omega)]
    rfl
  rw [key, List.getElem?_map]
  by_cases hi : i < xs.size
  · rw [List.getElem?_range hi, List.getElem?_reverse (by rw [Array.length_toList]; exact hi), Array.length_toList, Option.map_some, List.getElem?_eq_getElem (by rw [Array.length_toList]; omega)]
    rfl
  · rw [List.getElem?_eq_none (by rw [List.length_range]; omega), List.getElem?_eq_none (by rw [List.length_reverse, Array.length_toList]; omega)]
    rfl
theorem getItem_tuple_rev {t sl : Addr} {items : Array Value} {vs : Value} {Q : Value → Shared → Prop} (ht : IsTup s.heap t items) (hs : s.heap.IsSliceOf sl .none .none vs) (pv : IsPart vs (some (-1)))
    (h : Q (.ref s.heap.objs.size) { s with heap := s.heap.push { cls := .type "tuple", data := .seq items.toList.reverse.toArray } })
    (hsz : items.size ≤ sizeLine) : wpAny (model prog w) A (getItem (.ref t) (.ref sl)) Q E s := by
  have htake : sizeOk (.seq items.toList.reverse.toArray) := by
    show items.toList.reverse.toArray.size ≤ sizeLine
    rw [List.size_toArray, List.length_reverse, Array.length_toList]
    exact hsz
  obtain ⟨os, hos, hcs, hds⟩ := id hs
  have hTs : s.TypeIs (.ref sl) "slice" := ⟨os, hos, hcs⟩
  unfold getItem
  try with_reducible refine wpAny_holding ?_
  first | refine wpAny_bind (wpAny_pure ?_) | skip
  refine wpAny_bind (wpAny_sequenceKey ht.typeIs (by decide) ?_)
  refine wpAny_bind (wpAny_callSpecial?_slot (name := Str.ofString "__getitem__") ht.typeIs PyProof.Rows.slot_tuple_getitem
    (wpAny_call_entry PyProof.Rows.slot_tuple_getitem ht.typeIs entry_tuple_getitem ?_ (args_tuple_getitem _ _)))
  show wpAny _ _ (Builtin.Tuple.tupleItemsOf (.ref t) >>= _) _ _ s
  refine wpAny_bind (tupleItemsOf_ ht ?_)
  refine wpAny_bind (wpAny_typeOf hTs ?_)
  rw [if_pos (by decide)]
  have ap : ∀ {Q : Int × Int × Nat → Shared → Prop}, Q ((items.size : Int) - 1, -1, items.size) s → wpAny (model prog w) A.in1 (Builtin.Slice.sliceApplied (.ref sl) (pure (items.size : Int))) Q E s := fun {Q} q => by
    unfold Builtin.Slice.sliceApplied Builtin.Slice.sliceFields
    refine wpAny_bind (wpAny_bind (wpAny_field hos hds (x := .none) rfl (wpAny_bind (wpAny_field hos hds (x := .none) rfl (wpAny_bind (wpAny_field hos hds (x := vs) rfl (wpAny_pure ?_)))))))
    refine wpAny_bind (HT.slicePart_ pv ?_)
    show wpAny _ _ (if ((-1 : Int) == 0) = true then _ else _) _ _ s
    rw [if_neg (by decide)]
    refine wpAny_bind (HT.slicePart_ .none (wpAny_bind (HT.slicePart_ .none (wpAny_bind (wpAny_pure ?_)))))
    show wpAny _ _ (match Builtin.Slice.sliceAdjust none none (-1) (items.size : Int) with | (lo, hi) => pure (lo, (-1 : Int), Builtin.Slice.slicePlaces lo hi (-1))) _ _ s
    have e : Builtin.Slice.sliceAdjust none none (-1) (items.size : Int) = ((items.size : Int) - 1, -1) := rfl
    rw [e]
    show wpAny _ _ (pure ((items.size : Int) - 1, (-1 : Int), Builtin.Slice.slicePlaces ((items.size : Int) - 1) (-1) (-1))) _ _ s
    rw [places_rev]
    exact wpAny_pure q
  refine wpAny_bind (ap ?_)
  have hno : ¬ ((((items.size : Int) - 1) == 0 && (-1 : Int) == 1 && items.size == items.size) = true) := by
    intro q
    rw [Bool.and_eq_true, Bool.and_eq_true] at q
    exact absurd q.1.2 (by decide)
  show wpAny _ _ (if (((items.size : Int) - 1) == 0 && (-1 : Int) == 1 && items.size == items.size) = true then _ else _) _ _ s
  rw [if_neg hno, pick_rev]
  first
    | exact wpAny_bind (m := Builtin.Tuple.tupleExact _) (wpAny_newObj_type (wpAny_pure ⟨_, rfl, wpAny_pure h⟩) htake)
    | exact wpAny_bind (m := Builtin.Tuple.tupleExact _) (wpAny_newObj_type (wpAny_bind (wpAny_pure (wpAny_pure ⟨_, rfl, wpAny_pure h⟩))) htake)
    | exact wpAny_bind (wpAny_bind (m := Builtin.Tuple.tupleExact _) (wpAny_newObj_type (wpAny_pure (wpAny_pure ⟨_, rfl, wpAny_pure h⟩)) htake))
    | exact wpAny_bind (wpAny_bind (m := Builtin.Tuple.tupleExact _) (wpAny_newObj_type (wpAny_pure ⟨_, rfl, wpAny_pure h⟩) htake))
end
section
variable {X : Cx} {e a b : Expr} {fa fb : ES} {pos : Pos}
def tRevF (K : PySem.W.Frag) (te : TE) : TE := fun σ H Q => te σ H fun x H1 => ∃ a xs, x = .ref a ∧ SqT K H1 a xs ∧ ∀ p its, H1 p = none → Q (.ref p) (upd H1 p (tHO its xs.reverse))
theorem pe_revT {te : TE} {k : Nat} {p1 p2 p3 : Pos} (he : PE X e te) : PE X (.Subscript e (.Slice none none (some (.UnaryOp .USub (.Constant (.int 1) k p1) p2)) p3) pos) (tRevF X.K te) := by
  refine ⟨fun pins s σ H Q I h => ?_⟩
  refine Subscript_ (thn (he.run pins s σ H _ I h) fun v s1 ⟨x, H1, I1, r1, q1⟩ => ?_)
  obtain ⟨a, xs, ex, hx, q⟩ := q1
  subst ex
  cases r1
  have hst : PO X (some (.UnaryOp .USub (.Constant (.int 1) k p1) p2)) (tPart (tUn (rU fun i => .int (-i)) (tC (.int 1)))) := po_some (pe_un un_neg pe_int)
  refine wpAny_Slice (thn (po_none.run pins s1 σ H1 (fun o H2 => o = none ∧ H2 = H1) I1 ⟨rfl, rfl⟩) fun vl s2 ⟨l, H2, I2, pl, el, e2⟩ => ?_)
  subst el e2
  refine thn (po_none.run pins s2 σ H2 (fun o H3 => o = none ∧ H3 = H2) I2 ⟨rfl, rfl⟩) fun vu s3 ⟨u, H3, I3, pu, eu, e3⟩ => ?_
  subst eu e3
  refine thn (hst.run pins s3 σ H3 (fun o H4 => o = some (-1) ∧ H4 = H3) I3 ⟨1, rfl, -1, rfl, rfl, rfl⟩) fun vs s4 ⟨o, H4, I4, ps, eo, e4⟩ => ?_
  subst eo e4
  cases pl
  cases pu
  have I5 : Inv X pins σ H4 { s4 with heap := s4.heap.push { cls := .type "slice", data := .fields #[.none, .none, vs] } } := I4.kept (t' := s4.toks) fun b ob q => Heap.get?_push_of_some _ q
  obtain ⟨its, r, ht, hz⟩ := I5.tuple hx
  have hlen := r.length
  show wpAny (model X.prog X.w) X.A (subscriptTail e (.Slice none none (some (.UnaryOp .USub (.Constant (.int 1) k p1) p2)) p3) (.ref a) (.ref s4.heap.objs.size)) (EP X pins σ Q) X.xe { s4 with heap := s4.heap.push { cls := .type "slice", data := .fields #[.none, .none, vs] } }
  refine tail_any (ops := [.ref a, .ref s4.heap.objs.size]) ht.typeIs (PyProof.Rows.slot_tuple_getitem.lookup) ?_ (by with_unfolding_all rfl)
  refine getItem_tuple_rev ht (Heap.IsSliceOf.new _ .none .none vs) ps ?_ (by rw [List.size_toArray]; omega)
  have rr : Vals xs.reverse its.toArray.toList.reverse := r.reverse
  exact ⟨.ref _, _, lay_tup I5 rr (by rw [List.length_reverse]; exact hz) s4.toks, rfl, q _ _ (I5.hok.fresh (Nat.le_refl _))⟩
theorem pe_orE {t u : TE} (h : PE X e t) (k : PE X e u) : PE X e (fun σ H Q => t σ H Q ∨ u σ H Q) := ⟨fun pins s σ H Q I q => by
  rcases q with q | q
  · exact h.run pins s σ H Q I q
  · exact k.run pins s σ H Q I q⟩
def gRev : D → Option D
  | .lst xs => some (.lst xs.reverse)
  | .tup xs => some (.tup xs.reverse)
  | _ => none
theorem de_rev {k : Nat} {p1 p2 p3 : Pos} (ha : DE X e fa) : DE X (.Subscript e (.Slice none none (some (.UnaryOp .USub (.Constant (.int 1) k p1) p2)) p3) pos) (eUn gRev fa) := ⟨fun F => pe_imp (pe_orE (pe_revL (ha.run F)) (pe_revT (ha.run F))) fun σ H Q ⟨A, ρ, rr, ρ', S, e, q⟩ => by
  obtain ⟨r, ρ1, e1, e⟩ := bind_ok e
  obtain ⟨d, ρ4, e4, e⟩ := bind_ok e
  obtain ⟨l4, rfl⟩ := val_ok e4
  obtain ⟨x, ρ5, e5, e⟩ := bind_ok e
  obtain ⟨l5, rfl⟩ := opt_ok e5
  obtain ⟨rfl, rfl⟩ := ret_ok e
  unfold gRev at l5
  split at l5
  · cases l5
    refine .inl ⟨A, ρ, r, _, S, e1, fun v H3 S3 m r1 => ?_⟩
    obtain ⟨a, vs, rfl, h1, h2⟩ := (look_rt S3 r1 l4).lst
    refine ⟨a, vs, rfl, h1, fun p hp => ?_⟩
    have sm := Same.of_new (o := .lst vs.reverse) hp
    exact q _ _ (S3.same sm) (m.trans (Stp.of sm)) (.lst (SqL.of (hid_new S3.zall hp)) ((h2.rev).mono (Same.hid sm)))
  · cases l5
    refine .inr ⟨A, ρ, r, _, S, e1, fun v H3 S3 m r1 => ?_⟩
    obtain ⟨a, vs, rfl, h1, h2⟩ := (look_rt S3 r1 l4).tup
    refine ⟨a, vs, rfl, h1.sq, fun p its hp => ?_⟩
    have sm := Same.of_new (o := tHO its vs.reverse) hp
    exact q _ _ (S3.same sm) (m.trans (Stp.of sm)) (.tup (.inl ⟨_, hid_new S3.zall hp, rfl⟩) ((h2.rev).mono (Same.hid sm)))
  · cases l5⟩
def rgD (a b : Int) : List D := (List.range (b - a).toNat).map fun (i : Nat) => .int (a + (i : Int))
theorem rg_rd {G : Gp} {H : Hp} (a b : Int) : RDs G H (rgV a b) (rgD a b) := by
  unfold rgV rgD
  induction List.range (b - a).toNat with
  | nil => exact .nil
  | cons i l ih => exact .cons (.int _) ih
def rgOk (a b : Int) : Bool := rangeOk a && rangeOk b && decide ((b - a).toNat ≤ 1000000)
theorem rgOk_of {a b : Int} (h : rgOk a b = true) : RgOk a b := by
  unfold rgOk at h
  rw [Bool.and_eq_true, Bool.and_eq_true] at h
  obtain ⟨h1, h2⟩ := rangeOk_of h.1.1
  obtain ⟨h3, h4⟩ := rangeOk_of h.1.2
  have h5 := of_decide_eq_true h.2
  exact ⟨h1, h2, h3, h4, by omega⟩
def tRgD (G : Gp) (F : Fm) (f : M (Int × Int)) : St → Hp → (Int → Int → Hp → Prop) → Prop := fun σ H Q => ∃ A ρ p ρ', Sts G F A σ ρ H ∧ f ρ = .ok p ρ' ∧ ∀ H', Sts G F A σ ρ' H' → Stp A H H' → Q p.1 p.2 H'
structure DR (X : Cx) (e : Expr) (f : M (Int × Int)) : Prop where
  run : ∀ F, PRg X e (tRgD (Gx X) F f)
def rOne (fa : ES) : M (Int × Int) := M.bind fa fun r => M.bind (val r) fun d => M.bind (M.opt (isInt d)) fun i => M.ret (0, i)
def rTwo (fa fb : ES) : M (Int × Int) := M.bind fa fun ra => M.bind fb fun rb => M.bind (val ra) fun x => M.bind (val rb) fun y => M.bind (M.opt (isInt x)) fun i => M.bind (M.opt (isInt y)) fun j => M.ret (i, j)
theorem prg_imp {t t' : St → Hp → (Int → Int → Hp → Prop) → Prop} (h : PRg X e t) (i : ∀ σ H Q, t' σ H Q → t σ H Q) : PRg X e t' := fun pins s σ H Q I q => h pins s σ H Q I (i σ H Q q)
theorem dr_1 {p : Pos} (hg : Gl X "range") (hm : X.mg "range" = none) (ha : DE X a fa) (na : starEach [a] X.env = (false, eval a X.env) :: starEach [] X.env := by rfl) : DR X (.Call (.Name "range" p) [a] [] pos) (rOne fa) := ⟨fun F => prg_imp (prg_1 hg hm (ha.run F) na) fun σ H Q ⟨A, ρ, pr, ρ', S, e, q⟩ => by
  obtain ⟨r, ρ1, e1, e⟩ := bind_ok e
  obtain ⟨d, ρ2, e2, e⟩ := bind_ok e
  obtain ⟨l2, rfl⟩ := val_ok e2
  obtain ⟨i, ρ3, e3, e⟩ := bind_ok e
  obtain ⟨l3, rfl⟩ := opt_ok e3
  obtain ⟨rfl, rfl⟩ := ret_ok e
  have ei := isInt_ok l3
  subst ei
  exact ⟨A, ρ, r, _, S, e1, fun v H1 S1 m1 r1 => ⟨i, (look_rt S1 r1 l2).int, q H1 S1 m1⟩⟩⟩
theorem dr_2 {p : Pos} (hg : Gl X "range") (hm : X.mg "range" = none) (ha : DE X a fa) (hb : DE X b fb) (na : starEach [a, b] X.env = (false, eval a X.env) :: starEach [b] X.env := by rfl)
    (nb : starEach [b] X.env = (false, eval b X.env) :: starEach [] X.env := by rfl) (hp : (backTo pos (starEach [b] X.env)).any (·.1) = false := by rfl) : DR X (.Call (.Name "range" p) [a, b] [] pos) (rTwo fa fb) := ⟨fun F => prg_imp (prg_2 hg hm (ha.run F) (hb.run F) na nb hp) fun σ H Q ⟨A, ρ, pr, ρ', S, e, q⟩ => by
  obtain ⟨ra, ρ1, e1, e⟩ := bind_ok e
  obtain ⟨rb, ρ2, e2, e⟩ := bind_ok e
  obtain ⟨x, ρ3, e3, e⟩ := bind_ok e
  obtain ⟨l3, rfl⟩ := val_ok e3
  obtain ⟨y, ρ4, e4, e⟩ := bind_ok e
  obtain ⟨l4, rfl⟩ := val_ok e4
  obtain ⟨i, ρ5, e5, e⟩ := bind_ok e
  obtain ⟨l5, rfl⟩ := opt_ok e5
  obtain ⟨j, ρ6, e6, e⟩ := bind_ok e
  obtain ⟨l6, rfl⟩ := opt_ok e6
  obtain ⟨rfl, rfl⟩ := ret_ok e
  have ei := isInt_ok l5
  subst ei
  have ej := isInt_ok l6
  subst ej
  exact ⟨A, ρ, ra, ρ1, S, e1, fun v H1 S1 m1 r1 => ⟨A, ρ1, rb, _, S1, e2, fun u H2 S2 m2 r2 => ⟨i, j, (look_rt S2 (r1.same m2.hid) l3).int, (look_rt S2 r2 l4).int, q H2 S2 (m1.trans m2)⟩⟩⟩⟩
def rgC (p : Int × Int) : Option (List D) := match rgOk p.1 p.2 with
  | true => some (rgD p.1 p.2)
  | false => none
theorem rgC_ok {p : Int × Int} {xs : List D} (h : rgC p = some xs) : RgOk p.1 p.2 ∧ xs = rgD p.1 p.2 := by
  unfold rgC at h
  split at h
  · rename_i q; cases h; exact ⟨rgOk_of q, rfl⟩
  · cases h
def eTupRg (f : M (Int × Int)) : ES := M.bind f fun p => M.bind (M.opt (rgC p)) fun xs => M.ret (.im (.tup xs))
def nLstRg (f : M (Int × Int)) : M (List D) := M.bind f fun p => M.opt (rgC p)
theorem dn_listRg {f : M (Int × Int)} {p : Pos} (hc : X.calm = true) (hg : Gl X "list") (hm : X.mg "list" = none) (he : DR X e f) (na : starEach [e] X.env = (false, eval e X.env) :: starEach [] X.env := by rfl) : DN X (.Call (.Name "list" p) [e] [] pos) (nLstRg f) := ⟨fun F => pe_imp (pe_listRg hc hg hm (he.run F) na) fun σ H Q ⟨A, ρ, xs, ρ', S, e, q⟩ => by
  obtain ⟨pr, ρ1, e1, e⟩ := bind_ok e
  obtain ⟨l2, rfl⟩ := opt_ok e
  obtain ⟨ok, rfl⟩ := rgC_ok l2
  refine ⟨A, ρ, pr, _, S, e1, fun H1 S1 m1 => ⟨ok, fun p hp => ?_⟩⟩
  have sm := Same.of_new (o := .lst (rgV pr.1 pr.2)) hp
  refine q p _ _ (S1.hide hp sm (by rw [upd_same]; exact fun z => nomatch z)) (S1.h0 hp) (S1.zall.out hp) (m1.trans (Stp.of sm)) (back_none S m1 S1 hp) upd_same (rg_rd _ _)⟩
def tTupRgF (te : St → Hp → (Int → Int → Hp → Prop) → Prop) : TE := fun σ H Q => te σ H fun a b H1 => RgOk a b ∧ ∀ q its, H1 q = none → Q (.ref q) (upd H1 q (tHO its (rgV a b)))
theorem pe_tupRgF {te : St → Hp → (Int → Int → Hp → Prop) → Prop} {p : Pos} (hc : X.calm = true) (hg : Gl X "tuple") (hm : X.mg "tuple" = none) (he : PRg X e te) (na : starEach [e] X.env = (false, eval e X.env) :: starEach [] X.env := by rfl) : PE X (.Call (.Name "tuple" p) [e] [] pos) (tTupRgF te) := by
  refine ⟨fun pins s σ H Q I h => ?_⟩
  refine Call_ (ld_blt I hg hm boot_tuple (PyProof.Rows.callWith_type1 (args_cons (thn (he pins s σ H _ I h) fun x s1 ⟨r, a, b, t, u, v, H1, ex, hr, I1, ok, q⟩ => args_nil ?_) na) na))
  subst ex
  obtain ⟨b1, b2, b3, b4, b5⟩ := ok
  refine call_tuple_range (n := (b - a).toNat) (I1.ok.hd hc) hr (small_one b1 b2 b3 b4) (rangeSize_nat a b) b5 fun h' tk acc hk hi => ?_
  have I2 : Inv X pins σ H1 { s1 with heap := h', toks := tk } := I1.kept hk
  have rv := vals_rg hi
  exact ⟨V.ref h'.objs.size, _, lay_tup I2 rv (by rw [rgV_length, sizeLine_eq]; omega) tk, rfl, q _ _ (I2.hok.fresh (Nat.le_refl _))⟩
theorem de_tupRg {f : M (Int × Int)} {p : Pos} (hc : X.calm = true) (hg : Gl X "tuple") (hm : X.mg "tuple" = none) (he : DR X e f) (na : starEach [e] X.env = (false, eval e X.env) :: starEach [] X.env := by rfl) : DE X (.Call (.Name "tuple" p) [e] [] pos) (eTupRg f) := ⟨fun F => pe_imp (pe_tupRgF hc hg hm (he.run F) na) fun σ H Q ⟨A, ρ, rr, ρ', S, e, q⟩ => by
  obtain ⟨pr, ρ1, e1, e⟩ := bind_ok e
  obtain ⟨xs, ρ2, e2, e⟩ := bind_ok e
  obtain ⟨l2, rfl⟩ := opt_ok e2
  obtain ⟨rfl, rfl⟩ := ret_ok e
  obtain ⟨ok, rfl⟩ := rgC_ok l2
  refine ⟨A, ρ, pr, _, S, e1, fun H1 S1 m1 => ⟨ok, fun p its hp => ?_⟩⟩
  have sm := Same.of_new (o := tHO its (rgV pr.1 pr.2)) hp
  exact q _ _ (S1.same sm) (m1.trans (Stp.of sm)) (.tup (.inl ⟨_, hid_new S1.zall hp, rfl⟩) (rg_rd _ _))⟩
def insU (i : Int) : List Int → List Int
  | [] => [i]
  | j :: r => if i < j then i :: j :: r else if i = j then j :: r else j :: insU i r
def sortU : List Int → List Int
  | [] => []
  | i :: r => insU i (sortU r)
theorem mem_insU {i k : Int} : ∀ {l : List Int}, k ∈ insU i l ↔ k = i ∨ k ∈ l
  | [] => by simp [insU]
  | j :: r => by
    unfold insU
    by_cases h1 : i < j
    · rw [if_pos h1]; simp
    · rw [if_neg h1]
      by_cases h2 : i = j
      · rw [if_pos h2]; subst h2; simp
      · rw [if_neg h2, List.mem_cons, mem_insU, List.mem_cons]
        constructor
        · rintro (h | h | h)
          · exact .inr (.inl h)
          · exact .inl h
          · exact .inr (.inr h)
        · rintro (h | h | h)
          · exact .inr (.inl h)
          · exact .inl h
          · exact .inr (.inr h)
theorem insU_sorted {i : Int} : ∀ {l : List Int}, l.Pairwise (· < ·) → (insU i l).Pairwise (· < ·)
  | [], _ => by simp [insU]
  | j :: r, h => by
    unfold insU
    obtain ⟨h1, h2⟩ := List.pairwise_cons.mp h
    by_cases z : i < j
    · rw [if_pos z]
      refine List.pairwise_cons.mpr ⟨fun k hk => ?_, h⟩
      rcases List.mem_cons.mp hk with rfl | hk
      · exact z
      · have := h1 k hk; omega
    · rw [if_neg z]
      by_cases z2 : i = j
      · rw [if_pos z2]; exact h
      · rw [if_neg z2]
        refine List.pairwise_cons.mpr ⟨fun k hk => ?_, insU_sorted h2⟩
        rcases mem_insU.mp hk with rfl | hk
        · omega
        · exact h1 k hk
theorem mem_sortU {k : Int} : ∀ {l : List Int}, k ∈ sortU l ↔ k ∈ l
  | [] => by simp [sortU]
  | i :: r => by rw [sortU, mem_insU, mem_sortU, List.mem_cons]
theorem sortU_sorted : ∀ (l : List Int), (sortU l).Pairwise (· < ·)
  | [] => .nil
  | i :: r => insU_sorted (sortU_sorted r)
theorem lt_nodup {l : List Int} (h : l.Pairwise (· < ·)) : l.Nodup := h.imp fun h => Int.ne_of_lt h
theorem card_eq {l m : List Int} (h1 : l.Nodup) (h2 : m.Nodup) (h : ∀ k, k ∈ l ↔ k ∈ m) : l.length = m.length := ((List.perm_ext_iff_of_nodup h1 h2).mpr h).length_eq
theorem lt_uniq {l m : List Int} (h1 : l.Pairwise (· < ·)) (h2 : m.Pairwise (· < ·)) (h : ∀ k, k ∈ l ↔ k ∈ m) : l = m :=
  sorted_uniq ((List.perm_ext_iff_of_nodup (lt_nodup h1) (lt_nodup h2)).mpr h) (h1.imp fun h => Int.le_of_lt h) (h2.imp fun h => Int.le_of_lt h)
def rSetT (w : World) (K : PySem.W.Frag) : List V → Hp → VK → Prop := fun xs H Q => ∃ p ns, xs = [.ref p] ∧ SqT K H p (ns.map V.int) ∧ ns.length ≤ 1000 ∧ ∀ q, H q = none → Q (.ref q) (upd H q (SetO w q (fun j => decide (j ∈ ns)) (sortU ns).length))
theorem call_setT (hc : X.calm = true) : CallR X (.type "set") (rSetT X.w X.K) := by
  intro pins s σ H xs us Q I r h
  obtain ⟨p, ns, rfl, hq, hl, q⟩ := h
  rw [Vals.ref1 r]
  obtain ⟨its, rv, pt, hz⟩ := I.tuple hq
  refine call_set_tupI ns (I.ok.hd hc) (show s.heap.IsTuple p its.toArray from pt) (ints_of_vals rv) (by unfold scanBound; omega) fun h' tk c R1 hcn k => ?_
  have ec : c = (sortU ns).length := by
    obtain ⟨o, es, ep, t, ho, hex, hdt, g, nd, hm2, hb, hf, hn, hr, hl2⟩ := R1
    have e1 : (es.toList.map keyOf).length = (sortU ns).length := card_eq nd (lt_nodup (sortU_sorted ns)) fun k => by
      rw [← hm2 k, mem_sortU]; simp
    rw [List.length_map, Array.length_toList] at e1
    rw [← hn]; exact e1
  subst ec
  have I2 : Inv X pins σ (upd H s.heap.objs.size (SetO X.w s.heap.objs.size (fun j => decide (j ∈ ns)) (sortU ns).length)) { s with heap := h', toks := tk } :=
    I.laid k (Nat.le_refl _) (setO_new R1)
  exact ⟨.ref s.heap.objs.size, _, I2, rfl, q _ (I.hok.fresh (Nat.le_refl _))⟩
def gSetI : List D → Option D
  | [.tup xs] => match asInts xs with
    | some ns => if ns.length ≤ 1000 then some (.set ((sortU ns).map .int)) else none
    | none => none
  | _ => none
theorem cd_set (hc : X.calm = true) : CallD X (.type "set") gSetI := ⟨_, call_setT hc, fun Z H xs ds d Q z r e q => by
  unfold gSetI at e
  split at e
  · split at e
    · rename_i xs0 ns e1
      by_cases hl : ns.length ≤ 1000
      · rw [if_pos hl] at e
        cases e
        obtain ⟨v, rfl, r1⟩ := r.one
        obtain ⟨a, vs, rfl, h1, h2⟩ := r1.tup
        have ex := asInts_eq e1
        subst ex
        have ev := h2.ints
        subst ev
        refine ⟨a, ns, rfl, h1.sq, hl, fun p hp => ?_⟩
        have sm := Same.of_new (o := SetO X.w p (fun j => decide (j ∈ ns)) (sortU ns).length) hp
        exact q _ _ sm (.set (hid_new z hp) (sortU_sorted ns) (fun k => by rw [mem_sortU]; simp) rfl)
      · rw [if_neg hl] at e; cases e
    · cases e
  · cases e⟩
def gSortedS : List D → Option (List D)
  | [.set xs] => if xs.length < 64 then some xs else none
  | _ => none
theorem RT.set {G : Gp} {Z : List Addr} {H : Hp} {v : V} {xs : List D} (h : RT G Z H v (.set xs)) : ∃ (a : Addr) (S : Int → Bool) (n : Nat) (ns : List Int), v = .ref a ∧ xs = ns.map D.int ∧ hid Z H a = some (SetO G.w a S n) ∧ ns.Pairwise (· < ·) ∧ (∀ k, S k = true ↔ k ∈ ns) ∧ ns.length = n := by
  rcases h with h | ⟨a, vs, es, rfl, e, h, r⟩
  · cases h with
    | set h1 h2 h3 h4 => exact ⟨_, _, _, _, rfl, rfl, h1, h2, h3, h4⟩
  · cases e
theorem cn_sortedS (hc : X.calm = true) : CallN X (.builtin "sorted") gSortedS := ⟨_, cr_sortedSet hc, fun Z H xs ds es Q z r e q => by
  unfold gSortedS at e
  split at e
  · rename_i xs0
    by_cases hl : xs0.length < 64
    · rw [if_pos hl] at e
      cases e
      obtain ⟨v, rfl, r1⟩ := r.one
      obtain ⟨a, S, n, ns, rfl, rfl, h1, h2, h3, h4⟩ := r1.set
      rw [List.length_map] at hl
      refine ⟨a, S, n, rfl, hid_full _ _ h1, by omega, fun ms p k1 k2 k3 hp => ?_⟩
      have em : ms = ns := lt_uniq k1 h2 fun k => (k2 k).trans (h3 k)
      subst em
      exact q p _ hp (RDs.map_int ms)
    · rw [if_neg hl] at e; cases e
  · cases e⟩
end
end Dv
namespace Dv
open PySem PySem.Spec PyProof.Rows L2
theorem ru {A : Around} {k : Nat} (hr : Room k A) : A.units + 64 < cLine := hr.units
theorem ru5 {A : Around} {k : Nat} (hr : Room k A) : A.units + 65 < cLine := by have := hr.un; omega
theorem de_gint {X : Cx} {x : Str} {pos : Pos} {i : Int} (hg : Gl X x) (hm : ∃ t, X.mg x = some (.int i t)) (hd : (x == ("__debug__" : Str)) = false := by decide) : DE X (.Name x pos) (eC (.int i)) := by
  obtain ⟨t, h⟩ := hm
  exact de_c (v := .int i) (pe_glob hg h ⟨t, rfl⟩ hd) fun _ => .int i
def blkB (N : List Str) (sc scope : Scope) (own : List (Str × Nat)) : Bool :=
  decide (scope.kind = .function) && (scope.names.all (fun y => decide (scope.names.lookup y.1 = some y.2)) && (own.all (fun p => decide (N[p.2]? = some p.1)) &&
    (scope.names.all (fun y => !decide (y.2 = .free) || (decide (sc.names.lookup y.1 = some .cell) || decide (sc.names.lookup y.1 = some .free))) &&
      scope.names.all (fun y => !(decide (y.2 = .local) || decide (y.2 = .cell)) || ((own.map (·.1)).contains y.1 || !N.contains y.1)))))
theorem blkO {N : List Str} {sc scope : Scope} {own : List (Str × Nat)} (h : blkB N sc scope own = true) : BlkOk N sc scope own := by
  unfold blkB at h
  rw [Bool.and_eq_true, Bool.and_eq_true, Bool.and_eq_true, Bool.and_eq_true] at h
  obtain ⟨h1, h2, h3, h4, h5⟩ := h
  rw [List.all_eq_true] at h2 h3 h4 h5
  refine ⟨of_decide_eq_true h1, fun y hy => of_decide_eq_true (h2 y hy), fun p hp => of_decide_eq_true (h3 p hp), fun y hy e => ?_, fun y hy e => ?_⟩
  · have z := h4 y hy
    rw [e] at z
    rw [Bool.or_eq_true, Bool.or_eq_true] at z
    rcases z with z | z | z
    · cases z
    · exact .inl (of_decide_eq_true z)
    · exact .inr (of_decide_eq_true z)
  · have z := h5 y hy
    rw [Bool.or_eq_true, Bool.or_eq_true] at z
    rcases z with z | z | z
    · exfalso
      rcases e with e | e
      · rw [e] at z; revert z; decide
      · rw [e] at z; revert z; decide
    · exact .inl (by simpa using z)
    · exact .inr (by simpa using z)
end Dv
namespace Dv
open PySem PySem.Spec PyProof.Rows L2
theorem putB_wipe {ρ : Rho} {vs : List Nat} : putB ρ vs (wipeR ρ vs) = ρ := by
  apply List.ext_getElem?
  intro i
  by_cases z : i ∈ vs
  · by_cases hi : i < ρ.length
    · rw [putB_in z (by rw [wipeR_len]; exact hi), List.getElem?_eq_getElem hi]
      rfl
    · rw [List.getElem?_eq_none (by rw [putB_len, wipeR_len]; omega), List.getElem?_eq_none (by omega)]
  · rw [putB_out z, wipeR_out z]
theorem lc_pure {vs : List Nat} {g : IV → M Unit} {gt : M Bool} {fe : ES} {ρ : Rho} (p : IV → Bool) (h : IV → D) : ∀ (ds : List IV) (acc : List D), ds.length + acc.length ≤ 1000000 →
    (∀ d ∈ ds, ∃ ρ1, g d ρ = .ok () ρ1 ∧ gt ρ1 = .ok (p d) ρ1 ∧ (p d = true → fe ρ1 = .ok (.im (h d)) ρ1) ∧ wipeR ρ1 vs = ρ) → lcLoop vs g gt fe ds acc ρ = .ok (acc ++ (ds.filter p).map h) ρ
  | [], acc, _, _ => by simp [lcLoop, M.ret]
  | d :: ds, acc, hl, hd => by
    obtain ⟨ρ1, h1, h2, h3, h4⟩ := hd d List.mem_cons_self
    rw [List.length_cons] at hl
    have ih := fun acc hl => lc_pure p h ds acc hl fun d hd' => hd d (List.mem_cons_of_mem _ hd')
    unfold lcLoop
    simp only [M.bind, h1, h2]
    cases e : p d with
    | false =>
      simp only [M.bind, wipeM, h4]
      rw [ih acc (by omega), List.filter_cons_of_neg (by rw [e]; exact Bool.false_ne_true)]
    | true =>
      have r : acc.length < 1000000 := by omega
      simp only [M.bind, h3 e, imm, M.opt, room, if_pos r, wipeM, h4]
      rw [ih (acc ++ [h d]) (by simp; omega), List.filter_cons_of_pos e, List.map_cons, List.append_assoc]
      rfl
theorem nLc_pure {vs : List Nat} {fi : M (List IV)} {g : IV → M Unit} {gt : M Bool} {fe : ES} {ρ : Rho} {ds : List IV} (p : IV → Bool) (h : IV → D) (hi : fi ρ = .ok ds ρ) (hw : okw vs ρ = true) (hl : ds.length ≤ 1000000)
    (hd : ∀ d ∈ ds, ∃ ρ1, g d (wipeR ρ vs) = .ok () ρ1 ∧ gt ρ1 = .ok (p d) ρ1 ∧ (p d = true → fe ρ1 = .ok (.im (h d)) ρ1) ∧ wipeR ρ1 vs = wipeR ρ vs) : nLc vs fi g gt fe ρ = .ok ((ds.filter p).map h) ρ := by
  unfold nLc
  simp only [M.bind, hi, hw]
  rw [lc_pure p h ds [] (by simpa using hl) hd]
  simp only [List.nil_append, putB_wipe]
inductive F2 {α β : Type} (R : α → β → Prop) : List α → List β → Prop
  | nil : F2 R [] []
  | cons {a : α} {b : β} {l : List α} {m : List β} : R a b → F2 R l m → F2 R (a :: l) (b :: m)
theorem lc_inv {vs : List Nat} {g : IV → M Unit} {gt : M Bool} {fe : ES} (I : Rho → Prop) (R : IV → D → Prop) : ∀ (ds : List IV) (acc : List D) (ρ : Rho), ds.length + acc.length ≤ 1000000 → I ρ →
    (∀ d ∈ ds, ∀ ρ, I ρ → ∃ ρ1 b ρ2, g d ρ = .ok () ρ1 ∧ gt ρ1 = .ok b ρ2 ∧ (b = true → ∃ x ρ3, fe ρ2 = .ok (.im x) ρ3 ∧ R d x ∧ I (wipeR ρ3 vs)) ∧ (b = false → I (wipeR ρ2 vs))) →
    ∃ (sel : List IV) (xs : List D) (ρ' : Rho), lcLoop vs g gt fe ds acc ρ = .ok (acc ++ xs) ρ' ∧ I ρ' ∧ sel.Sublist ds ∧ F2 R sel xs
  | [], acc, ρ, _, i, _ => ⟨[], [], ρ, by simp [lcLoop, M.ret], i, .slnil, .nil⟩
  | d :: ds, acc, ρ, hl, i, hd => by
    obtain ⟨ρ1, b, ρ2, h1, h2, h3, h4⟩ := hd d List.mem_cons_self ρ i
    rw [List.length_cons] at hl
    have ih := fun acc ρ hl i => lc_inv I R ds acc ρ hl i fun d hd' => hd d (List.mem_cons_of_mem _ hd')
    unfold lcLoop
    simp only [M.bind, h1, h2]
    cases b with
    | false =>
      obtain ⟨sel, xs, ρ', e1, e2, e3, e4⟩ := ih acc (wipeR ρ2 vs) (by omega) (h4 rfl)
      exact ⟨sel, xs, ρ', by simp only [M.bind, wipeM]; exact e1, e2, .cons _ e3, e4⟩
    | true =>
      obtain ⟨x, ρ3, h5, h6, h7⟩ := h3 rfl
      have r : acc.length < 1000000 := by omega
      obtain ⟨sel, xs, ρ', e1, e2, e3, e4⟩ := ih (acc ++ [x]) (wipeR ρ3 vs) (by simp; omega) h7
      exact ⟨d :: sel, x :: xs, ρ', by simp only [M.bind, h5, imm, M.opt, room, if_pos r, wipeM]; rw [e1, List.append_assoc]; rfl, e2, .cons_cons _ e3, .cons h6 e4⟩
theorem nLc_inv {vs : List Nat} {fi : M (List IV)} {g : IV → M Unit} {gt : M Bool} {fe : ES} {ρ : Rho} {ds : List IV} (I : Rho → Prop) (R : IV → D → Prop) (hi : fi ρ = .ok ds ρ) (hw : okw vs ρ = true) (hl : ds.length ≤ 1000000) (i : I (wipeR ρ vs))
    (hd : ∀ d ∈ ds, ∀ ρ, I ρ → ∃ ρ1 b ρ2, g d ρ = .ok () ρ1 ∧ gt ρ1 = .ok b ρ2 ∧ (b = true → ∃ x ρ3, fe ρ2 = .ok (.im x) ρ3 ∧ R d x ∧ I (wipeR ρ3 vs)) ∧ (b = false → I (wipeR ρ2 vs))) :
    ∃ (sel : List IV) (xs : List D) (ρ' : Rho), nLc vs fi g gt fe ρ = .ok xs (putB ρ vs ρ') ∧ I ρ' ∧ sel.Sublist ds ∧ F2 R sel xs := by
  obtain ⟨sel, xs, ρ', e1, e2, e3, e4⟩ := lc_inv I R ds [] (wipeR ρ vs) (by simpa using hl) i hd
  refine ⟨sel, xs, ρ', ?_, e2, e3, e4⟩
  unfold nLc
  simp only [M.bind, hi, hw, e1, List.nil_append]
theorem for_inv {gg : IV → M Unit} {f : SS} (I : Rho → Prop) : ∀ (ds : List IV) (ρ : Rho), I ρ →
    (∀ d ∈ ds, ∀ ρ, I ρ → ∃ ρ1 fl ρ2, gg d ρ = .ok () ρ1 ∧ f ρ1 = .ok fl ρ2 ∧ (fl = .nx ∨ fl = .ct) ∧ I ρ2) → ∃ ρ', forL gg f ds ρ = .ok .nx ρ' ∧ I ρ'
  | [], ρ, i, _ => ⟨ρ, rfl, i⟩
  | d :: ds, ρ, i, h => by
    obtain ⟨ρ1, fl, ρ2, h1, h2, h3, h4⟩ := h d List.mem_cons_self ρ i
    obtain ⟨ρ', e1, e2⟩ := for_inv I ds ρ2 h4 fun d hd => h d (List.mem_cons_of_mem _ hd)
    refine ⟨ρ', ?_, e2⟩
    unfold forL
    simp only [M.bind, h1, h2]
    rcases h3 with rfl | rfl <;> exact e1
abbrev iD (l : List Int) : List D := l.map D.int
theorem iD_cons {a : Int} {r : List Int} : iD (a :: r) = .int a :: iD r := rfl
theorem pls_ints (n : Nat) : ∀ l : List Int, pls n (iD l) = true
  | [] => by rw [pls.eq_def]; rfl
  | a :: r => by
    have ih := pls_ints n r
    rw [iD_cons, pls.eq_def]
    simp only [Bool.and_eq_true]
    exact ⟨by cases n <;> simp [pl], ih⟩
theorem pl_tupI (n : Nat) (l : List Int) : pl (n + 1) (.tup (iD l)) = true := by rw [pl.eq_def]; exact pls_ints n l
theorem pl_lstI (n : Nat) (l : List Int) : pl (n + 1) (.lst (iD l)) = true := by rw [pl.eq_def]; exact pls_ints n l
theorem pl_int (n : Nat) (i : Int) : pl n (.int i) = true := by cases n <;> simp [pl]
theorem pl_bl (n : Nat) (i : Bool) : pl n (.bl i) = true := by cases n <;> simp [pl]
theorem eqbs_ints : ∀ (l m : List Int), eqbs (iD l) (iD m) = decide (l = m)
  | [], [] => by simp [eqbs]
  | [], b :: m => by simp [eqbs]
  | a :: l, [] => by simp [eqbs]
  | a :: l, b :: m => by
    simp only [iD_cons, eqbs, eqb, eqbs_ints l m]
    by_cases h : a = b
    · subst h; by_cases h2 : l = m <;> simp [h2]
    · simp [h]
theorem cost_int {i : Int} (h : i.natAbs < 10 ^ 18) : cost (.int i) = 20 := by rw [cost, if_pos h]
theorem costs_ints : ∀ l : List Int, (∀ i ∈ l, i.natAbs < 10 ^ 18) → costs (iD l) = 22 * l.length
  | [], _ => by simp [costs]
  | a :: l, h => by
    rw [iD_cons, costs, cost_int (h a List.mem_cons_self), costs_ints l fun i hi => h i (List.mem_cons_of_mem _ hi), List.length_cons]
    omega
theorem mem_ints {i : Int} {l : List Int} : ((iD l).any fun z => eqb z (.int i)) = decide (i ∈ l) := by
  induction l with
  | nil => simp
  | cons a r ih =>
    simp only [iD_cons, List.any_cons, ih, eqb, List.mem_cons]
    by_cases h : a = i
    · subst h; simp
    · have h2 : ¬ i = a := fun e => h e.symm
      simp [h, h2]
def BagOk (xs : List D) : Prop := ∃ g b : Int, xs = [.int g, .int b] ∧ 0 ≤ g ∧ g < 1000000000000000000000000000000000000000000000000000000000000000000000000000000000000000000000000000000000000000000000000 ∧ 0 ≤ b ∧ b < 2305843009213693951
def s_bag : SS := (sSeq (sSet 2 (eIf (bCmp gLt (eVar 1) (eCall gLen (aCons (eVar 0) aNil))) (eCall gInt (aCons (eBin gIx (eVar 0) (eVar 1)) aNil)) (eBin gAdd (eBin gMul (eC (.int 89)) (eVar 1)) (eC (.int 41)))))
    (sSeq (sSet 3 (eBin gMod (eCall gMax2 (aCons (eC (.int 0)) (aCons (eBin gSub (eCall gAbs (aCons (eVar 2) aNil)) (eBin gPow (eC (.int 10)) (eC (.int 18)))) aNil))) (eBin gMul (eBin gPow (eC (.int 10)) (eC (.int 60))) (eBin gPow (eC (.int 10)) (eC (.int 60))))))
    (sSeq (sSet 4 (eBin gAdd (eBin gAdd (eBin gAdd (eBin gMul (eBin gMod (eCall gInt (aCons (eCall gAbs (aCons (eVar 2) aNil)) aNil)) (eBin gAdd (eBin gPow (eC (.int 10)) (eC (.int 12))) (eC (.int 39)))) (eC (.int 10007))) (eBin gMul (eC (.int 509)) (eVar 1))) (eBin gMul (eC (.int 17)) (eCall gInt (aCons (eBin gLt (eVar 2) (eC (.int 0))) aNil)))) (eC (.int 1))))
    (sRetL (nLst (aCons (eVar 3) (aCons (eBin gMod (eCall gInt (aCons (eVar 4) aNil)) (eBin gSub (eBin gPow (eC (.int 2)) (eC (.int 61))) (eC (.int 1)))) aNil)))))))
def F_bag : FD := defF 2 5 s_bag
def s_draw : SS := (sSeq (sIf (bCmp gGt (eBin gIx (eVar 0) (eC (.int 0))) (eC (.int 0)))
    (sSeq (sSet 2 (eBin gMod (eCall gInt (aCons (eBin gIx (eVar 0) (eC (.int 0))) aNil)) (eVar 1)))
    (sSeq (sSetIx 0 (eBin gDiv (eBin gIx (eVar 0) (eC (.int 0))) (eVar 1)) (eC (.int 0)))
    (sRet (eVar 2))))
    sNil)
    (sSeq (sSetIx 0 (eBin gMod (eCall gInt (aCons (eBin gAdd (eBin gMul (eBin gIx (eVar 0) (eC (.int 1))) (eC (.int 6364136223))) (eC (.int 1442695041))) aNil)) (eBin gSub (eBin gPow (eC (.int 2)) (eC (.int 61))) (eC (.int 1)))) (eC (.int 1)))
    (sRet (eBin gMod (eCall gInt (aCons (eBin gDiv (eBin gIx (eVar 0) (eC (.int 1))) (eC (.int 65537))) aNil)) (eVar 1)))))
def F_draw : FD := defF 2 3 s_draw
theorem e_pow61 : gPow (.int 2) (.int 61) = some (.int 2305843009213693952) := by kernel_rfl
theorem e_sub61 : gSub (.int 2305843009213693952) (.int 1) = some (.int 2305843009213693951) := by kernel_rfl
theorem e_sub (i j : Int) : gSub (.int i) (.int j) = some (.int (i - j)) := rfl
theorem e_addI (i j : Int) : gAdd (.int i) (.int j) = some (.int (i + j)) := rfl
theorem e_gt (i j : Int) : gGt (.int i) (.int j) = some (.bl (decide (j < i))) := rfl
theorem e_lt (i j : Int) : gLt (.int i) (.int j) = some (.bl (decide (i < j))) := rfl
theorem e_le (i j : Int) : gLe (.int i) (.int j) = some (.bl (decide (i ≤ j))) := rfl
theorem e_ge (i j : Int) : gGe (.int i) (.int j) = some (.bl (decide (j ≤ i))) := rfl
theorem e_mod {i j : Int} (h : 0 < j) : gMod (.int i) (.int j) = some (.int (i % j)) := by simp [gMod, gI, h]
theorem e_div {i j : Int} (h : 0 < j) (h2 : j < 2 ^ 64) : gDiv (.int i) (.int j) = some (.int (i / j)) := by
  have hd : cDiv i j = true := by
    unfold cDiv
    rw [Bool.and_eq_true]
    refine ⟨decide_eq_true h, decide_eq_true ?_⟩
    have : j.natAbs < 2 ^ 64 := by omega
    exact Nat.lt_of_lt_of_le this (Nat.pow_le_pow_right (by decide) (by decide))
  unfold gDiv gI
  simp only [hd, if_true]
theorem e_mul {i j : Int} (h : i.natAbs < 2 ^ 64 ∨ j.natAbs < 2 ^ 64) : gMul (.int i) (.int j) = some (.int (i * j)) := by
  have hd : cMul i j = true := by
    unfold cMul
    rw [Bool.or_eq_true, Bool.or_eq_true]
    rcases h with h | h
    · exact .inl (.inl (decide_eq_true h))
    · exact .inl (.inr (decide_eq_true h))
  unfold gMul gI
  simp only [hd, if_true]
theorem e_mod61 (i : Int) : gMod (.int i) (.int 2305843009213693951) = some (.int (i % 2305843009213693951)) := e_mod (by decide)
theorem e_mulA (i : Int) : gMul (.int i) (.int 6364136223) = some (.int (i * 6364136223)) := e_mul (.inr (by decide))
theorem e_divA (i : Int) : gDiv (.int i) (.int 65537) = some (.int (i / 65537)) := e_div (by decide) (by decide)
theorem e_ix0 (a : D) (r : List D) : gIx (.lst (a :: r)) (.int 0) = some a := by simp [gIx, atI, ixN]
theorem e_ix1 (a b : D) (r : List D) : gIx (.lst (a :: b :: r)) (.int 1) = some b := by
  have h : (1 : Int) < (r.length : Int) + 1 + 1 := by omega
  simp [gIx, atI, ixN, h]
theorem ixN0 (n : Nat) : ixN (n + 1) 0 = some 0 := by simp [ixN]
theorem ixN1 (n : Nat) : ixN (n + 2) 1 = some 1 := by
  have h : (1 : Int) < (n : Int) + 2 := by omega
  simp [ixN, h]
theorem c_61 : eBin gSub (eBin gPow (eC (.int 2)) (eC (.int 61))) (eC (.int 1)) = eC (.int 2305843009213693951) := by
  funext ρ
  simp only [eBin, M.bind, eC, M.ret, val, look, M.opt, e_pow61, e_sub61]
def s_drawG (Mm A C Q : Int) : SS := (sSeq (sIf (bCmp gGt (eBin gIx (eVar 0) (eC (.int 0))) (eC (.int 0)))
    (sSeq (sSet 2 (eBin gMod (eCall gInt (aCons (eBin gIx (eVar 0) (eC (.int 0))) aNil)) (eVar 1)))
    (sSeq (sSetIx 0 (eBin gDiv (eBin gIx (eVar 0) (eC (.int 0))) (eVar 1)) (eC (.int 0)))
    (sRet (eVar 2))))
    sNil)
    (sSeq (sSetIx 0 (eBin gMod (eCall gInt (aCons (eBin gAdd (eBin gMul (eBin gIx (eVar 0) (eC (.int 1))) (eC (.int A))) (eC (.int C))) aNil)) (eC (.int Mm))) (eC (.int 1)))
    (sRet (eBin gMod (eCall gInt (aCons (eBin gDiv (eBin gIx (eVar 0) (eC (.int 1))) (eC (.int Q))) aNil)) (eVar 1)))))
theorem draw_core {Mm A C Q g b many : Int} (hM : 0 < Mm) (hA : A.natAbs < 2 ^ 64) (hQ : 0 < Q) (hQ2 : Q < 2 ^ 64) (hm : 0 < many) (h2 : many < 2 ^ 64) :
    (0 < g → defF 2 3 (s_drawG Mm A C Q) [.bo [.int g, .int b], .im (.int many)] = some (.im (.int (g % many)), [some [.int (g / many), .int b]])) ∧
    (¬ 0 < g → defF 2 3 (s_drawG Mm A C Q) [.bo [.int g, .int b], .im (.int many)] = some (.im (.int ((b * A + C) % Mm / Q % many)), [some [.int g, .int ((b * A + C) % Mm)]])) := by
  have x1 : ∀ i, gMod (.int i) (.int many) = some (.int (i % many)) := fun i => e_mod hm
  have x2 : ∀ i, gMod (.int i) (.int Mm) = some (.int (i % Mm)) := fun i => e_mod hM
  have x3 : ∀ i, gDiv (.int i) (.int Q) = some (.int (i / Q)) := fun i => e_div hQ hQ2
  have x4 : ∀ i, gDiv (.int i) (.int many) = some (.int (i / many)) := fun i => e_div hm h2
  have x5 : ∀ i, gMul (.int i) (.int A) = some (.int (i * A)) := fun i => e_mul (.inr hA)
  have x0 : ∀ n, ixN (n + 2) 0 = some 0 := fun n => ixN0 (n + 1)
  constructor
  · intro hg
    conv => lhs; simp only [s_drawG, defF, runF, entry, sSeq, sIf, bCmp, eBin, M.bind, eVar, eC, M.ret, val, look, M.opt, e_ix0, e_ix1, e_gt, isBl, hg, x0, x1, x2, x3, x4, x5, e_addI, eCall, aCons, aNil, vals, looks, gInt, imm, setIm, sSet, sSetIx, isInt, lAt, lPut, ixN1, sRet, bos, sNil, List.length_cons, List.length_nil, List.map_cons, List.map_nil, List.cons_append, List.nil_append, List.getElem?_cons_zero, List.getElem?_cons_succ, List.replicate, List.set_cons_zero, List.set_cons_succ, decide_true, decide_false, Nat.sub_self, Nat.reduceAdd, Nat.reduceSub]
  · intro hg
    conv => lhs; simp only [s_drawG, defF, runF, entry, sSeq, sIf, bCmp, eBin, M.bind, eVar, eC, M.ret, val, look, M.opt, e_ix0, e_ix1, e_gt, isBl, hg, x0, x1, x2, x3, x4, x5, e_addI, eCall, aCons, aNil, vals, looks, gInt, imm, setIm, sSet, sSetIx, isInt, lAt, lPut, ixN1, sRet, bos, sNil, List.length_cons, List.length_nil, List.map_cons, List.map_nil, List.cons_append, List.nil_append, List.getElem?_cons_zero, List.getElem?_cons_succ, List.replicate, List.set_cons_zero, List.set_cons_succ, decide_true, decide_false, Nat.sub_self, Nat.reduceAdd, Nat.reduceSub]
theorem F_draw_eq : F_draw = defF 2 3 (s_drawG 2305843009213693951 6364136223 1442695041 65537) := by
  unfold F_draw s_draw s_drawG
  rw [c_61]
theorem draw_ok {xs : List D} {many : Int} (hb : BagOk xs) (h1 : 1 ≤ many) (h2 : many < 2 ^ 64) : ∃ r ys, F_draw [.bo xs, .im (.int many)] = some (.im (.int r), [some ys]) ∧ 0 ≤ r ∧ r < many ∧ BagOk ys := by
  obtain ⟨g, b, rfl, g0, g1, b0, b1⟩ := hb
  have hm : 0 < many := by omega
  rw [F_draw_eq]
  obtain ⟨c1, c2⟩ := draw_core (Mm := 2305843009213693951) (A := 6364136223) (C := 1442695041) (Q := 65537) (g := g) (b := b) (many := many) (by decide) (by decide) (by decide) (by decide) hm h2
  by_cases hg : 0 < g
  · exact ⟨_, _, c1 hg, Int.emod_nonneg _ (by omega), Int.emod_lt_of_pos _ hm, g / many, b, rfl, Int.ediv_nonneg g0 (by omega), Int.lt_of_le_of_lt (Int.ediv_le_self _ g0) g1, b0, b1⟩
  · exact ⟨_, _, c2 hg, Int.emod_nonneg _ (by omega), Int.emod_lt_of_pos _ hm, g, _, rfl, g0, g1, Int.emod_nonneg _ (by decide), Int.emod_lt_of_pos _ (by decide)⟩
theorem c_18 : eBin gPow (eC (.int 10)) (eC (.int 18)) = eC (.int 1000000000000000000) := by
  have p : gPow (.int 10) (.int 18) = some (.int 1000000000000000000) := by kernel_rfl
  funext ρ
  simp only [eBin, M.bind, eC, M.ret, val, look, M.opt, p]
theorem c_39 : eBin gAdd (eBin gPow (eC (.int 10)) (eC (.int 12))) (eC (.int 39)) = eC (.int 1000000000039) := by
  have p : gPow (.int 10) (.int 12) = some (.int 1000000000000) := by kernel_rfl
  have q : gAdd (.int 1000000000000) (.int 39) = some (.int 1000000000039) := by kernel_rfl
  funext ρ
  simp only [eBin, M.bind, eC, M.ret, val, look, M.opt, p, q]
theorem e_mulW {i j : Int} (h : i.natAbs < 2 ^ 250) (h2 : j.natAbs < 2 ^ 250) : gMul (.int i) (.int j) = some (.int (i * j)) := by
  have l : 2 ^ 250 ≤ 2 ^ 4000 := Nat.pow_le_pow_right (by decide) (by decide)
  have hd : cMul i j = true := by
    unfold cMul
    rw [Bool.or_eq_true, Bool.and_eq_true]
    exact .inr ⟨decide_eq_true (Nat.lt_of_lt_of_le h l), decide_eq_true (Nat.lt_of_lt_of_le h2 l)⟩
  unfold gMul gI
  simp only [hd, if_true]
theorem c_const {g : D → D → Option D} {x y z : D} (h : g x y = some z) : eBin g (eC x) (eC y) = eC z := by
  funext ρ
  simp only [eBin, M.bind, eC, M.ret, val, look, M.opt, h]
theorem c_60 : eBin gPow (eC (.int 10)) (eC (.int 60)) = eC (.int 1000000000000000000000000000000000000000000000000000000000000) := c_const (by kernel_rfl)
theorem c_120 : eBin gMul (eBin gPow (eC (.int 10)) (eC (.int 60))) (eBin gPow (eC (.int 10)) (eC (.int 60))) = eC (.int (1000000000000000000000000000000000000000000000000000000000000 * 1000000000000000000000000000000000000000000000000000000000000)) := by
  rw [c_60]
  exact c_const (e_mulW (by decide +kernel) (by decide +kernel))
def s_bagG (f : ES) (E18 G M39 Mm : Int) : SS := (sSeq (sSet 2 f)
    (sSeq (sSet 3 (eBin gMod (eCall gMax2 (aCons (eC (.int 0)) (aCons (eBin gSub (eCall gAbs (aCons (eVar 2) aNil)) (eC (.int E18))) aNil))) (eC (.int G))))
    (sSeq (sSet 4 (eBin gAdd (eBin gAdd (eBin gAdd (eBin gMul (eBin gMod (eCall gInt (aCons (eCall gAbs (aCons (eVar 2) aNil)) aNil)) (eC (.int M39))) (eC (.int 10007))) (eBin gMul (eC (.int 509)) (eVar 1))) (eBin gMul (eC (.int 17)) (eCall gInt (aCons (eBin gLt (eVar 2) (eC (.int 0))) aNil)))) (eC (.int 1))))
    (sRetL (nLst (aCons (eVar 3) (aCons (eBin gMod (eCall gInt (aCons (eVar 4) aNil)) (eC (.int Mm))) aNil)))))))
theorem F_bag_eq : F_bag = defF 2 5 (s_bagG (eIf (bCmp gLt (eVar 1) (eCall gLen (aCons (eVar 0) aNil))) (eCall gInt (aCons (eBin gIx (eVar 0) (eVar 1)) aNil)) (eBin gAdd (eBin gMul (eC (.int 89)) (eVar 1)) (eC (.int 41)))) 1000000000000000000 (1000000000000000000000000000000000000000000000000000000000000 * 1000000000000000000000000000000000000000000000000000000000000) 1000000000039 2305843009213693951) := by
  unfold F_bag s_bag s_bagG
  rw [c_18, c_39, c_120, c_61]
theorem e_mulL (i j : Int) (h : i.natAbs < 2 ^ 64) : gMul (.int i) (.int j) = some (.int (i * j)) := e_mul (.inl h)
theorem bag_cell {ns : List Int} {a : Int} (h0 : 0 ≤ a) : ∃ c : Int, (eIf (bCmp gLt (eVar 1) (eCall gLen (aCons (eVar 0) aNil))) (eCall gInt (aCons (eBin gIx (eVar 0) (eVar 1)) aNil)) (eBin gAdd (eBin gMul (eC (.int 89)) (eVar 1)) (eC (.int 41)))) [some (.im (.lst (iD ns))), some (.im (.int a)), none, none, none] = .ok (.im (.int c)) [some (.im (.lst (iD ns))), some (.im (.int a)), none, none, none] := by
  by_cases h : a < ((iD ns).length : Int)
  · obtain ⟨k, rfl⟩ : ∃ k : Nat, a = k := ⟨a.toNat, by omega⟩
    have hk : k < ns.length := by have := h; simp at this; exact this
    refine ⟨ns[k], ?_⟩
    have e : gIx (.lst (iD ns)) (.int k) = some (.int ns[k]) := by simp [gIx, atI, ixN, hk]
    conv => lhs; simp only [eIf, bCmp, eBin, M.bind, eVar, M.ret, val, look, M.opt, eCall, aCons, aNil, vals, looks, gLen, e_lt, h, isBl, decide_true, e, gInt, List.getElem?_cons_zero, List.getElem?_cons_succ]
  · refine ⟨89 * a + 41, ?_⟩
    have e : gMul (.int 89) (.int a) = some (.int (89 * a)) := e_mul (.inl (by decide))
    conv => lhs; simp only [eIf, bCmp, eBin, M.bind, eVar, eC, M.ret, val, look, M.opt, eCall, aCons, aNil, vals, looks, gLen, e_lt, h, isBl, decide_false, e, e_addI, List.getElem?_cons_zero, List.getElem?_cons_succ]
theorem bag_core {E18 G M39 Mm a : Int} {ns : List Int} {f : ES} {c : Int} (hc : f [some (.im (.lst (iD ns))), some (.im (.int a)), none, none, none] = .ok (.im (.int c)) [some (.im (.lst (iD ns))), some (.im (.int a)), none, none, none]) (hG : 0 < G) (h39 : 0 < M39) (hM : 0 < Mm) : ∃ g b : Int, defF 2 5 (s_bagG f E18 G M39 Mm) [.im (.lst (iD ns)), .im (.int a)] = some (.nw [.int (g % G), .int (b % Mm)], []) := by
  have x1 : ∀ i, gMod (.int i) (.int G) = some (.int (i % G)) := fun i => e_mod hG
  have x2 : ∀ i, gMod (.int i) (.int M39) = some (.int (i % M39)) := fun i => e_mod h39
  have x3 : ∀ i, gMod (.int i) (.int Mm) = some (.int (i % Mm)) := fun i => e_mod hM
  have mu1 : ∀ i, gMul (.int i) (.int 10007) = some (.int (i * 10007)) := fun i => e_mul (.inr (by decide))
  have mu2 : ∀ i, gMul (.int 509) (.int i) = some (.int (509 * i)) := fun i => e_mul (.inl (by decide))
  have mu3 : ∀ i, gMul (.int 17) (.int i) = some (.int (17 * i)) := fun i => e_mul (.inl (by decide))
  have f2 : ∀ a b : D, few [a, b] = some [a, b] := fun a b => rfl
  have key := Eq.refl (defF 2 5 (s_bagG f E18 G M39 Mm) [.im (.lst (iD ns)), .im (.int a)])
  conv at key => rhs; simp only [s_bagG, defF, runF, entry, sSeq, sSet, M.bind, hc, imm, setIm, eBin, eVar, eC, M.ret, val, look, M.opt, eCall, aCons, aNil, vals, looks, gAbs, gMax2, gInt, e_lt, x1, x2, x3, mu1, mu2, mu3, e_sub, e_addI, sRetL, nLst, imms, f2, bos,
      List.length_cons, List.length_nil, List.map_cons, List.map_nil, List.cons_append, List.nil_append, List.getElem?_cons_zero, List.getElem?_cons_succ, List.replicate, List.set_cons_zero, List.set_cons_succ, decide_true, Nat.sub_self, Nat.reduceAdd, Nat.reduceSub]
  exact ⟨_, _, key⟩
theorem bag_ok {ns : List Int} {a : Int} (h0 : 0 ≤ a) : ∃ xs, F_bag [.im (.lst (iD ns)), .im (.int a)] = some (.nw xs, []) ∧ BagOk xs := by
  rw [F_bag_eq]
  obtain ⟨c, hc⟩ := bag_cell (ns := ns) h0
  obtain ⟨g, b, e⟩ := bag_core (E18 := 1000000000000000000) (G := 1000000000000000000000000000000000000000000000000000000000000 * 1000000000000000000000000000000000000000000000000000000000000) (M39 := 1000000000039) (Mm := 2305843009213693951) (ns := ns) (a := a) hc (by decide +kernel) (by decide) (by decide)
  have eg : (1000000000000000000000000000000000000000000000000000000000000 : Int) * 1000000000000000000000000000000000000000000000000000000000000 = 1000000000000000000000000000000000000000000000000000000000000000000000000000000000000000000000000000000000000000000000000 := by decide +kernel
  rw [eg] at e
  exact ⟨_, e, _, _, rfl, Int.emod_nonneg _ (by decide), Int.emod_lt_of_pos _ (by decide), Int.emod_nonneg _ (by decide), Int.emod_lt_of_pos _ (by decide)⟩
end Dv
namespace Dv
open PySem PySem.Spec PyProof.Rows L2
theorem nLc_im {v : Nat} {fi : M (List IV)} {gt : M Bool} {fe : ES} {ρ : Rho} {xs : List D} (p : D → Bool) (h : D → D) (hi : fi ρ = .ok (xs.map .im) ρ) (hw : okw [v] ρ = true) (hv : v < ρ.length) (hl : xs.length ≤ 1000000)
    (hd : ∀ d ∈ xs, gt (ρ.set v (some (.im d))) = .ok (p d) (ρ.set v (some (.im d))) ∧ (p d = true → fe (ρ.set v (some (.im d))) = .ok (.im (h d)) (ρ.set v (some (.im d))))) : nLc [v] fi (gSet v) gt fe ρ = .ok ((xs.filter p).map h) ρ := by
  have e := nLc_pure (vs := [v]) (g := gSet v) (gt := gt) (fe := fe) (ds := xs.map .im) (fun d => match d with
    | .im d => p d
    | .tw _ => false) (fun d => match d with
    | .im d => h d
    | .tw _ => .non) hi hw (by simpa using hl) (fun d hd' => by
      obtain ⟨x, hx, rfl⟩ := List.mem_map.mp hd'
      obtain ⟨h1, h2⟩ := hd x hx
      refine ⟨ρ.set v (some (.im x)), ?_, h1, h2, ?_⟩
      · simp [gSet, setIm, wipeR, hv]
      · simp [wipeR])
  rw [e, List.filter_map, List.map_map]
  rfl
theorem bls_of {α : Type} (f : α → Bool) (l : List α) : bls (l.map fun x => D.bl (f x)) = some (l.map f) := by
  have e : (l.map fun x => D.bl (f x)) = (l.map f).map D.bl := by rw [List.map_map]; rfl
  rw [e, bls_map]
theorem asInts_of {α : Type} (f : α → Int) (l : List α) : asInts (l.map fun x => D.int (f x)) = some (l.map f) := by
  have e : (l.map fun x => D.int (f x)) = (l.map f).map D.int := by rw [List.map_map]; rfl
  rw [e, asInts_map]
theorem gAll_of {α : Type} (f : α → Bool) (l : List α) : gAll [.lst (l.map fun x => D.bl (f x))] = some (.bl (l.all f)) := by
  unfold gAll
  simp only [bls_of, List.all_map]
  rfl
theorem cut1 (xs : List D) : cutD xs (some 1) none = xs.drop 1 := by
  unfold cutD HT.sIx
  cases xs with
  | nil => rfl
  | cons a r => simp
end Dv
namespace Dv
open PySem PySem.Spec PyProof.Rows L2
def Lot (n : Int) (l : List Int) : Prop := l.Pairwise (· < ·) ∧ ∀ x ∈ l, 0 ≤ x ∧ x < n
def bN (l : List Int) : Nat := (l.map fun x => 2 ^ x.toNat).sum
theorem bN_dvd (m : Nat) : ∀ l : List Int, (∀ x ∈ l, (m : Int) ≤ x) → 2 ^ m ∣ bN l
  | [], _ => ⟨0, rfl⟩
  | x :: r, h => by
    obtain ⟨q, hq⟩ := bN_dvd m r fun y hy => h y (List.mem_cons_of_mem _ hy)
    have hx := h x List.mem_cons_self
    have e : bN (x :: r) = 2 ^ x.toNat + bN r := by unfold bN; rw [List.map_cons, List.sum_cons]
    rw [e]
    exact Nat.dvd_add (Nat.pow_dvd_pow 2 (by omega)) ⟨q, hq⟩
theorem bN_testBit (k : Nat) : ∀ l : List Int, l.Pairwise (· < ·) → (∀ x ∈ l, 0 ≤ x) → (bN l).testBit k = decide ((k : Int) ∈ l)
  | [], _, _ => by simp [bN]
  | x :: r, hp, h => by
    obtain ⟨h1, h2⟩ := List.pairwise_cons.mp hp
    have ih := bN_testBit k r h2 fun y hy => h y (List.mem_cons_of_mem _ hy)
    have hx := h x List.mem_cons_self
    have e : bN (x :: r) = 2 ^ x.toNat + bN r := by unfold bN; rw [List.map_cons, List.sum_cons]
    obtain ⟨q, hq⟩ := bN_dvd (x.toNat + 1) r fun y hy => by have := h1 y hy; omega
    have e2 : 2 ^ x.toNat + bN r = bN r ||| 2 ^ x.toNat := by
      rw [hq, Nat.add_comm, Nat.two_pow_add_eq_or_of_lt (Nat.pow_lt_pow_right (by decide) (Nat.lt_succ_self _))]
    rw [e, e2, Nat.testBit_or, ih, Nat.testBit_two_pow]
    by_cases hk : x.toNat = k
    · have : (k : Int) = x := by omega
      simp [hk, this]
    · have : ¬ (k : Int) = x := by omega
      simp [hk, this]
theorem Lot.nn {n : Int} {l : List Int} (h : Lot n l) : ∀ x ∈ l, 0 ≤ x := fun x hx => (h.2 x hx).1
theorem Lot.bit {n : Int} {l : List Int} (h : Lot n l) (k : Nat) : (bN l).testBit k = decide ((k : Int) ∈ l) := bN_testBit k l h.1 h.nn
theorem Lot.filter {n : Int} {l : List Int} (h : Lot n l) (p : Int → Bool) : Lot n (l.filter p) := ⟨h.1.filter p, fun x hx => h.2 x (List.mem_filter.mp hx).1⟩
theorem Lot.uniq {n m : Int} {a b : List Int} (ha : Lot n a) (hb : Lot m b) (h : ∀ k, k ∈ a ↔ k ∈ b) : a = b := lt_uniq ha.1 hb.1 h
def meet (a b : List Int) : List Int := a.filter fun x => decide (x ∈ b)
theorem mem_meet {a b : List Int} {k : Int} : k ∈ meet a b ↔ k ∈ a ∧ k ∈ b := by unfold meet; rw [List.mem_filter]; simp
theorem Lot.mt {n : Int} {a : List Int} (ha : Lot n a) (b : List Int) : Lot n (meet a b) := ha.filter _
theorem Lot.bits_and {n m : Int} {a b : List Int} (ha : Lot n a) (hb : Lot m b) : bN a &&& bN b = bN (meet a b) := by
  apply Nat.eq_of_testBit_eq
  intro k
  rw [Nat.testBit_and, ha.bit, hb.bit, (ha.mt b).bit]
  have := @mem_meet a b k
  by_cases h1 : (k : Int) ∈ a <;> by_cases h2 : (k : Int) ∈ b <;> simp [h1, h2, this]
theorem Lot.bits_inj {n m : Int} {a b : List Int} (ha : Lot n a) (hb : Lot m b) (h : bN a = bN b) : a = b := by
  refine ha.uniq hb fun k => ?_
  by_cases hk : 0 ≤ k
  · obtain ⟨j, rfl⟩ : ∃ j : Nat, k = j := ⟨k.toNat, by omega⟩
    have e := congrArg (fun z => Nat.testBit z j) h
    simp only [ha.bit, hb.bit] at e
    simpa using e
  · exact ⟨fun q => absurd (ha.nn _ q) hk, fun q => absurd (hb.nn _ q) hk⟩
theorem bN_nil : bN [] = 0 := rfl
theorem Lot.bits_zero {n : Int} {a : List Int} (ha : Lot n a) : bN a = 0 ↔ a = [] := by
  constructor
  · intro h
    exact ha.bits_inj (b := []) (m := 0) ⟨.nil, fun _ h => nomatch h⟩ (h.trans bN_nil.symm)
  · rintro rfl; rfl
theorem meet_comm {n m : Int} {a b : List Int} (ha : Lot n a) (hb : Lot m b) : meet a b = meet b a := (ha.mt b).uniq (hb.mt a) fun k => by
  rw [mem_meet, mem_meet, and_comm]
theorem filter_len {p : Int → Bool} {l : List Int} (h : (l.filter p).length = l.length) : l.filter p = l := List.filter_eq_self.mpr (List.length_filter_eq_length_iff.mp h)
theorem asI_and (a b : Nat) : Builtin.bitAnd (a : Int) (b : Int) = ((a &&& b : Nat) : Int) := by
  unfold Builtin.bitAnd
  rw [decide_eq_true (Int.natCast_nonneg a), decide_eq_true (Int.natCast_nonneg b)]
  rfl
theorem asI_or (a b : Nat) : Builtin.bitOr (a : Int) (b : Int) = ((a ||| b : Nat) : Int) := by
  rw [L2.bitOr_nn (Int.natCast_nonneg a) (Int.natCast_nonneg b)]; rfl
def picks (n : Nat) (p : Nat → Bool) : List Int := ((List.range n).filter p).map fun (i : Nat) => (i : Int)
theorem picks_lot (n : Nat) (p : Nat → Bool) : Lot n (picks n p) := by
  constructor
  · unfold picks
    rw [List.pairwise_map]
    exact (List.pairwise_lt_range.filter p).imp fun h => by omega
  · intro x hx
    obtain ⟨i, hi, rfl⟩ := List.mem_map.mp hx
    have := List.mem_range.mp (List.mem_filter.mp hi).1
    omega
theorem mem_picks {n : Nat} {p : Nat → Bool} {k : Int} : k ∈ picks n p ↔ ∃ i : Nat, k = i ∧ i < n ∧ p i = true := by
  unfold picks
  rw [List.mem_map]
  constructor
  · rintro ⟨i, hi, rfl⟩
    obtain ⟨h1, h2⟩ := List.mem_filter.mp hi
    exact ⟨i, rfl, List.mem_range.mp h1, h2⟩
  · rintro ⟨i, rfl, h1, h2⟩
    exact ⟨i, List.mem_filter.mpr ⟨List.mem_range.mpr h1, h2⟩, rfl⟩
theorem for_idx {gg : IV → M Unit} {f : SS} {N : Nat} (I : List IV → Rho → Prop) : ∀ (ds pre : List IV) (ρ : Rho), pre.length + ds.length ≤ N → I pre ρ →
    (∀ pre d ρ, d ∈ ds → pre.length < N → I pre ρ → ∃ ρ1 fl ρ2, gg d ρ = .ok () ρ1 ∧ f ρ1 = .ok fl ρ2 ∧ (fl = .nx ∨ fl = .ct) ∧ I (pre ++ [d]) ρ2) → ∃ ρ', forL gg f ds ρ = .ok .nx ρ' ∧ I (pre ++ ds) ρ'
  | [], pre, ρ, _, i, _ => ⟨ρ, rfl, by rw [List.append_nil]; exact i⟩
  | d :: ds, pre, ρ, hl, i, h => by
    rw [List.length_cons] at hl
    obtain ⟨ρ1, fl, ρ2, h1, h2, h3, h4⟩ := h pre d ρ List.mem_cons_self (by omega) i
    obtain ⟨ρ', e1, e2⟩ := for_idx I ds (pre ++ [d]) ρ2 (by rw [List.length_append, List.length_singleton]; omega) h4 fun pre d ρ hd => h pre d ρ (List.mem_cons_of_mem _ hd)
    rw [List.append_assoc] at e2
    refine ⟨ρ', ?_, e2⟩
    unfold forL
    simp only [M.bind, h1, h2]
    rcases h3 with rfl | rfl <;> exact e1
theorem sFor_ok {fi : M (List IV)} {gg : IV → M Unit} {f : SS} {ρ ρ1 : Rho} {ds : List IV} {r : Res Fl} (h : fi ρ = .ok ds ρ1) (h2 : forL gg f ds ρ1 = r) : sFor fi gg f ρ = r := by
  unfold sFor M.bind
  rw [h]
  exact h2
theorem repr_ok {d : D} (h1 : pl 50 d = true) (h2 : cost d ≤ 16000000) : gRepr [d] = some (.str (shownD d)) := by
  show (if (pl 50 d && decide (cost d ≤ 16000000)) = true then _ else _) = _
  rw [if_pos (by rw [h1, decide_eq_true h2]; rfl)]
theorem ne_self (x : Str) : gNe (.str x) (.str x) = some (.bl false) := by simp [gNe, twoS]
theorem eq_self_ (x : Str) : gEq (.str x) (.str x) = some (.bl true) := by simp [gEq, twoS]
theorem bls_fine {α : Type} (f : α → Bool) : ∀ (l : List α), pls 49 (l.map fun x => D.bl (f x)) = true ∧ costs (l.map fun x => D.bl (f x)) = 7 * l.length
  | [] => ⟨by rw [List.map_nil, pls.eq_def], by simp [costs]⟩
  | a :: l => by
    obtain ⟨h1, h2⟩ := bls_fine f l
    constructor
    · rw [List.map_cons, pls.eq_def]
      simp only [Bool.and_eq_true]
      exact ⟨pl_bl _ _, h1⟩
    · rw [List.map_cons, costs, h2, cost, List.length_cons]; omega
theorem rng1_ok {n : Int} (h0 : 0 ≤ n) (h1 : n < 1000000) : rng1 [.int n] = some (((List.range n.toNat).map fun (i : Nat) => D.int (i : Int)).map .im) := by
  have e : rangeOk n = true := by
    unfold rangeOk
    rw [Bool.and_eq_true]
    exact ⟨decide_eq_true (by omega), decide_eq_true (by omega)⟩
  show (if rangeOk n = true then _ else _) = _
  rw [if_pos e, List.map_map]
  rfl
theorem ix_nat {xs : List D} {r : Int} (h0 : 0 ≤ r) (h1 : r < xs.length) : ∃ d, d ∈ xs ∧ gIx (.lst xs) (.int r) = some d := by
  obtain ⟨k, rfl⟩ : ∃ k : Nat, r = k := ⟨r.toNat, by omega⟩
  have hk : k < xs.length := by omega
  exact ⟨xs[k], List.getElem_mem hk, by simp [gIx, atI, ixN, hk]⟩
theorem sub_ints {L : List Int} {xs : List D} (h : (xs.map IV.im).Sublist ((L.map D.int).map IV.im)) : ∃ l, xs = iD l ∧ l.Sublist L := by
  have inj : ∀ {a b : List D}, a.map IV.im = b.map IV.im → a = b := fun {a b} e => by
    have q := congrArg (List.map fun z => match z with
      | IV.im d => d
      | IV.tw _ => D.non) e
    simpa [List.map_map, Function.comp_def] using q
  obtain ⟨l', h1, h2⟩ := List.sublist_map_iff.mp h
  obtain ⟨l, h3, h4⟩ := List.sublist_map_iff.mp h1
  exact ⟨l, by rw [inj h2, h4], h3⟩
theorem F2_im : ∀ {sel : List IV} {xs : List D}, F2 (fun d x => d = IV.im x) sel xs → sel = xs.map IV.im
  | _, _, .nil => rfl
  | _, _, .cons h r => by rw [h, F2_im r]; rfl
end Dv
namespace Dv
open PySem PySem.Spec PyProof.Rows L2
section
variable {X : Cx} {e a b o : Expr} {es : List Expr} {fs : M (List RV)} {fa fb : ES} {pos p : Pos}
def items : D → Option (List D)
  | .lst xs => some xs
  | .tup xs => some xs
  | _ => none
def aStar (fa : ES) (fs : M (List RV)) : M (List RV) := M.bind fa fun r => M.bind (val r) fun d => M.bind (M.opt (items d)) fun xs => M.bind fs fun rs => M.ret (xs.map RV.im ++ rs)
theorem RRs.of_im {G : Gp} {F : Fm} {A : Own} {H : Hp} : ∀ {vs : List V} {xs : List D}, RDs G (hid (zs F A) H) vs xs → RRs G F A H vs (xs.map RV.im)
  | _, _, .nil => .nil
  | _, _, .cons a b => .cons a (RRs.of_im b)
theorem RRs.app {G : Gp} {F : Fm} {A : Own} {H : Hp} : ∀ {vs ws : List V} {rs ts : List RV}, RRs G F A H vs rs → RRs G F A H ws ts → RRs G F A H (vs ++ ws) (rs ++ ts)
  | _, _, _, _, .nil, b => b
  | _, _, _, _, .cons a r, b => .cons a (RRs.app r b)
theorem items_rt {G : Gp} {Z : List Addr} {H : Hp} {v : V} {d : D} {xs : List D} (h : RT G Z H v d) (e : items d = some xs) : ∃ p vs, v = .ref p ∧ (SqT G.K H p vs ∨ SqL G.K H p vs) ∧ RDs G (hid Z H) vs xs := by
  unfold items at e
  split at e
  · cases e; obtain ⟨p, vs, rfl, h1, h2⟩ := h.lst; exact ⟨p, vs, rfl, .inr h1, h2⟩
  · cases e; obtain ⟨p, vs, rfl, h1, h2⟩ := h.tup; exact ⟨p, vs, rfl, .inl h1.sq, h2⟩
  · cases e
theorem da_star (ha : DE X e fa) (hr : DA X es fs) (hs : starEach (.Starred e p :: es) X.env = (true, eval e X.env) :: starEach es X.env := by rfl) : DA X (.Starred e p :: es) (aStar fa fs) := ⟨fun F => pa_imp (StX.pa_star (ha.run F) (hr.run F) hs) fun σ H Q ⟨A, ρ, r, ρ', S, e, q⟩ => by
  obtain ⟨r1, ρ1, e1, e⟩ := bind_ok e
  obtain ⟨d, ρ2, e2, e⟩ := bind_ok e
  obtain ⟨l2, rfl⟩ := val_ok e2
  obtain ⟨xs, ρ3, e3, e⟩ := bind_ok e
  obtain ⟨l3, rfl⟩ := opt_ok e3
  obtain ⟨rs, ρ4, e4, e⟩ := bind_ok e
  obtain ⟨rfl, rfl⟩ := ret_ok e
  refine ⟨A, ρ, r1, _, S, e1, fun v H1 S1 m1 q1 => ?_⟩
  obtain ⟨pp, vs, rfl, hq, rd⟩ := items_rt (look_rt S1 q1 l2) l3
  exact ⟨pp, vs, rfl, hq, A, _, rs, _, S1, e4, fun ws H2 S2 m2 q2 => q _ H2 S2 (m1.trans m2) ((RRs.of_im (rd.mono m2.hid)).app q2)⟩⟩
def gIsB : D → D → Option D
  | .bl a, .bl b => some (.bl (decide (a = b)))
  | _, _ => none
def gNotB : D → D → Option D
  | .bl a, .bl b => some (.bl (!decide (a = b)))
  | _, _ => none
theorem od_isB : OpD X (compareOp .Is) gIsB := ⟨_, op_isBl, fun Z H x y dx dy d Q z rx ry e q => by
  unfold gIsB at e
  split at e
  · cases e; exact ⟨_, _, rx.bl, ry.bl, ret_bl q⟩
  · cases e⟩
theorem od_notB : OpD X (compareOp .IsNot) gNotB := ⟨_, op_notBl, fun Z H x y dx dy d Q z rx ry e q => by
  unfold gNotB at e
  split at e
  · cases e; exact ⟨_, _, rx.bl, ry.bl, ret_bl q⟩
  · cases e⟩
def maxI : Int → List Int → Int
  | m, [] => m
  | m, a :: r => maxI (if a > m then a else m) r
def minI : Int → List Int → Int
  | m, [] => m
  | m, a :: r => minI (if a < m then a else m) r
theorem maxI_ok : ∀ (l : List Int) (m : Int), (maxI m l = m ∨ maxI m l ∈ l) ∧ m ≤ maxI m l ∧ ∀ y ∈ l, y ≤ maxI m l
  | [], m => ⟨.inl rfl, Int.le_refl _, fun _ h => nomatch h⟩
  | a :: r, m => by
    obtain ⟨h1, h2, h3⟩ := maxI_ok r (if a > m then a else m)
    have e : maxI m (a :: r) = maxI (if a > m then a else m) r := rfl
    rw [e]
    by_cases z : a > m
    · rw [if_pos z] at h1 h2 h3 ⊢
      refine ⟨.inr ?_, by omega, fun y hy => ?_⟩
      · rcases h1 with h1 | h1
        · rw [h1]; exact List.mem_cons_self
        · exact List.mem_cons_of_mem _ h1
      · rcases List.mem_cons.mp hy with rfl | hy
        · exact h2
        · exact h3 y hy
    · rw [if_neg z] at h1 h2 h3 ⊢
      refine ⟨?_, h2, fun y hy => ?_⟩
      · rcases h1 with h1 | h1
        · exact .inl h1
        · exact .inr (List.mem_cons_of_mem _ h1)
      · rcases List.mem_cons.mp hy with rfl | hy
        · omega
        · exact h3 y hy
theorem minI_ok : ∀ (l : List Int) (m : Int), (minI m l = m ∨ minI m l ∈ l) ∧ minI m l ≤ m ∧ ∀ y ∈ l, minI m l ≤ y
  | [], m => ⟨.inl rfl, Int.le_refl _, fun _ h => nomatch h⟩
  | a :: r, m => by
    obtain ⟨h1, h2, h3⟩ := minI_ok r (if a < m then a else m)
    have e : minI m (a :: r) = minI (if a < m then a else m) r := rfl
    rw [e]
    by_cases z : a < m
    · rw [if_pos z] at h1 h2 h3 ⊢
      refine ⟨.inr ?_, by omega, fun y hy => ?_⟩
      · rcases h1 with h1 | h1
        · rw [h1]; exact List.mem_cons_self
        · exact List.mem_cons_of_mem _ h1
      · rcases List.mem_cons.mp hy with rfl | hy
        · exact h2
        · exact h3 y hy
    · rw [if_neg z] at h1 h2 h3 ⊢
      refine ⟨?_, h2, fun y hy => ?_⟩
      · rcases h1 with h1 | h1
        · exact .inl h1
        · exact .inr (List.mem_cons_of_mem _ h1)
      · rcases List.mem_cons.mp hy with rfl | hy
        · omega
        · exact h3 y hy
def gMaxL : List D → Option D
  | [.lst xs] => match asInts xs with
    | some (a :: r) => some (.int (maxI a r))
    | _ => none
  | _ => none
def gMinL : List D → Option D
  | [.lst xs] => match asInts xs with
    | some (a :: r) => some (.int (minI a r))
    | _ => none
  | _ => none
theorem cd_maxL (hc : X.calm = true) : CallD X (.builtin "max") gMaxL := ⟨_, cr_max hc, fun Z H xs ds d Q z r e q => by
  unfold gMaxL at e
  split at e
  · split at e
    · rename_i ys a0 rr q1
      cases e
      have ex := asInts_eq q1
      subst ex
      obtain ⟨v, rfl, r1⟩ := r.one
      obtain ⟨p, vs, rfl, h1, h2⟩ := r1.lst
      have ev := h2.ints
      subst ev
      refine ⟨p, _, rfl, h1, by simp, fun m hm hy => ?_⟩
      obtain ⟨k1, k2, k3⟩ := maxI_ok rr a0
      have e1 : maxI a0 rr ≤ m := hy _ (by
        rcases k1 with k1 | k1
        · rw [k1]; exact List.mem_cons_self
        · exact List.mem_cons_of_mem _ k1)
      have e2 : m ≤ maxI a0 rr := by
        rcases List.mem_cons.mp hm with rfl | hm
        · exact k2
        · exact k3 m hm
      have e3 : m = maxI a0 rr := by omega
      rw [e3]
      exact ret_int q
    · cases e
  · cases e⟩
theorem cd_minL (hc : X.calm = true) : CallD X (.builtin "min") gMinL := ⟨_, cr_min hc, fun Z H xs ds d Q z r e q => by
  unfold gMinL at e
  split at e
  · split at e
    · rename_i ys a0 rr q1
      cases e
      have ex := asInts_eq q1
      subst ex
      obtain ⟨v, rfl, r1⟩ := r.one
      obtain ⟨p, vs, rfl, h1, h2⟩ := r1.lst
      have ev := h2.ints
      subst ev
      refine ⟨p, _, rfl, h1, by simp, fun m hm hy => ?_⟩
      obtain ⟨k1, k2, k3⟩ := minI_ok rr a0
      have e1 : m ≤ minI a0 rr := hy _ (by
        rcases k1 with k1 | k1
        · rw [k1]; exact List.mem_cons_self
        · exact List.mem_cons_of_mem _ k1)
      have e2 : minI a0 rr ≤ m := by
        rcases List.mem_cons.mp hm with rfl | hm
        · exact k2
        · exact k3 m hm
      have e3 : m = minI a0 rr := by omega
      rw [e3]
      exact ret_int q
    · cases e
  · cases e⟩
def OpN (X : Cx) (f : Value → Value → Sem Value) (g : D → D → Option (List D)) : Prop := ∃ r, OpR X f r ∧ ∀ (Z : List Addr) (H : Hp) (x y : V) (dx dy : D) (es : List D) (Q : VK), ZOk Z H → RT (Gx X) Z H x dx → RT (Gx X) Z H y dy → g dx dy = some es →
  (∀ p vs, H p = none → RDs (Gx X) (hid Z H) vs es → Q (.ref p) (upd H p (.lst vs))) → r x y H Q
def nBin (g : D → D → Option (List D)) (fa fb : ES) : M (List D) := M.bind fa fun ra => M.bind fb fun rb => M.bind (val ra) fun x => M.bind (val rb) fun y => M.opt (g x y)
theorem dn_bin {op : Operator} {g : D → D → Option (List D)} (ho : OpN X (binaryOp op) g) (ha : DE X a fa) (hb : DE X b fb) : DN X (.BinOp a op b pos) (nBin g fa fb) := ⟨fun F => by
  obtain ⟨r, h1, h2⟩ := ho
  refine pe_imp (pe_op h1 (ha.run F) (hb.run F)) fun σ H Q ⟨A, ρ, rr, ρ', S, e, q⟩ => ?_
  obtain ⟨ra, ρ1, e1, e⟩ := bind_ok e
  obtain ⟨rb, ρ2, e2, e⟩ := bind_ok e
  obtain ⟨x, ρ3, e3, e⟩ := bind_ok e
  obtain ⟨l3, rfl⟩ := val_ok e3
  obtain ⟨y, ρ4, e4, e⟩ := bind_ok e
  obtain ⟨l4, rfl⟩ := val_ok e4
  obtain ⟨l5, rfl⟩ := opt_ok e
  refine ⟨A, ρ, ra, ρ1, S, e1, fun v1 H1 S1 m1 r1 => ⟨A, ρ1, rb, _, S1, e2, fun v2 H2 S2 m2 r2 => ?_⟩⟩
  exact h2 (zs F A) H2 v1 v2 x y rr Q S2.zall (look_rt S2 (r1.same m2.hid) l3) (look_rt S2 r2 l4) l5 fun p vs hp rd => fresh_list S2 (m1.trans m2) rd hp (back_none S (m1.trans m2) S2 hp) q⟩
def nCat : D → D → Option (List D)
  | .lst xs, .lst ys => if xs.length + ys.length ≤ 1000000 then some (xs ++ ys) else none
  | _, _ => none
theorem on_cat : OpN X (binaryOp .Add) nCat := ⟨_, op_catL, fun Z H x y dx dy es Q z rx ry e q => by
  unfold nCat at e
  split at e
  · rename_i xs ys
    by_cases hl : xs.length + ys.length ≤ 1000000
    · rw [if_pos hl] at e
      cases e
      obtain ⟨p1, vs, rfl, h1, h2⟩ := rx.lst
      obtain ⟨p2, ws, rfl, h3, h4⟩ := ry.lst
      exact ⟨p1, p2, vs, ws, rfl, rfl, h1, h3, by rw [h2.len, h4.len]; exact len_line hl, fun p hp => q p _ hp (h2.app h4)⟩
    · rw [if_neg hl] at e; cases e
  · cases e⟩
def nSl (fa : ES) (fl fh : M (Option Int)) : M (List D) := M.bind fa fun r => M.bind fl fun lo => M.bind fh fun hi => M.bind (val r) fun d => M.opt (match d with
  | .lst xs => some (Dv.cutD xs lo hi)
  | _ => none)
theorem dn_sl {lo hi : Option Expr} {fl fh : M (Option Int)} {p2 : Pos} (ha : DE X e fa) (hl : DO X lo fl) (hh : DO X hi fh) : DN X (.Subscript e (.Slice lo hi none p2) pos) (nSl fa fl fh) := ⟨fun F => pe_imp (pe_slice sl_list (ha.run F) (hl.run F) (hh.run F)) fun σ H Q ⟨A, ρ, rr, ρ', S, e, q⟩ => by
  obtain ⟨r, ρ1, e1, e⟩ := bind_ok e
  obtain ⟨lo, ρ2, e2, e⟩ := bind_ok e
  obtain ⟨hi, ρ3, e3, e⟩ := bind_ok e
  obtain ⟨d, ρ4, e4, e⟩ := bind_ok e
  obtain ⟨l4, rfl⟩ := val_ok e4
  obtain ⟨l5, rfl⟩ := opt_ok e
  refine ⟨A, ρ, r, ρ1, S, e1, fun v H1 S1 m1 r1 => ⟨A, ρ1, lo, ρ2, S1, e2, fun H2 S2 m2 => ⟨A, ρ2, hi, _, S2, e3, fun H3 S3 m3 => ?_⟩⟩⟩
  have rt := look_rt S3 ((r1.same m2.hid).same m3.hid) l4
  have m := (m1.trans m2).trans m3
  cases d with
  | lst xs =>
    cases l5
    obtain ⟨pp, vs, rfl, h1, h2⟩ := rt.lst
    exact ⟨pp, vs, rfl, h1, fun p hp => fresh_list S3 m (cut_rd h2) hp (back_none S m S3 hp) q⟩
  | _ => cases l5⟩
def popK (xs : List D) : Option Nat → Option (D × List D)
  | some k => (xs[k]?).map fun d => (d, xs.eraseIdx k)
  | none => none
def cPopAt : Ch
  | xs, [.int i] => if rangeOk i = true then popK xs (seqIndex? i xs.length) else none
  | _, _ => none
theorem RDs.del {G : Gp} {H : Hp} : ∀ {vs : List V} {ds : List D} (k : Nat), RDs G H vs ds → RDs G H (vs.eraseIdx k) (ds.eraseIdx k)
  | _, _, _, .nil => .nil
  | _, _, 0, .cons _ r => r
  | _, _, k + 1, .cons a r => .cons a (RDs.del k r)
theorem md_popAt : MtD X "list.pop" cPopAt := ⟨_, mt_popAt, fun Z H a vs ws xs ds ys d Q hz ha r rs e q => by
  unfold cPopAt at e
  split at e
  · rename_i i
    by_cases hr : rangeOk i = true
    · rw [if_pos hr] at e
      cases hk : seqIndex? i xs.length with
      | none => rw [hk] at e; cases e
      | some k =>
        rw [hk] at e
        obtain ⟨d0, hd, e2⟩ := Option.map_eq_some_iff.mp (show (xs[k]?).map (fun d => (d, xs.eraseIdx k)) = some (d, ys) from e)
        cases e2
        obtain ⟨v, rfl, rv⟩ := rs.one
        cases rv
        obtain ⟨u, h1, h2⟩ := r.get hd
        obtain ⟨b1, b2⟩ := rangeOk_of hr
        exact ⟨a, vs, i, k, u, rfl, rfl, ha, by omega, by omega, by rw [r.len]; exact hk, h1, q u _ h2 (r.del k)⟩
    · rw [if_neg hr] at e; cases e
  · cases e⟩
def rExtQ (K : PySem.W.Frag) : V → List V → Hp → VK → Prop := fun x vs H Q => ∃ l b xs zs, x = .ref l ∧ vs = [.ref b] ∧ H l = some (.lst xs) ∧ SqL K H b zs ∧ xs.length + zs.length ≤ sizeLine ∧ Q .non (upd H l (.lst (xs ++ zs)))
theorem list_extendG (l b : Addr) (xa ya : Array Value) (n n2 : Nat) (d2 : Option Addr) (s2 : Array (Option Value)) (short : ¬(!xa.isEmpty && Builtin.List.listTooLong (xa.size + ya.size)) = true) (fit : xa.size + ya.size ≤ sizeLine) :
    Meets (Builtin.«list.extend» ⟨[.ref l, .ref b], []⟩) (fun _ R s => s.heap.get? l = some { cls := .type "list", data := .seq xa n } ∧ s.heap.get? b = some { cls := .type "list", dict := d2, data := .seq ya n2, slots := s2 } ∧
      R (.ok (.ret Value.none)) { s with heap := s.heap.update l (Obj.mapSeq fun x => x ++ ya) }) := .of_wp fun prog w A R s h => by
  obtain ⟨hp, g, d, tk, os⟩ := s
  obtain ⟨hl, hb, h⟩ := h
  have w1 := AutoSeq1.idx_int
  have w2 := AutoSeq1.sub_tuple_tuple
  have w3 := AutoSeq1.sub_list_list
  have w4 := AutoSeq1.sub_tuple_list
  have w5 := AutoSeq1.sub_list_tuple
  have xz : xa.size ≤ sizeLine := by omega
  have yz : (xa ++ ya).size ≤ sizeLine + 1 := by rw [Array.size_append]; omega
  wp_walk using (wpAny_updateSeq hl rfl (hz := xz) (_hz' := yz)), wpAny_loadPart' hl, wpAny_loadPart' hb
  exact ⟨_, rfl, h⟩
theorem mt_extQ : MtM X "list.extend" (rExtQ X.K) := by
  intro pins s σ H x vs v us Q I rx rv h
  obtain ⟨l, b, xs, zs, rfl, rfl, hH, hB, hz, q⟩ := h
  cases rx
  obtain ⟨u, rfl, ru⟩ := rv.one
  cases ru
  obtain ⟨z, its, n, r, hl, e⟩ := I.lstM hH
  obtain ⟨its2, r2, ⟨⟨c2, d2, t2, s2⟩, n2, e2, hc2, _, hd2⟩, hz2⟩ := I.list hB
  simp only at hc2 hd2
  subst hc2 hd2
  have hl2 := r2.length
  have hsz : its.toArray.size + its2.toArray.size ≤ sizeLine := by rw [List.size_toArray, List.size_toArray]; omega
  have hlong : ¬ (!its.toArray.isEmpty && Builtin.List.listTooLong (its.toArray.size + its2.toArray.size)) = true := by
    rw [notLongL hsz, Bool.and_false]
    exact Bool.false_ne_true
  refine call_meets F.slot_list_extend ⟨_, e, rfl⟩ F.entry_list_extend (F.args_list_extend_2 _ _)
    (list_extendG l b its.toArray its2.toArray n n2 d2 s2 hlong (by omega)) ⟨e, e2, ?_⟩
  refine ⟨.non, _, I.lset (its' := its ++ its2) (t' := s.toks) hH e (by simp) (r.append r2) ?_, rfl, q⟩
  rw [List.length_append]
  omega
def cExtend : Ch
  | xs, [.lst ys] => if xs.length + ys.length ≤ 1000000 then some (.non, xs ++ ys) else none
  | _, _ => none
theorem md_extend : MtD X "list.extend" cExtend := ⟨_, mt_extQ, fun Z H a vs ws xs ds ys d Q hz ha r rs e q => by
  unfold cExtend at e
  split at e
  · rename_i zs0
    by_cases hl : xs.length + zs0.length ≤ 1000000
    · rw [if_pos hl] at e
      cases e
      obtain ⟨v, rfl, rv⟩ := rs.one
      cases rv with
      | lst g1 g2 =>
        exact ⟨a, _, vs, _, rfl, rfl, ha, hid_full.seq g1, by rw [r.len, g2.len]; exact len_line hl, q _ _ .non (r.app g2)⟩
    · rw [if_neg hl] at e; cases e
  · cases e⟩
end
end Dv
namespace Dv
open PySem PySem.Spec PyProof.Rows L2
theorem Sts.free {G : Gp} {F : Fm} {A : Own} {σ : St} {ρ : Rho} {H : Hp} {i : Nat} {xs : List D} (S : Sts G F A σ ρ H) (q : ρ[i]? = some (some (.ow xs))) :
    Sts G F (drop1 A i) σ (ρ.set i (some (.im (.lst xs)))) H ∧ Same (hid (zs F A) H) (hid (zs F (drop1 A i)) H) := by
  have hi : i < ρ.length := (List.getElem?_eq_some_iff.mp q).1
  have key : Same (hid (zs F A) H) (hid (zs F (drop1 A i)) H) := hid_less zs_drop1
  obtain ⟨a0, a1, a2, a3, a4, vs0, a5, a6⟩ := S.ow i xs q
  have out : a0 ∉ zs F (drop1 A i) := fun z => by
    rcases mem_zs.mp z with z | ⟨j, z⟩
    · exact a2 z
    · obtain ⟨z1, z2⟩ := mem_drop1.mp z
      exact z2 ((S.uni j i a0 a0 z1 a1).mpr rfl)
  have ow : ∀ {j a ys}, OwAt G F A σ H j a ys → OwAt G F (drop1 A i) σ H j a ys := fun {j a ys} ⟨h1, vs, h2, h3⟩ => ⟨h1, vs, h2, h3.mono key⟩
  refine ⟨⟨by rw [List.length_set]; exact S.len, fun j e hj => ?_, fun j ys hj => ?_, fun j ys hj => ?_, fun j a hj => ?_, fun j k a b h1 h2 => S.uni j k a b (mem_drop1.mp h1).1 (mem_drop1.mp h2).1, fun j a hj => ?_, S.keep, S.zok⟩, key⟩
  · by_cases z : j = i
    · subst z
      rw [List.getElem?_set_self hi] at hj
      cases hj
      exact ⟨_, a4, .lst (SqL.of (hid_of out a5)) (a6.mono key)⟩
    · rw [List.getElem?_set_ne (Ne.symm z)] at hj
      obtain ⟨w, h1, h2⟩ := S.im j e hj
      exact ⟨w, h1, h2.mono key⟩
  · by_cases z : j = i
    · subst z; rw [List.getElem?_set_self hi] at hj; cases hj
    · rw [List.getElem?_set_ne (Ne.symm z)] at hj
      obtain ⟨a, h1, h2, h3, h4⟩ := S.ow j ys hj
      exact ⟨a, mem_drop1.mpr ⟨h1, z⟩, h2, h3, ow h4⟩
  · by_cases z : j = i
    · subst z; rw [List.getElem?_set_self hi] at hj; cases hj
    · rw [List.getElem?_set_ne (Ne.symm z)] at hj
      obtain ⟨a, h1, h2, h3⟩ := S.bo j ys hj
      exact ⟨a, mem_drop1.mpr ⟨h1, z⟩, h2, ow h3⟩
  · obtain ⟨h1, z⟩ := mem_drop1.mp hj
    rw [List.getElem?_set_ne (Ne.symm z)]
    exact S.own j a h1
  · obtain ⟨h1, ys, h2⟩ := S.bor j a hj
    have z : j ≠ i := fun z => by subst z; rw [q] at h2; cases h2
    exact ⟨mem_drop1.mpr ⟨h1, z⟩, ys, by rw [List.getElem?_set_ne (Ne.symm z)]; exact h2⟩
def freeR (i : Nat) (ρ : Rho) : Rho := match ρ[i]? with
  | some (some (.ow xs)) => ρ.set i (some (.im (.lst xs)))
  | _ => ρ
def sFree : List Nat → SS → SS
  | [], f => f
  | i :: l, f => fun ρ => sFree l f (freeR i ρ)
theorem free_rd {G : Gp} {F : Fm} {D : Ends} {σ : St} {H : Hp} {f : SS} : ∀ (l : List Nat), tS G F (sFree l f) D σ H → tS G F f D σ H
  | [], h => h
  | i :: l, ⟨A, ρ, S, o⟩ => by
    refine free_rd l ?_
    have o : OutS G F A H D (sFree l f (freeR i ρ)) := o
    unfold freeR at o
    split at o
    · rename_i xs q
      obtain ⟨S', m⟩ := S.free q
      exact ⟨_, _, S', OutS.sto (Sto.less fun j a h => (mem_drop1.mp h).1) o⟩
    · exact ⟨A, ρ, S, o⟩
theorem ds_free {X : Cx} {st : Stmt} {f : SS} {l : List Nat} (h : DS X st f) : DS X st (sFree l f) := ⟨fun F => ps_imp (h.run F) fun D σ H q => free_rd l q⟩
inductive PV where
  | v (r : RV)
  | f (xs : List D)
def tP (G : Gp) (f : M PV) : TE := fun σ H Q => ∃ F A ρ pv ρ', Sts G F A σ ρ H ∧ f ρ = .ok pv ρ' ∧ (match pv with
  | .v r => ∀ v H', Sts G F A σ ρ' H' → Stp A H H' → RR G F A H' v r → Q v H'
  | .f xs => ∀ p vs H', Sts G (F.hide p) A σ ρ' H' → F.H0 p = none → p ∉ zs F A → Stp A H H' → H p = none → H' p = some (.lst vs) → RDs G (hid (zs (F.hide p) A) H') vs xs → Q (.ref p) H')
structure DP (X : Cx) (e : Expr) (f : M PV) : Prop where
  run : PE X e (tP (Gx X) f)
def pV (fa : ES) : M PV := M.bind fa fun r => M.ret (.v r)
def pN (f : M (List D)) : M PV := M.bind f fun xs => M.ret (.f xs)
theorem pe_any {X : Cx} {e : Expr} {t : Fm → TE} (h : ∀ F, PE X e (t F)) : PE X e (fun σ H Q => ∃ F, t F σ H Q) := ⟨fun pins s σ H Q I ⟨F, q⟩ => (h F).run pins s σ H Q I q⟩
theorem dp_v {X : Cx} {e : Expr} {fa : ES} (h : DE X e fa) : DP X e (pV fa) := ⟨pe_imp (pe_any h.run) fun σ H Q ⟨F, A, ρ, pv, ρ', S, e, q⟩ => by
  obtain ⟨r, ρ1, e1, e⟩ := bind_ok e
  obtain ⟨rfl, rfl⟩ := ret_ok e
  exact ⟨F, A, ρ, r, _, S, e1, q⟩⟩
theorem dp_n {X : Cx} {e : Expr} {f : M (List D)} (h : DN X e f) : DP X e (pN f) := ⟨pe_imp (pe_any h.run) fun σ H Q ⟨F, A, ρ, pv, ρ', S, e, q⟩ => by
  obtain ⟨r, ρ1, e1, e⟩ := bind_ok e
  obtain ⟨rfl, rfl⟩ := ret_ok e
  exact ⟨F, A, ρ, r, _, S, e1, q⟩⟩
def putP (i : Nat) : PV → M Unit
  | .v r => M.bind (imm r) fun d => setIm i d
  | .f xs => setOw i xs
def sPar2 (i j : Nat) (fa fb : M PV) : SS := M.bind fa fun x => M.bind fb fun y => M.bind (putP i x) fun _ => M.bind (putP j y) fun _ => M.ret .nx
theorem hid_eq {Z Z' : List Addr} {H : Hp} (h : ∀ a, a ∈ Z ↔ a ∈ Z') : hid Z H = hid Z' H := by
  funext a
  unfold hid
  by_cases z : a ∈ Z
  · rw [if_pos z, if_pos ((h a).mp z)]
  · rw [if_neg z, if_neg fun y => z ((h a).mpr y)]
theorem Sts.swap {G : Gp} {F : Fm} {A : Own} {σ : St} {ρ : Rho} {H : Hp} {p q : Addr} (S : Sts G ((F.hide p).hide q) A σ ρ H) : Sts G ((F.hide q).hide p) A σ ρ H := by
  have hz : ∀ a, a ∈ ((F.hide p).hide q).Z ↔ a ∈ ((F.hide q).hide p).Z := fun a => by
    show a ∈ q :: p :: F.Z ↔ a ∈ p :: q :: F.Z
    simp only [List.mem_cons]
    constructor
    · rintro (h | h | h)
      · exact .inr (.inl h)
      · exact .inl h
      · exact .inr (.inr h)
    · rintro (h | h | h)
      · exact .inr (.inl h)
      · exact .inl h
      · exact .inr (.inr h)
  have hzs : ∀ a, a ∈ zs ((F.hide p).hide q) A ↔ a ∈ zs ((F.hide q).hide p) A := fun a => by
    rw [mem_zs, mem_zs, hz a]
  have e := hid_eq (H := H) hzs
  have ow : ∀ {j a ys}, OwAt G ((F.hide p).hide q) A σ H j a ys → OwAt G ((F.hide q).hide p) A σ H j a ys := fun {j a ys} ⟨h1, vs, h2, h3⟩ => ⟨h1, vs, h2, by rw [← e]; exact h3⟩
  refine ⟨S.len, fun j d h => ?_, fun j ys h => ?_, fun j ys h => ?_, S.own, S.uni, S.bor, S.keep, fun a ha => S.zok a ((hz a).mpr ha)⟩
  · obtain ⟨v, h1, h2⟩ := S.im j d h
    exact ⟨v, h1, by rw [← e]; exact h2⟩
  · obtain ⟨a, h1, h2, h3, h4⟩ := S.ow j ys h
    exact ⟨a, h1, fun z => h2 ((hz a).mpr z), h3, ow h4⟩
  · obtain ⟨a, h1, h2, h3⟩ := S.bo j ys h
    exact ⟨a, h1, h2, ow h3⟩
theorem ds_par2 {X : Cx} {i j : Nat} {x y : Str} {a b : Expr} {fa fb : M PV} {px py pt pos : Pos} {kt k2 pt2} (hc : X.calm = true) (hN : X.N.Nodup) (hi : X.N[i]? = some x) (hj : X.N[j]? = some y) (hij : i ≠ j)
    (hx : X.env.scope.names.lookup x = some .local) (hy : X.env.scope.names.lookup y = some .local) (ha : DP X a fa) (hb : DP X b fb)
    (hw : swappedStores [.Tuple [.Name x px, .Name y py] kt pt] (.Tuple [a, b] k2 pt2) X.env = pure (some [x, y]))
    (h1 : starEach (a :: [b]) X.env = (false, eval a X.env) :: starEach [b] X.env := by rfl) (h2 : starEach (b :: []) X.env = (false, eval b X.env) :: starEach [] X.env := by rfl)
    (hs : swapsWithSole [.Tuple [.Name x px, .Name y py] kt pt] (.Tuple [a, b] k2 pt2) pos.line X.env = pure false := by rfl) :
    DS X (.Assign [.Tuple [.Name x px, .Name y py] kt pt] (.Tuple [a, b] k2 pt2) pos) (sPar2 i j fa fb) := ⟨fun F => ps_imp (ps_par hc hN hi hj hij hx hy (pa_cons ha.run (pa_cons hb.run pa_nil h2) h1) hw hs) fun D σ H ⟨A, ρ, S, o⟩ => by
  obtain ⟨pa, ρ1, e1, o⟩ := out_bind o
  obtain ⟨pb, ρ2, e2, o⟩ := out_bind o
  obtain ⟨_, ρ3, e3, o⟩ := out_bind o
  obtain ⟨_, ρ4, e4, oo⟩ := out_bind o
  cases pa with
  | v ra =>
    obtain ⟨d, ρ5, e5, e3⟩ := bind_ok e3
    obtain ⟨rfl, rfl⟩ := imm_ok e5
    refine ⟨F, A, ρ, _, ρ1, S, e1, fun v H1 S1 m1 r1 => ?_⟩
    cases pb with
    | v rb =>
      obtain ⟨d', ρ6, e6, e4⟩ := bind_ok e4
      obtain ⟨rfl, rfl⟩ := imm_ok e6
      refine ⟨F, A, ρ1, _, _, S1, e2, fun w H2 S2 m2 r2 => ?_⟩
      obtain ⟨S3, m3⟩ := S2.set e3 (RD.mono m2.hid r1)
      obtain ⟨S4, m4⟩ := S3.set e4 (RD.mono m3 r2)
      exact ⟨_, _, rfl, oo _ _ _ S4 (((Sto.of (m1.trans m2)).trans (Sto.less fun j a h => (mem_drop1.mp h).1)).trans (Sto.less fun j a h => (mem_drop1.mp h).1))⟩
    | f ys =>
      refine ⟨F, A, ρ1, _, _, S1, e2, fun p vs H2 S2 h0 hz m2 hn hp rd => ?_⟩
      have mm := m1.trans m2
      have hnH : H p = none := back_none S m1 S1 hn
      obtain ⟨S3, m3⟩ := S2.set e3 (RD.mono (stp_hide hn m2) r1)
      have hz3 : p ∉ zs F (drop1 A i) := fun z => hz (zs_drop1 p z)
      obtain ⟨S4, m4⟩ := S3.setN h0 hz3 hp (rd.mono m3) e4
      refine ⟨_, _, rfl, oo _ _ _ S4 fun c u h n => ⟨mm c u h n, fun k z => ?_⟩⟩
      rcases List.mem_cons.mp z with z | z
      · cases z; rw [hnH] at h; cases h
      · exact n k (mem_drop1.mp (mem_drop1.mp z).1).1
  | f xs =>
    refine ⟨F, A, ρ, _, ρ1, S, e1, fun p vs H1 S1 h0 hz m1 hn hp rd => ?_⟩
    have npA : ∀ k, (k, p) ∉ A := fun k z => hz (mem_zs.mpr (.inr ⟨k, z⟩))
    cases pb with
    | v rb =>
      obtain ⟨d', ρ6, e6, e4⟩ := bind_ok e4
      obtain ⟨rfl, rfl⟩ := imm_ok e6
      refine ⟨F.hide p, A, ρ1, _, _, S1, e2, fun w H2 S2 m2 r2 => ?_⟩
      have mm := m1.trans m2
      obtain ⟨S3, m3⟩ := S2.setN h0 hz (m2 p _ hp npA) (rd.mono m2.hid) e3
      obtain ⟨S4, m4⟩ := S3.set e4 (RD.mono m3 r2)
      refine ⟨_, _, rfl, oo _ _ _ S4 fun c u h n => ⟨mm c u h n, fun k z => ?_⟩⟩
      rcases List.mem_cons.mp (mem_drop1.mp z).1 with z | z
      · cases z; rw [hn] at h; cases h
      · exact n k (mem_drop1.mp z).1
    | f ys =>
      refine ⟨F.hide p, A, ρ1, _, _, S1, e2, fun p2 vs2 H2 S2 h02 hz2 m2 hn2 hp2 rd2 => ?_⟩
      have mm := m1.trans m2
      have hp' : H2 p = some (.lst vs) := m2 p _ hp npA
      have ne : p2 ≠ p := fun z => by rw [z] at hn2; rw [hp] at hn2; cases hn2
      have hnH : H p2 = none := by
        cases q : H p2 with
        | none => rfl
        | some u =>
          by_cases hA : ∃ k, (k, p2) ∈ A
          · obtain ⟨k, hA⟩ := hA
            exact absurd (mem_zs.mpr (.inr ⟨k, hA⟩)) hz2
          · rw [m1 p2 u q fun k z => hA ⟨k, z⟩] at hn2; cases hn2
      have hz2F : p2 ∉ zs F A := fun z => hz2 (zs_hide.mpr (.inr z))
      have rd' : RDs (Gx X) (hid (zs ((F.hide p2).hide p) A) H2) vs xs := by
        have k : Same (hid (zs (F.hide p) A) H1) (hid (zs ((F.hide p).hide p2) A) H2) := stp_hide hn2 m2
        refine (rd.mono k).mono (hid_less fun c hc => ?_)
        rcases zs_hide.mp hc with rfl | hc
        · exact zs_hide.mpr (.inr (zs_hide.mpr (.inl rfl)))
        · rcases zs_hide.mp hc with rfl | hc
          · exact zs_hide.mpr (.inl rfl)
          · exact zs_hide.mpr (.inr (zs_hide.mpr (.inr hc)))
      have hzq : p ∉ zs (F.hide p2) A := fun z => by
        rcases zs_hide.mp z with z | z
        · exact ne z.symm
        · exact hz z
      obtain ⟨S3, m3⟩ := S2.swap.setN h0 hzq hp' rd' e3
      have hzq2 : p2 ∉ zs F ((i, p) :: drop1 A i) := fun z => by
        rcases mem_zs.mp z with z | ⟨k, z⟩
        · exact hz2F (mem_zs.mpr (.inl z))
        · rcases List.mem_cons.mp z with z | z
          · cases z; exact ne rfl
          · exact hz2F (mem_zs.mpr (.inr ⟨k, (mem_drop1.mp z).1⟩))
      have rd2' : RDs (Gx X) (hid (zs ((F.hide p2).hide p) A) H2) vs2 ys := rd2.mono (hid_less fun c hc => by
        rcases zs_hide.mp hc with rfl | hc
        · exact zs_hide.mpr (.inr (zs_hide.mpr (.inl rfl)))
        · rcases zs_hide.mp hc with rfl | hc
          · exact zs_hide.mpr (.inl rfl)
          · exact zs_hide.mpr (.inr (zs_hide.mpr (.inr hc))))
      obtain ⟨S4, m4⟩ := S3.setN h02 hzq2 hp2 (rd2'.mono m3) e4
      refine ⟨_, _, rfl, oo _ _ _ S4 fun c u h n => ⟨mm c u h n, fun k z => ?_⟩⟩
      rcases List.mem_cons.mp z with z | z
      · cases z; rw [hnH] at h; cases h
      · rcases List.mem_cons.mp (mem_drop1.mp z).1 with z | z
        · cases z; rw [hn] at h; cases h
        · exact n k (mem_drop1.mp z).1⟩
end Dv
namespace Dv
open PySem PySem.Spec PyProof.Rows L2
def lc2Loop (vs vs1 : List Nat) (g : IV → M Unit) (gt : M Bool) (fi1 : M (List IV)) (g1 : IV → M Unit) (gt1 : M Bool) (fe : ES) : List IV → List D → M (List D)
  | [], acc => M.ret acc
  | d :: ds, acc => M.bind (g d) fun _ => M.bind gt fun b => match b with
    | true => M.bind fi1 fun es => M.bind (wipeM vs1) fun _ => M.bind (lcLoop vs1 g1 gt1 fe es acc) fun acc' => M.bind (wipeM vs) fun _ => lc2Loop vs vs1 g gt fi1 g1 gt1 fe ds acc'
    | false => M.bind (wipeM vs) fun _ => lc2Loop vs vs1 g gt fi1 g1 gt1 fe ds acc
def nLc2 (vs vs1 : List Nat) (fi : M (List IV)) (g : IV → M Unit) (gt : M Bool) (fi1 : M (List IV)) (g1 : IV → M Unit) (gt1 : M Bool) (fe : ES) : M (List D) := M.bind fi fun ds => fun ρ => match okw vs ρ with
  | true => match lc2Loop vs vs1 g gt fi1 g1 gt1 fe ds [] (wipeR ρ vs) with
    | .ok acc ρ' => .ok acc (putB ρ vs ρ')
    | .ex e ρ' => .ex e (putB ρ vs ρ')
    | .no => .no
  | false => .no
theorem lc2_rd {G : Gp} {F : Fm} {vs vs1 sl sl1 : List Nat} {fi fi1 : M (List IV)} {g g1 : IV → M Unit} {gt gt1 : M Bool} {fe : ES} {σ : St} {H : Hp} {Q : VK} (hsl : ∀ j ∈ sl, j ∈ vs) (hv : ∀ j ∈ vs1, j ∈ vs) (hsl1 : ∀ j ∈ sl1, j ∈ vs1) (h : tN G F (nLc2 vs vs1 fi g gt fi1 g1 gt1 fe) σ H Q) :
    tLc2 (tI G F fi) (fun v σ H Q => ∃ F, tG G F sl g v σ H Q) (fun σ H Q => ∃ F, tT G F gt σ H Q) (fun σ H R => ∃ F, tI G F fi1 σ H R) (fun v σ H Q => ∃ F, tG G F sl1 g1 v σ H Q) (fun σ H Q => ∃ F, tT G F gt1 σ H Q) (fun σ H Q => ∃ F, tD G F fe σ H Q) vs vs1 σ H Q := by
  obtain ⟨A, ρ, res, ρ', S, e, q⟩ := h
  obtain ⟨ds, ρ1, e1, e⟩ := bind_ok e
  refine ⟨A, ρ, ds, ρ1, S, e1, fun J H1 S1 m1 wk D hD => ?_⟩
  cases ew : okw vs ρ1 with
  | false => rw [ew] at e; cases e
  | true =>
    rw [ew] at e
    dsimp only at e
    cases el : lc2Loop vs vs1 g gt fi1 g1 gt1 fe ds [] (wipeR ρ1 vs) with
    | no => rw [el] at e; cases e
    | ex x r => rw [el] at e; cases e
    | ok acc0 ρe =>
      rw [el] at e
      cases e
      have ha : ∀ i a, (i, a) ∈ A → i ∉ vs := fun i a hi hv => by
        have z := List.all_eq_true.mp ew i hv
        obtain ⟨xs, o | o⟩ := S1.own i a hi
        · rw [o] at z; cases z
        · rw [o] at z; cases z
      have ha1 : ∀ i a, (i, a) ∈ A → i ∉ vs1 := fun i a hi h1 => ha i a hi (hv i h1)
      have h0 := S1.h0 hD
      have hz := S1.zall.out hD
      have nD : ∀ i, (i, D) ∉ A := fun i z => hz (mem_zs.mpr (.inr ⟨i, z⟩))
      have hm : D ∈ zs (F.hide D) A := zs_hide.mpr (.inl rfl)
      have sm0 := Same.of_new (o := .lst []) hD
      have Sw : Sts G (F.hide D) A (L2.wipe σ vs) (wipeR ρ1 vs) (upd H1 D (.lst [])) := (S1.wipe ha).hide hD sm0 (by rw [upd_same]; exact fun z => nomatch z)
      refine ⟨fun i m H => ∃ ρi acc accV, m = ds.length - i ∧ i ≤ ds.length ∧ Sts G (F.hide D) A (L2.wipe σ vs) ρi H ∧ Stp A H1 H ∧ H D = some (.lst accV) ∧ RDs G (hid (zs (F.hide D) A) H) accV acc ∧ lc2Loop vs vs1 g gt fi1 g1 gt1 fe (ds.drop i) acc ρi = .ok res ρe,
        ⟨ds.length, wipeR ρ1 vs, [], [], by simp, Nat.zero_le _, Sw, Stp.of sm0, upd_same, .nil, by simpa using el⟩, ?_⟩
      rintro i m Hi ⟨ρi, acc, accV, rfl, hi, Si, mi, hDi, rdi, ei⟩
      have W := wk i Hi (zs (F.hide D) A) Si.zall (stp_hide hD mi)
      by_cases hlt : i < ds.length
      · obtain ⟨go, yl⟩ := W.1 ds[i] (List.getElem?_eq_getElem hlt)
        rw [List.drop_eq_getElem_cons hlt] at ei
        refine .inr ⟨go, fun H' => ∃ ρi acc accV, i + 1 ≤ ds.length ∧ Sts G (F.hide D) A (L2.wipe σ vs) ρi H' ∧ Stp A H1 H' ∧ H' D = some (.lst accV) ∧ RDs G (hid (zs (F.hide D) A) H') accV acc ∧ lc2Loop vs vs1 g gt fi1 g1 gt1 fe (ds.drop (i + 1)) acc ρi = .ok res ρe, fun H' ⟨ρn, an, av, a1, a2, a3, a4, a5, a6⟩ => ⟨ds.length - (i + 1), by omega, ρn, an, av, rfl, a1, a2, a3, a4, a5, a6⟩, fun x H' hy => ?_⟩
        obtain ⟨smy, rix⟩ := yl x H' hy
        have Sy := Si.same smy
        have my := mi.trans (Stp.of smy)
        obtain ⟨_, ρ2, g0, ei⟩ := bind_ok ei
        refine ⟨F.hide D, A, ρi, ds[i], ρ2, Sy, rix, g0, fun σ2 S2 m2 l2 k2 => ?_⟩
        rw [dropL_same hsl ha] at S2 m2
        have hw : L2.wipe σ2 vs = L2.wipe σ vs := by
          rw [wipe_eq (τ := σ2) (σ := L2.wipe σ vs) l2 fun j hj => k2 j fun z => hj (hsl j z)]
          exact wipe_eq (wipe_length σ vs) fun j hj => wipe_at hj
        refine ⟨hw, F.hide D, A, ρ2, ?_⟩
        obtain ⟨b, ρ3, g3, ei⟩ := bind_ok ei
        refine ⟨b, ρ3, S2, g3, fun H3 S3 m3 => ?_⟩
        have hDy : H' D = some (.lst accV) := smy D _ hDi
        have rdy := rdi.mono (Same.hid (Z := zs (F.hide D) A) smy)
        have h3 : H3 D = some (.lst accV) := m3 D _ hDy nD
        have my3 := my.trans m3
        have rd3 := rdy.mono (Stp.hid (F := F.hide D) m3)
        cases b with
        | false =>
          obtain ⟨_, ρ4, g4, ei⟩ := bind_ok ei
          cases g4
          show ∃ _, _
          exact ⟨_, acc, accV, hlt, hw ▸ S3.wipe ha, my3, h3, rd3, ei⟩
        | true =>
          obtain ⟨es, ρ4, g4, ei⟩ := bind_ok ei
          show ∃ _, _
          refine ⟨F.hide D, A, ρ3, es, ρ4, S3, g4, fun J1 H4 S4 m4 wk1 => ?_⟩
          obtain ⟨_, ρ5, g5, ei⟩ := bind_ok ei
          cases g5
          have h4 : H4 D = some (.lst accV) := m4 D _ h3 nD
          have my4 := my3.trans m4
          have rd4 := rd3.mono (Stp.hid (F := F.hide D) m4)
          have hw1 : L2.wipe (L2.wipe σ2 vs1) vs = L2.wipe σ vs := by
            rw [wipe_eq (τ := L2.wipe σ2 vs1) (σ := σ2) (wipe_length _ _) fun j hj => wipe_at fun z => hj (hv j z)]
            exact hw
          refine ⟨fun j k H => ∃ ρj acc accV, k = es.length - j ∧ j ≤ es.length ∧ Sts G (F.hide D) A (L2.wipe σ2 vs1) ρj H ∧ Stp A H1 H ∧ Same (hid (zs (F.hide D) A) H4) (hid (zs (F.hide D) A) H) ∧ H D = some (.lst accV) ∧ RDs G (hid (zs (F.hide D) A) H) accV acc ∧
            M.bind (lcLoop vs1 g1 gt1 fe (es.drop j) acc) (fun acc' => M.bind (wipeM vs) fun _ => lc2Loop vs vs1 g gt fi1 g1 gt1 fe (ds.drop (i + 1)) acc') ρj = .ok res ρe,
            ⟨es.length, wipeR ρ4 vs1, acc, accV, by simp, Nat.zero_le _, S4.wipe ha1, my4, Same.refl _, h4, rd4, by simpa using ei⟩, ?_⟩
          rintro j k Hj ⟨ρj, acj, acV, rfl, hj, Sj, mj, vj, hDj, rdj, ej⟩
          have W1 := wk1 j Hj (zs (F.hide D) A) Sj.zall vj
          by_cases hlj : j < es.length
          · obtain ⟨go1, yl1⟩ := W1.1 es[j] (List.getElem?_eq_getElem hlj)
            rw [List.drop_eq_getElem_cons hlj] at ej
            obtain ⟨ac1, ρ6, ej1, ej2⟩ := bind_ok ej
            refine .inr ⟨go1, fun H => ∃ ρj acc accV, j + 1 ≤ es.length ∧ Sts G (F.hide D) A (L2.wipe σ2 vs1) ρj H ∧ Stp A H1 H ∧ Same (hid (zs (F.hide D) A) H4) (hid (zs (F.hide D) A) H) ∧ H D = some (.lst accV) ∧ RDs G (hid (zs (F.hide D) A) H) accV acc ∧
              M.bind (lcLoop vs1 g1 gt1 fe (es.drop (j + 1)) acc) (fun acc' => M.bind (wipeM vs) fun _ => lc2Loop vs vs1 g gt fi1 g1 gt1 fe (ds.drop (i + 1)) acc') ρj = .ok res ρe, fun H ⟨ρn, an, av, a1, a2, a3, a4, a5, a6, a7⟩ => ⟨es.length - (j + 1), by omega, ρn, an, av, rfl, a1, a2, a3, a4, a5, a6, a7⟩, fun x2 H5 hy2 => ?_⟩
            obtain ⟨smy2, rix2⟩ := yl1 x2 H5 hy2
            have Sy2 := Sj.same smy2
            obtain ⟨_, ρ7, g7, ej1⟩ := bind_ok ej1
            refine ⟨F.hide D, A, ρj, es[j], ρ7, Sy2, rix2, g7, fun σ3 S5 m5 l5 k5 => ?_⟩
            rw [dropL_same hsl1 ha1] at S5 m5
            have hw3 : L2.wipe σ3 vs1 = L2.wipe σ2 vs1 := by
              rw [wipe_eq (τ := σ3) (σ := L2.wipe σ2 vs1) l5 fun j hj => k5 j fun z => hj (hsl1 j z)]
              exact wipe_eq (wipe_length σ2 vs1) fun j hj => wipe_at hj
            refine ⟨hw3, F.hide D, A, ρ7, ?_⟩
            obtain ⟨b2, ρ8, g8, ej1⟩ := bind_ok ej1
            refine ⟨b2, ρ8, S5, g8, fun H6 S6 m6 => ?_⟩
            have hD5 : H5 D = some (.lst acV) := smy2 D _ hDj
            have h6 : H6 D = some (.lst acV) := m6 D _ hD5 nD
            have rd6 := (rdj.mono (Same.hid (Z := zs (F.hide D) A) smy2)).mono (Stp.hid (F := F.hide D) m6)
            have v6 := (vj.trans (Same.hid (Z := zs (F.hide D) A) smy2)).trans (Stp.hid (F := F.hide D) m6)
            have mj6 := (mj.trans (Stp.of smy2)).trans m6
            cases b2 with
            | false =>
              obtain ⟨_, ρ9, g9, ej1⟩ := bind_ok ej1
              cases g9
              show ∃ _, _
              refine ⟨_, acj, acV, hlj, hw3 ▸ S6.wipe ha1, mj6, v6, h6, rd6, ?_⟩
              unfold M.bind
              rw [ej1]
              exact ej2
            | true =>
              obtain ⟨r, ρ9, g9, ej1⟩ := bind_ok ej1
              obtain ⟨y, ρ10, g10, ej1⟩ := bind_ok ej1
              obtain ⟨rfl, rfl⟩ := imm_ok g10
              obtain ⟨_, ρ11, g11, ej1⟩ := bind_ok ej1
              obtain ⟨l11, rfl⟩ := opt_ok g11
              obtain ⟨_, ρ12, g12, ej1⟩ := bind_ok ej1
              cases g12
              show ∃ _, _
              refine ⟨F.hide D, A, ρ8, _, _, S6, g9, fun v H7 S7 m7 r7 => ?_⟩
              have h7 : H7 D = some (.lst acV) := m7 D _ h6 nD
              have rd7 := rd6.mono (Stp.hid (F := F.hide D) m7)
              refine ⟨acV, h7, by rw [rd7.len]; exact room_ok l11, _, acj ++ [y], acV ++ [v], hlj, hw3 ▸ (S7.wipe ha1).hupd h0 hz, stp_upd hD (mj6.trans m7), ?_, upd_same, ?_, ?_⟩
              · rw [hid_upd hm]; exact v6.trans (Stp.hid (F := F.hide D) m7)
              · rw [hid_upd hm]; exact rd7.app (.cons r7 .nil)
              · unfold M.bind
                rw [ej1]
                exact ej2
          · have ed : j = es.length := by omega
            subst ed
            rw [List.drop_length] at ej
            obtain ⟨ac1, ρ6, ej1, ej2⟩ := bind_ok ej
            obtain ⟨rfl, rfl⟩ := ret_ok ej1
            obtain ⟨_, ρ7, g7, ej2⟩ := bind_ok ej2
            cases g7
            exact .inl ⟨W1.2 (Nat.le_refl _), _, acj, acV, hlt, hw1 ▸ Sj.wipe ha, mj, hDj, rdj, ej2⟩
      · have ed : i = ds.length := by omega
        subst ed
        rw [List.drop_length] at ei
        obtain ⟨rfl, rfl⟩ := ret_ok ei
        have mb : Same (hid (zs (F.hide D) A) (upd H1 D (.lst []))) (hid (zs (F.hide D) A) Hi) := fun a o e => by
          obtain ⟨e1, e2⟩ := hid_some e
          have ne : a ≠ D := fun z => e1 (zs_hide.mpr (.inl z))
          rw [upd_ne ne] at e2
          exact hid_of e1 (mi a o e2 fun i z => e1 (mem_zs.mpr (.inr ⟨i, z⟩)))
        exact .inl ⟨W.2 (Nat.le_refl _), q D accV Hi (Si.back (S1.hide hD sm0 (by rw [upd_same]; exact fun z => nomatch z)) mb ha ew) h0 hz (m1.trans mi) (back_none S m1 S1 hD) hDi rdi⟩
section
variable {X : Cx} {elt tg iter tg1 iter1 : Expr} {ifs ifs1 : List Expr} {scope : Scope} {own : List (Str × Nat)} {pos spos py : Pos} {fi fi1 : M (List IV)} {g g1 : IV → M Unit} {gt gt1 : M Bool} {fe : ES} {sl sl1 vs1 : List Nat} {y : Str} {i : Nat}
theorem DI.any {f : M (List IV)} (h : DI X tg iter f) : PI X tg iter (fun σ H R => ∃ F, tI (Gx X) F f σ H R) := ⟨fun pins s σ H R I ⟨F, q⟩ => (h.run F).run pins s σ H R I q⟩
theorem dn_lc2 (hc : X.calm = true) (hN : X.N.Nodup) (hi : DI X tg iter fi) (ok : BlkOk X.N X.env.scope scope own) (hv : ∀ j ∈ vs1, j ∈ own.map (·.2)) (hsl : ∀ j ∈ sl, j ∈ own.map (·.2)) (hsl1 : ∀ j ∈ sl1, j ∈ vs1)
    (hg : ∀ (s : Shared) (H : Hp) (C : Addr) (cl : List (Str × Addr)) (fp : List Addr), DG (X.blk s H scope (compEnvC scope cl C X.env) fp) tg sl g) (ht : ∀ (s : Shared) (H : Hp) (C : Addr) (cl : List (Str × Addr)) (fp : List Addr), DTs (X.blk s H scope (compEnvC scope cl C X.env) fp) ifs gt)
    (hi1 : ∀ (s : Shared) (H : Hp) (C : Addr) (cl : List (Str × Addr)) (fp : List Addr), DI (X.blk s H scope (compEnvC scope cl C X.env) fp) tg1 iter1 fi1)
    (hg1 : ∀ (s : Shared) (H : Hp) (C : Addr) (cl : List (Str × Addr)) (fp : List Addr), DG (X.blk s H scope (compEnvC scope cl C X.env) fp) tg1 sl1 g1) (ht1 : ∀ (s : Shared) (H : Hp) (C : Addr) (cl : List (Str × Addr)) (fp : List Addr), DTs (X.blk s H scope (compEnvC scope cl C X.env) fp) ifs1 gt1)
    (he : ∀ (s : Shared) (H : Hp) (C : Addr) (cl : List (Str × Addr)) (fp : List Addr), DE (X.blk s H scope (compEnvC scope cl C X.env) fp) elt fe) (hs : ∀ x, foldedSetIterable iter X.env x = pure x := by intro _; rfl) (hs1 : ∀ env x, foldedSetIterable iter1 env x = pure x := by intro _ _; rfl) :
    DN X (.ListComp elt [⟨tg, iter, ifs, 0⟩, ⟨tg1, iter1, ifs1, 0⟩] scope pos) (nLc2 (own.map (·.2)) vs1 fi g gt fi1 g1 gt1 fe) := ⟨fun F => pe_imp (pe_lc2 hc hN (hi.run F) ok hv (fun s H C cl fp => (hg s H C cl fp).any) (fun s H C cl fp => (ht s H C cl fp).any) (fun s H C cl fp => (hi1 s H C cl fp).any) (fun s H C cl fp => (hg1 s H C cl fp).any) (fun s H C cl fp => (ht1 s H C cl fp).any) (fun s H C cl fp => (he s H C cl fp).any) hs hs1) fun σ H Q h => lc2_rd hsl hv hsl1 h⟩
theorem ps_lc2N (hc : X.calm = true) (hN : X.N.Nodup) (hy : X.N[i]? = some y) (hyl : X.env.scope.names.lookup y = some .local)
    (hsw : swapsWith (.ListComp elt [⟨tg, iter, ifs, 0⟩, ⟨tg1, iter1, ifs1, 0⟩] scope pos) (some (.Name y py)) spos.line X.env = pure true) (hi : DI X tg iter fi) (ok : BlkOk X.N X.env.scope scope own) (hv : ∀ j ∈ vs1, j ∈ own.map (·.2)) (hsl : ∀ j ∈ sl, j ∈ own.map (·.2)) (hsl1 : ∀ j ∈ sl1, j ∈ vs1)
    (hg : ∀ (s : Shared) (H : Hp) (C : Addr) (cl : List (Str × Addr)) (fp : List Addr), DG (X.blk s H scope (compEnvC scope cl C X.env) fp) tg sl g) (ht : ∀ (s : Shared) (H : Hp) (C : Addr) (cl : List (Str × Addr)) (fp : List Addr), DTs (X.blk s H scope (compEnvC scope cl C X.env) fp) ifs gt)
    (hi1 : ∀ (s : Shared) (H : Hp) (C : Addr) (cl : List (Str × Addr)) (fp : List Addr), DI (X.blk s H scope (compEnvC scope cl C X.env) fp) tg1 iter1 fi1)
    (hg1 : ∀ (s : Shared) (H : Hp) (C : Addr) (cl : List (Str × Addr)) (fp : List Addr), DG (X.blk s H scope (compEnvC scope cl C X.env) fp) tg1 sl1 g1) (ht1 : ∀ (s : Shared) (H : Hp) (C : Addr) (cl : List (Str × Addr)) (fp : List Addr), DTs (X.blk s H scope (compEnvC scope cl C X.env) fp) ifs1 gt1)
    (he : ∀ (s : Shared) (H : Hp) (C : Addr) (cl : List (Str × Addr)) (fp : List Addr), DE (X.blk s H scope (compEnvC scope cl C X.env) fp) elt fe) (hs : ∀ x, foldedSetIterable iter X.env x = pure x := by intro _; rfl) (hs1 : ∀ env x, foldedSetIterable iter1 env x = pure x := by intro _ _; rfl) :
    ∀ F, PS X (.Assign [.Name y py] (.ListComp elt [⟨tg, iter, ifs, 0⟩, ⟨tg1, iter1, ifs1, 0⟩] scope pos) spos) (tAsg (tN (Gx X) F (nLc2 (own.map (·.2)) vs1 fi g gt fi1 g1 gt1 fe)) (gName i)) := fun F =>
  ps_imp (ps_setLc2 hc hN hy hyl hsw (hi.run F) ok hv (fun s H C cl fp => (hg s H C cl fp).any) (fun s H C cl fp => (ht s H C cl fp).any) (fun s H C cl fp => (hi1 s H C cl fp).any) (fun s H C cl fp => (hg1 s H C cl fp).any) (fun s H C cl fp => (ht1 s H C cl fp).any) (fun s H C cl fp => (he s H C cl fp).any) hs hs1) fun D σ H h => lc2_rd hsl hv hsl1 h
end
end Dv
namespace Dv
open PySem PySem.Spec PyProof.Rows L2
section
variable {X : Cx} {e a b o : Expr} {es : List Expr} {fs : M (List RV)} {fa fb : ES} {pos p apos cpos : Pos}
def place (d : D) : List D → Option Nat
  | [] => none
  | x :: xs => if eqb x d then some 0 else match place d xs with
    | some j => some (j + 1)
    | none => none
theorem place_ok {d : D} : ∀ {xs : List D} {j : Nat}, place d xs = some j → (∃ x, xs[j]? = some x ∧ eqb x d = true) ∧ ∀ m x, m < j → xs[m]? = some x → eqb x d = false
  | [], j, h => by cases h
  | x :: xs, j, h => by
    unfold place at h
    by_cases z : eqb x d = true
    · rw [if_pos z] at h
      cases h
      exact ⟨⟨x, rfl, z⟩, fun m _ hm => absurd hm (Nat.not_lt_zero m)⟩
    · rw [if_neg z] at h
      split at h
      · rename_i k hk
        cases h
        obtain ⟨⟨y, h1, h2⟩, h3⟩ := place_ok hk
        refine ⟨⟨y, by simpa using h1, h2⟩, fun m w hm hw => ?_⟩
        cases m with
        | zero => simp at hw; subst hw; simpa using z
        | succ m => exact h3 m w (by omega) (by simpa using hw)
      · cases h
def gIndex (x y : D) : Option D := match x with
  | .lst xs => match pl 50 (.lst xs) && pl 50 y, place y xs with
    | true, some j => some (.int (j : Nat))
    | _, _ => none
  | .tup xs => match asInts xs, y with
    | some ns, .int k => if k ∈ ns then some (.int (ns.idxOf k : Nat)) else none
    | _, _ => none
  | _ => none
theorem pds_at : ∀ (xs : List D) (j : Nat), (pds xs)[j]? = (xs[j]?).map pd
  | [], j => by simp [pds]
  | x :: xs, 0 => by simp [pds]
  | x :: xs, j + 1 => by simp [pds, pds_at xs j]
theorem pls_mem {n : Nat} : ∀ {xs : List D}, pls n xs = true → ∀ x ∈ xs, pl n x = true
  | [], _, x, hx => by cases hx
  | y :: ys, h, x, hx => by
    rw [pls.eq_def] at h
    obtain ⟨h1, h2⟩ := Bool.and_eq_true_iff.mp h
    rcases List.mem_cons.mp hx with rfl | hx
    · exact h1
    · exact pls_mem h2 x hx
def rIdxT (K : PySem.W.Frag) : V → List V → Hp → VK → Prop := fun x xs H Q => ∃ (p : Addr) (ns : List Int) (k : Int), x = .ref p ∧ xs = [.int k] ∧ SqT K H p (ns.map V.int) ∧ k ∈ ns ∧ Q (.int (ns.idxOf k : Nat)) H
theorem mt_idxT : MtR X "tuple.index" (rIdxT X.K) := by
  rintro pins s σ H x xs v us Q I rx rxs ⟨p, ns, k, rfl, rfl, hq, hk, q⟩
  cases rx
  cases rxs with
  | cons r rr =>
    cases rr
    obtain ⟨t, rfl⟩ := r
    obtain ⟨its, rv, pt, _⟩ := I.tuple hq
    exact PySem.SeqAt.tuple_index_ints (show s.heap.IsTuple p its.toArray from pt) (by simpa using ints_of_vals rv) hk ⟨.int _, H, I.tok _, ⟨_, rfl⟩, q⟩
def tBMT (K : PySem.W.Frag) (r : V → List V → Hp → VK → Prop) (to : TE) (t : TA) : TE := fun σ H Q => to σ H fun x H1 => (∃ a vs, x = .ref a ∧ TupV K H1 a vs) ∧ t σ H1 fun xs H2 => r x xs H2 Q
theorem tupV_is {pins : List (Addr × Obj)} {σ : L2.St} {H : Hp} {s : Shared} {p : Addr} {vs : List V} (I : Inv X pins σ H s) (h : TupV X.K H p vs) : s.TypeIs (.ref p) "tuple" ∧ ∀ a, Value.ref p = .ref a → ∃ ob, s.heap.get? a = some ob ∧ ob.dict = none := by
  obtain ⟨its, rv, pt, _⟩ := I.tuple h.sq
  refine ⟨pt.typeIs, fun a e => ?_⟩
  cases e
  rcases h with ⟨o, h, d⟩ | ⟨o, its, n, h1, h2, h3, _⟩
  · exact ⟨o, (I.hok p _ h).1, d⟩
  · exact ⟨o, I.kIn p o h1, h3⟩
theorem pe_bmT {to : TE} {t : TA} {name : Str} {id : String} {r : V → List V → Hp → VK → Prop} (slot : Slot "tuple" name id) (hty : typeOf (.builtin id) = pure (.type "method_descriptor")) (hm : MtR X id r) (ho : PE X o to) (ha : PA X (e :: es) t)
    (hbase : attributeBase o name X.env (eval o X.env) = eval o X.env := by rfl)
    (hfew : ((backTo cpos (starEach (e :: es) X.env)).all (fun x => !x.1) && (backToKw cpos (keywordEach [] X.env)).all (fun x => x.1.isSome)
      && decide ((e :: es).length + ([] : List Keyword).length + (if ([] : List Keyword).isEmpty then 0 else 1) < 30)) = true := by rfl)
    (hline : (apos.endLine == cpos.line) = true := by rfl) (hs : starEach (e :: es) X.env = (false, eval e X.env) :: starEach es X.env := by rfl) (hplain : (backTo cpos (starEach es X.env)).any (·.1) = false := by rfl) :
    PE X (.Call (.Attribute o name apos) (e :: es) [] cpos) (tBMT X.K r to t) := by
  constructor
  intro pins s σ H Q I h
  apply wpAny_Call_method_late hbase hfew hline rfl
  apply thn (ho.run pins s σ H _ I h)
  rintro v s1 ⟨x, H1, I1, r1, ⟨pa, vs, rfl, tv⟩, q1⟩
  obtain rfl : v = Value.ref pa := r1
  obtain ⟨h1, h2⟩ := tupV_is I1 tv
  refine ⟨"tuple", id, F.plainAttrs_tuple, slot, hty, h1, h2, ?_⟩
  have hA := ha.run cpos pins s1 σ H1 _ I1 q1
  rw [hs] at hA ⊢
  apply Calls.callWith_builtin (by show (false || (backTo cpos (starEach es X.env)).any (·.1)) = false; rw [hplain] <;> rfl)
  apply Calls.evalArgs_plain
  apply thn hA
  rintro us s2 ⟨ws, H2, I2, r2, q2⟩
  exact hm pins s2 σ H2 (.ref pa) ws (.ref pa) us Q I2 rfl r2 q2
def gIndex2 (x0 x y : D) : Option D := match x0, x with
  | .lst _, .lst _ => gIndex x y
  | .tup _, .tup _ => gIndex x y
  | _, _ => none
def eIdx (fa fb : ES) : ES := M.bind fa fun ra => M.bind (val ra) fun x0 => M.bind fb fun rb => M.bind (val ra) fun x => M.bind (val rb) fun y => M.bind (M.opt (gIndex2 x0 x y)) fun d => M.ret (.im d)
theorem de_index (hu : X.A.units + 65 < cLine) (ho : DE X o fa) (ha : DE X e fb)
    (hbase : attributeBase o "index" X.env (eval o X.env) = eval o X.env := by rfl)
    (hfew : ((backTo cpos (starEach [e] X.env)).all (fun x => !x.1) && (backToKw cpos (keywordEach [] X.env)).all (fun x => x.1.isSome)
      && decide ([e].length + ([] : List Keyword).length + (if ([] : List Keyword).isEmpty then 0 else 1) < 30)) = true := by rfl)
    (hline : (apos.endLine == cpos.line) = true := by rfl) (hs : starEach [e] X.env = (false, eval e X.env) :: starEach [] X.env := by rfl) :
    DE X (.Call (.Attribute o "index" apos) [e] [] cpos) (eIdx fa fb) := ⟨fun F =>
  pe_imp (pe_orE (pe_bm PySem.F.plainAttrs_list PySem.F.slot_list_index PySem.F.type_list_index (mt_indexD hu) (ho.run F) (pa_cons (ha.run F) pa_nil hs) hbase hfew hline hs rfl) (pe_bmT PySem.F.slot_tuple_index PySem.F.type_tuple_index mt_idxT (ho.run F) (pa_cons (ha.run F) pa_nil hs) hbase hfew hline hs rfl)) fun σ H Q ⟨A, ρ, rr, ρ', S, e, q⟩ => by
  obtain ⟨ra, ρ1, e1, e⟩ := bind_ok e
  obtain ⟨x0, ρ3, e3, e⟩ := bind_ok e
  obtain ⟨l0, rfl⟩ := val_ok e3
  obtain ⟨rb, ρ2, e2, e⟩ := bind_ok e
  obtain ⟨x, ρ3, e3, e⟩ := bind_ok e
  obtain ⟨l3, rfl⟩ := val_ok e3
  obtain ⟨y, ρ4, e4, e⟩ := bind_ok e
  obtain ⟨l4, rfl⟩ := val_ok e4
  obtain ⟨d, ρ5, e5, e⟩ := bind_ok e
  obtain ⟨l5, rfl⟩ := opt_ok e5
  obtain ⟨rfl, rfl⟩ := ret_ok e
  unfold gIndex2 at l5
  split at l5
  · rename_i ys xs
    unfold gIndex at l5
    dsimp only at l5
    split at l5
    · rename_i j hp hj
      cases l5
      obtain ⟨p1, p2⟩ := Bool.and_eq_true_iff.mp hp
      refine .inl ⟨A, ρ, ra, _, S, e1, fun v1 H1 S1 m1 r1 => ?_⟩
      obtain ⟨a0, vs0, rfl, h0, _⟩ := (look_rt S1 r1 l0).lst
      refine ⟨.inl ⟨rfl, vs0, h0⟩, A, _, rb, _, S1, e2, fun v2 H2 S2 m2 r2 => ?_⟩
      have rx := look_rt S2 (r1.same m2.hid) l3
      have ry := look_rt S2 r2 l4
      obtain ⟨⟨z, hz1, hz2⟩, hno⟩ := place_ok hj
      have px := pl_lst (n := 49) p1
      have zx := pls_mem px
      refine ⟨a0, v2, pd y, _, j, pd z, rfl, rfl, pl_dp 50 _ _ p1 rx.full, pl_dp 50 y v2 p2 ry.full, pl_shaped p1 (by decide), pl_shaped p2 (by decide), by rw [pds_at, hz1]; rfl, ?_, fun m z' hm hz' => ?_, q _ H2 S2 (m1.trans m2) (.int _)⟩
      · rw [eqv_pd 49 50 z y (zx z (List.mem_of_getElem? hz1)) p2]; exact hz2
      · rw [pds_at] at hz'
        obtain ⟨w, hw, rfl⟩ := Option.map_eq_some_iff.mp hz'
        rw [eqv_pd 49 50 w y (zx w (List.mem_of_getElem? hw)) p2]
        exact hno m w hm hw
    · cases l5
  · rename_i ys xs
    unfold gIndex at l5
    dsimp only at l5
    split at l5
    · rename_i ns k hi
      by_cases hk : k ∈ ns
      · rw [if_pos hk] at l5
        cases l5
        have ex := asInts_eq hi
        subst ex
        refine .inr ⟨A, ρ, ra, _, S, e1, fun v1 H1 S1 m1 r1 => ?_⟩
        obtain ⟨a0, vs0, rfl, h0, _⟩ := (look_rt S1 r1 l0).tup
        refine ⟨⟨a0, vs0, rfl, h0⟩, A, _, rb, _, S1, e2, fun v2 H2 S2 m2 r2 => ?_⟩
        obtain ⟨a1, vs1, ea, h1, h2⟩ := (look_rt S2 (r1.same m2.hid) l3).tup
        cases ea
        have ev := h2.ints
        subst ev
        have er := (look_rt S2 r2 l4).int
        subst er
        exact ⟨a0, ns, k, rfl, rfl, h1.sq, hk, q _ H2 S2 (m1.trans m2) (.int _)⟩
      · rw [if_neg hk] at l5; cases l5
    · cases l5
  · cases l5⟩
def nRep (f : M (List D)) (fb : ES) : M (List D) := M.bind f fun xs => M.bind fb fun rb => M.bind (val rb) fun d => M.bind (M.opt (isInt d)) fun k => M.opt (if (rangeOk k && decide (xs.length * k.toNat ≤ 1000000)) = true then some (List.replicate k.toNat xs).flatten else none)
theorem RDs.rep {G : Gp} {H : Hp} {vs : List V} {ds : List D} (r : RDs G H vs ds) : ∀ k : Nat, RDs G H (List.replicate k vs).flatten (List.replicate k ds).flatten
  | 0 => .nil
  | k + 1 => by
    rw [List.replicate_succ, List.replicate_succ, List.flatten_cons, List.flatten_cons]
    exact r.app (RDs.rep r k)
theorem dn_rep {f : M (List D)} (ha : DN X a f) (hb : DE X b fb) : DN X (.BinOp a .Mult b pos) (nRep f fb) := ⟨fun F => pe_imp (pe_op op_rep (ha.run F) (pe_any hb.run)) fun σ H Q ⟨A, ρ, rr, ρ', S, e, q⟩ => by
  obtain ⟨xs, ρ1, e1, e⟩ := bind_ok e
  obtain ⟨rb, ρ2, e2, e⟩ := bind_ok e
  obtain ⟨y, ρ4, e4, e⟩ := bind_ok e
  obtain ⟨l4, rfl⟩ := val_ok e4
  obtain ⟨k, ρ5, e5, e⟩ := bind_ok e
  obtain ⟨l5, rfl⟩ := opt_ok e5
  obtain ⟨l6, rfl⟩ := opt_ok e
  by_cases hk : (rangeOk k && decide (xs.length * k.toNat ≤ 1000000)) = true
  · rw [if_pos hk] at l6
    cases l6
    obtain ⟨k1, k2⟩ := Bool.and_eq_true_iff.mp hk
    obtain ⟨b1, b2⟩ := rangeOk_of k1
    have b3 := of_decide_eq_true k2
    have ei := isInt_ok l5
    subst ei
    refine ⟨A, ρ, xs, ρ1, S, e1, fun p vs H1 S1 h0 hz m1 hn hp rd => ⟨F.hide p, A, ρ1, rb, _, S1, e2, fun v2 H2 S2 m2 r2 => ?_⟩⟩
    have npA : ∀ k, (k, p) ∉ A := fun k z => hz (mem_zs.mpr (.inr ⟨k, z⟩))
    have rd2 := rd.mono (m2.hid (F := F.hide p))
    refine ⟨p, k, vs, rfl, (look_rt S2 r2 l4).int, m2 p _ hp npA, by omega, by omega, by rw [rd.len]; exact len_line b3, fun p2 hp2 => ?_⟩
    have rd3 : RDs (Gx X) (hid (zs F A) H2) vs xs := rd2.mono show_same
    exact fresh_list S2.show (m1.trans m2) (rd3.rep k.toNat) hp2 (back_none S (m1.trans m2) S2.show hp2) q
  · rw [if_neg hk] at l6; cases l6⟩
end
end Dv
namespace Dv
open PySem PySem.Spec PyProof.Rows L2
section
variable {X : Cx}
def rSortedTI (K : PySem.W.Frag) : List V → Hp → VK → Prop := fun vs H Q => ∃ (a : Addr) (ns : List Int), vs = [V.ref a] ∧ SqT K H a (ns.map V.int) ∧ ∀ (ms : List Int) (q : Addr), ms.Perm ns → ms.Pairwise (· ≤ ·) → H q = none → Q (.ref q) (upd H q (.lst (ms.map V.int)))
theorem cr_sortedTI : CallR X (.builtin "sorted") (rSortedTI X.K) := by
  rintro pins s σ H vs us Q I r ⟨a, ns, rfl, hs, q⟩
  obtain ⟨its, rv, pt, hz⟩ := I.tuple hs
  rw [Vals.ref1 r]
  have hi := rv.ints
  have hz2 : its.length ≤ sizeLine := by rw [← rv.length]; exact hz
  obtain ⟨o, ho, hc, n, hd⟩ := pt
  apply Calls.call_function_entry kind_sorted plain_sorted entry_sorted (args_sorted1 _)
  unfold Builtin.«sorted»
  apply wpAny_bind (m := checkCount "sorted" 1 1 _)
  apply wpAny_pure
  apply wpAny_bind
  apply wpAny_collect_seq a (.inr rfl) ho hc hd ?_ (by simpa using hz2)
  intro h' hk
  have I1 : Inv X pins σ H { s with heap := h' } := I.kept (t' := s.toks) hk
  have el : its.toArray.toList = its := by simp
  rw [el]
  apply wpAny_bind
  apply wpAny_newList ?_ hz2
  have hoL : (h'.push (seqObj "list" its.toArray 0)).get? h'.objs.size = some (seqObj "list" its.toArray 0) := Heap.get?_push_size _ rfl
  show wpAny _ _ _ _ _ { s with heap := h'.push (seqObj "list" its.toArray 0) }
  refine wpAny_bind (wpAny_holding (wpAny_call_entry slot_list_sort ⟨_, hoL, rfl⟩ entry_list_sort (SrtO.list_sort_ord SrtO.swo_int hoL hz2 (fun h2 => SrtO.ints_sortable hi h2) fun out h1 h2 => ⟨_, rfl, ?_⟩) (args_list_sort _)))
  apply wpAny_pure
  obtain ⟨k1, k2, k3⟩ := SrtO.ints_out hi h1 h2
  refine ⟨_, rfl, ?_⟩
  obtain ⟨ep, he'⟩ := sortedHeap_at (out := out.toArray) hoL
  have hlen : ((out.map SrtO.iv).map V.int).length ≤ sizeLine := by
    rw [List.length_map, k2.length_eq]
    rw [List.length_map] at hz
    exact hz
  have keep : ∀ b u, h'.get? b = some u → (sortedHeap (h'.push (seqObj "list" its.toArray 0)) h'.objs.size its out.toArray).get? b = some u := fun b u e => by
    have hb := Heap.lt_size e
    rw [sortedHeap_old (Nat.ne_of_lt hb) (by rw [Heap.size_push]; exact Nat.lt_succ_of_lt hb)]
    exact Heap.get?_push_of_some _ e
  exact ⟨.ref _, upd H h'.objs.size (.lst ((out.map SrtO.iv).map V.int)), I1.laid (t' := s.toks) keep (Nat.le_refl _) ⟨hlen, out, ep, vals_of_ints k1, he'⟩, rfl, q _ _ k2 k3 (I1.hok.fresh (Nat.le_refl _))⟩
def gSortedTI : List D → Option (List D)
  | [.tup xs] => match asInts xs with
    | some ns => some (iD (sortI ns))
    | none => none
  | [.lst xs] => match asInts xs with
    | some ns => some (iD (sortI ns))
    | none => none
  | _ => none
theorem cn_sortedTI : CallN X (.builtin "sorted") gSortedTI := ⟨fun vs H Q => rSortedI X.K vs H Q ∨ rSortedTI X.K vs H Q, fun pins s σ H vs us Q I r h => by
    rcases h with h | h
    · exact cr_sortedI pins s σ H vs us Q I r h
    · exact cr_sortedTI pins s σ H vs us Q I r h, fun Z H xs ds es Q z r e q => by
  unfold gSortedTI at e
  split at e
  · split at e
    · rename_i ns e1
      cases e
      have ex := asInts_eq e1
      subst ex
      obtain ⟨v, rfl, r1⟩ := r.one
      obtain ⟨a, vs, rfl, h1, h2⟩ := r1.tup
      have ev := h2.ints
      subst ev
      refine .inr ⟨a, ns, rfl, h1.sq, fun ms p k1 k2 hp => ?_⟩
      have em : ms = sortI ns := sorted_uniq (k1.trans (sortI_perm ns).symm) k2 (sortI_sorted ns)
      subst em
      exact q p _ hp (RDs.map_int _)
    · cases e
  · split at e
    · rename_i ns e1
      cases e
      have ex := asInts_eq e1
      subst ex
      obtain ⟨v, rfl, r1⟩ := r.one
      obtain ⟨a, vs, rfl, h1, h2⟩ := r1.lst
      have ev := h2.ints
      subst ev
      refine .inl ⟨a, ns, rfl, h1, fun ms p k1 k2 hp => ?_⟩
      have em : ms = sortI ns := sorted_uniq (k1.trans (sortI_perm ns).symm) k2 (sortI_sorted ns)
      subst em
      exact q p _ hp (RDs.map_int _)
    · cases e
  · cases e⟩
end
end Dv
namespace Dv
open PySem PySem.Spec PyProof.Rows L2
def s_one_of : SS := (sRet (eBin gIx (eVar 1) (eUser F_draw (aCons (eVar 0) (aCons (eCall gLen (aCons (eVar 1) aNil)) aNil)))))
def F_one_of : FD := defF 2 2 s_one_of
theorem one_of_ok {xs items : List D} (hb : BagOk xs) (h0 : items ≠ []) (hl : items.length < 1000000) : ∃ d ys, d ∈ items ∧ F_one_of [.bo xs, .im (.lst items)] = some (.im d, [some ys]) ∧ BagOk ys := by
  have hp : 0 < items.length := List.length_pos_iff.mpr h0
  obtain ⟨r, ys, e, r0, r1, hy⟩ := draw_ok (many := (items.length : Int)) hb (by omega) (by omega)
  obtain ⟨d, hd, g⟩ := ix_nat (xs := items) r0 (by omega)
  have l : gLen [.lst items] = some (.int (items.length : Int)) := rfl
  refine ⟨d, ys, hd, ?_, hy⟩
  conv => lhs; simp only [defF, runF, entry, bos, sSeq, sNil, sIf, sSet, sOwn, sSetL, sPar, sRet, sRetL, sRetN, sExpr, M.bind, M.ret, M.opt, val, look, imm, vals, looks, imms, eVar, eC, eBin, eUn, eCall, eN, eTup, nLst, nCall, aNil, aCons, eAnd, eOr, eNot, eIf, eChain, eSl, oSome, oNone, eTupRg, nLstRg, rOne, rTwo, eMt, eDict0, bVal, bCmp, bBl, bAnd, bOr, bNot, bYes, isBl, truth, Dv.isInt, setIm, setOw, lAt, lPut, eUser, nUser, uCall, apart, noAl, toSVs, toSV, putBack, bosAt, allIm, iSeq, iCall, iCallI, sFor, gSet, gTupD, gsCons, gsNil, gsCons, wipeR, okw, putB, e_lt, e_le, e_gt, e_ge, e_sub, e_addI, gNeg, gInt, List.length_cons, List.length_nil, List.map_cons, List.map_nil, List.cons_append, List.nil_append, List.getElem?_cons_zero, List.getElem?_cons_succ, List.getElem?_nil, List.replicate, List.set_cons_zero, List.set_cons_succ, List.all_cons, List.all_nil, decide_true, decide_false, Nat.sub_self, Nat.reduceAdd, Nat.reduceSub, Nat.reduceEqDiff, Nat.reduceBNe, Bool.not_true, Bool.not_false, Bool.and_true, Bool.true_and, Bool.and_self, Option.getD_some, Option.getD_none, if_true, if_false, ↓reduceIte, F_one_of, s_one_of, e, l, g]
def s_turn : SS := (sExpr (eMt 3 cAppend (aCons (eMt 2 cPopAt (aCons (eUser F_draw (aCons (eVar 0) (aCons (eCall gLen (aCons (eVar 2) aNil)) aNil))) aNil)) aNil)))
def l_mixed (k : Nat) : SS := sWhile (bCmp gNe (eVar 2) (eN (nLst aNil))) s_turn k
def s_mixed : SS := (sSeq (sPar2 2 3 (pN (nCall gList (aCons (eVar 1) aNil))) (pN (nLst aNil)))
    (sSeq (l_mixed 2000)
    (sRet (eVar 3))))
def F_mixed : FD := defF 2 4 s_mixed
theorem pls_up {n m : Nat} (h : n ≤ m) : ∀ {xs : List D}, (∀ x ∈ xs, pl n x = true) → pls m xs = true := by
  induction n generalizing m with
  | zero =>
    intro xs hx
    induction xs with
    | nil => rw [pls.eq_def]
    | cons a r ih =>
      rw [pls.eq_def]
      simp only [Bool.and_eq_true]
      refine ⟨?_, ih fun x hx' => hx x (List.mem_cons_of_mem _ hx')⟩
      have e := hx a List.mem_cons_self
      cases a with
      | _ => first | (rw [pl.eq_def]; done) | (rw [pl.eq_def] at e ⊢; exact e) | (rw [pl.eq_def] at e; cases e; done)
  | succ n ihn =>
    intro xs hx
    obtain ⟨m', rfl⟩ : ∃ m', m = m' + 1 := ⟨m - 1, by omega⟩
    induction xs with
    | nil => rw [pls.eq_def]
    | cons a r ih =>
      rw [pls.eq_def]
      simp only [Bool.and_eq_true]
      refine ⟨?_, ih fun x hx' => hx x (List.mem_cons_of_mem _ hx')⟩
      have e := hx a List.mem_cons_self
      cases a with
      | lst ys => rw [pl.eq_def] at e ⊢; exact ihn (by omega) (pls_mem e)
      | tup ys => rw [pl.eq_def] at e ⊢; exact ihn (by omega) (pls_mem e)
      | _ => first | (rw [pl.eq_def]; done) | (rw [pl.eq_def] at e ⊢; exact e) | (rw [pl.eq_def] at e; cases e; done)
theorem gNe_nil {xs : List D} (h : ∀ x ∈ xs, pl 48 x = true) : gNe (.lst xs) (.lst []) = some (.bl (!xs.isEmpty)) := by
  show gNeP (.lst xs) (.lst []) = _
  unfold gNeP
  have h1 : pl 50 (.lst xs) = true := by rw [pl.eq_def]; exact pls_up (by decide) h
  have h2 : pl 50 (.lst []) = true := by rw [pl.eq_def]; exact pls_up (n := 48) (by decide) fun x hx => nomatch hx
  rw [h1, h2]
  simp only [Bool.and_self]
  cases xs <;> rfl
theorem popAt_ok {xs : List D} {r : Int} (h0 : 0 ≤ r) (h1 : r < xs.length) (hl : xs.length < 1000000) : ∃ d, d ∈ xs ∧ cPopAt xs [.int r] = some (d, xs.eraseIdx r.toNat) := by
  obtain ⟨k, rfl⟩ : ∃ k : Nat, r = k := ⟨r.toNat, by omega⟩
  have hk : k < xs.length := by omega
  have e1 : rangeOk (k : Int) = true := by
    unfold rangeOk
    rw [Bool.and_eq_true]
    exact ⟨decide_eq_true (by omega), decide_eq_true (by omega)⟩
  have e2 : seqIndex? (k : Int) xs.length = some k := by
    rw [seqIndex_of (Int.natCast_nonneg k) (by omega)]
    rfl
  have e3 : xs[k]? = some xs[k] := List.getElem?_eq_getElem hk
  refine ⟨xs[k], List.getElem_mem hk, ?_⟩
  show (if rangeOk (k : Int) = true then popK xs (seqIndex? (k : Int) xs.length) else none) = _
  rw [if_pos e1, e2]
  show (xs[k]?).map (fun d => (d, xs.eraseIdx k)) = _
  rw [e3]
  rfl
theorem while_stop {g : M Bool} {f : SS} {ρ ρ1 : Rho} {k : Nat} (h : g ρ = .ok false ρ1) : sWhile g f (k + 1) ρ = .ok .nx ρ1 := by
  simp only [sWhile, M.bind, h]
  rfl
theorem while_step {g : M Bool} {f : SS} {ρ ρ1 ρ2 : Rho} {k : Nat} (h : g ρ = .ok true ρ1) (h2 : f ρ1 = .ok .nx ρ2) : sWhile g f (k + 1) ρ = sWhile g f k ρ2 := by
  simp only [sWhile, M.bind, h, h2]
theorem append_ok {xs : List D} {d : D} (h : xs.length < 1000000) : cAppend xs [d] = some (.non, xs ++ [d]) := by
  show (if xs.length < 1000000 then _ else _) = _
  rw [if_pos h]
theorem mixed_loop {items : D} : ∀ (k : Nat) (left found bag : List D), left.length < k → left.length + found.length < 1000000 → (∀ d ∈ left, pl 48 d = true) → BagOk bag →
    ∃ bag' found', l_mixed k [some (.bo bag), some (.im items), some (.ow left), some (.ow found)] = .ok .nx [some (.bo bag'), some (.im items), some (.ow []), some (.ow found')] ∧ BagOk bag' ∧ (∀ d ∈ found', d ∈ found ∨ d ∈ left) ∧ found'.length = found.length + left.length
  | 0, left, found, bag, h, _, _, _ => absurd h (Nat.not_lt_zero _)
  | k + 1, left, found, bag, h, hl, hp, hb => by
    have f0 : few [] = some [] := rfl
    have ne := gNe_nil hp
    cases left with
    | nil =>
      refine ⟨bag, found, ?_, hb, fun d hd => .inl hd, by simp⟩
      have ne : gNe (.lst []) (.lst []) = some (.bl false) := ne
      exact while_stop (by conv => lhs; simp only [defF, runF, entry, bos, sSeq, sNil, sIf, sSet, sOwn, sSetL, sPar, sRet, sRetL, sRetN, sExpr, M.bind, M.ret, M.opt, val, look, imm, vals, looks, imms, eVar, eC, eBin, eUn, eCall, eN, eTup, nLst, nCall, aNil, aCons, eAnd, eOr, eNot, eIf, eChain, eSl, oSome, oNone, eTupRg, nLstRg, rOne, rTwo, eMt, eDict0, bVal, bCmp, bBl, bAnd, bOr, bNot, bYes, isBl, truth, Dv.isInt, setIm, setOw, lAt, lPut, eUser, nUser, uCall, apart, noAl, toSVs, toSV, putBack, bosAt, allIm, iSeq, iCall, iCallI, sFor, gSet, gTupD, gsCons, gsNil, gsCons, wipeR, okw, putB, e_lt, e_le, e_gt, e_ge, e_sub, e_addI, gNeg, gInt, List.length_cons, List.length_nil, List.map_cons, List.map_nil, List.cons_append, List.nil_append, List.getElem?_cons_zero, List.getElem?_cons_succ, List.getElem?_nil, List.replicate, List.set_cons_zero, List.set_cons_succ, List.all_cons, List.all_nil, decide_true, decide_false, Nat.sub_self, Nat.reduceAdd, Nat.reduceSub, Nat.reduceEqDiff, Nat.reduceBNe, Bool.not_true, Bool.not_false, Bool.and_true, Bool.true_and, Bool.and_self, Option.getD_some, Option.getD_none, if_true, if_false, ↓reduceIte, f0, ne])
    | cons a r =>
      have ne : gNe (.lst (a :: r)) (.lst []) = some (.bl true) := ne
      obtain ⟨i, bag1, e1, i0, i1, hb1⟩ := draw_ok (many := ((a :: r).length : Int)) hb (by rw [List.length_cons]; omega) (by omega)
      obtain ⟨d, hd, e2⟩ := popAt_ok i0 i1 (by omega)
      have e3 := append_ok (xs := found) (d := d) (by omega)
      have gl : gLen [.lst (a :: r)] = some (.int ((a :: r).length : Int)) := rfl
      have hk : i.toNat < (a :: r).length := by omega
      have le := List.length_eraseIdx_of_lt hk
      generalize hL : (a :: r : List D) = L at *
      generalize hR : L.eraseIdx i.toNat = R at *
      have sub : ∀ x ∈ R, x ∈ L := fun x hx => by rw [← hR] at hx; exact List.mem_of_mem_eraseIdx hx
      have Lp : 0 < L.length := by rw [← hL]; simp
      obtain ⟨bag2, found2, e4, hb2, hm, hlen⟩ := mixed_loop (items := items) k R (found ++ [d]) bag1 (by omega) (by rw [List.length_append, List.length_singleton]; omega) (fun x hx => hp x (sub x hx)) hb1
      refine ⟨bag2, found2, ?_, hb2, fun x hx => ?_, by rw [hlen, List.length_append, List.length_singleton]; omega⟩
      · have st : s_turn [some (.bo bag), some (.im items), some (.ow L), some (.ow found)] = .ok .nx [some (.bo bag1), some (.im items), some (.ow R), some (.ow (found ++ [d]))] := by
          conv => lhs; simp only [defF, runF, entry, bos, sSeq, sNil, sIf, sSet, sOwn, sSetL, sPar, sRet, sRetL, sRetN, sExpr, M.bind, M.ret, M.opt, val, look, imm, vals, looks, imms, eVar, eC, eBin, eUn, eCall, eN, eTup, nLst, nCall, aNil, aCons, eAnd, eOr, eNot, eIf, eChain, eSl, oSome, oNone, eTupRg, nLstRg, rOne, rTwo, eMt, eDict0, bVal, bCmp, bBl, bAnd, bOr, bNot, bYes, isBl, truth, Dv.isInt, setIm, setOw, lAt, lPut, eUser, nUser, uCall, apart, noAl, toSVs, toSV, putBack, bosAt, allIm, iSeq, iCall, iCallI, sFor, gSet, gTupD, gsCons, gsNil, gsCons, wipeR, okw, putB, e_lt, e_le, e_gt, e_ge, e_sub, e_addI, gNeg, gInt, List.length_cons, List.length_nil, List.map_cons, List.map_nil, List.cons_append, List.nil_append, List.getElem?_cons_zero, List.getElem?_cons_succ, List.getElem?_nil, List.replicate, List.set_cons_zero, List.set_cons_succ, List.all_cons, List.all_nil, decide_true, decide_false, Nat.sub_self, Nat.reduceAdd, Nat.reduceSub, Nat.reduceEqDiff, Nat.reduceBNe, Bool.not_true, Bool.not_false, Bool.and_true, Bool.true_and, Bool.and_self, Option.getD_some, Option.getD_none, if_true, if_false, ↓reduceIte, s_turn, e1, e2, e3, gl]
        have tst : bCmp gNe (eVar 2) (eN (nLst aNil)) [some (.bo bag), some (.im items), some (.ow L), some (.ow found)] = .ok true [some (.bo bag), some (.im items), some (.ow L), some (.ow found)] := by
          conv => lhs; simp only [defF, runF, entry, bos, sSeq, sNil, sIf, sSet, sOwn, sSetL, sPar, sRet, sRetL, sRetN, sExpr, M.bind, M.ret, M.opt, val, look, imm, vals, looks, imms, eVar, eC, eBin, eUn, eCall, eN, eTup, nLst, nCall, aNil, aCons, eAnd, eOr, eNot, eIf, eChain, eSl, oSome, oNone, eTupRg, nLstRg, rOne, rTwo, eMt, eDict0, bVal, bCmp, bBl, bAnd, bOr, bNot, bYes, isBl, truth, Dv.isInt, setIm, setOw, lAt, lPut, eUser, nUser, uCall, apart, noAl, toSVs, toSV, putBack, bosAt, allIm, iSeq, iCall, iCallI, sFor, gSet, gTupD, gsCons, gsNil, gsCons, wipeR, okw, putB, e_lt, e_le, e_gt, e_ge, e_sub, e_addI, gNeg, gInt, List.length_cons, List.length_nil, List.map_cons, List.map_nil, List.cons_append, List.nil_append, List.getElem?_cons_zero, List.getElem?_cons_succ, List.getElem?_nil, List.replicate, List.set_cons_zero, List.set_cons_succ, List.all_cons, List.all_nil, decide_true, decide_false, Nat.sub_self, Nat.reduceAdd, Nat.reduceSub, Nat.reduceEqDiff, Nat.reduceBNe, Bool.not_true, Bool.not_false, Bool.and_true, Bool.true_and, Bool.and_self, Option.getD_some, Option.getD_none, if_true, if_false, ↓reduceIte, f0, ne]
        exact (while_step tst st).trans e4
      · rcases hm x hx with h | h
        · rcases List.mem_append.mp h with h | h
          · exact .inl h
          · rw [List.mem_singleton.mp h]; exact .inr hd
        · exact .inr (sub x h)
theorem mixed_ok {bag items : List D} (hb : BagOk bag) (hl : items.length < 2000) (hp : ∀ d ∈ items, pl 48 d = true) : ∃ out bag', F_mixed [.bo bag, .im (.lst items)] = some (.nw out, [some bag']) ∧ BagOk bag' ∧ (∀ d ∈ out, d ∈ items) ∧ out.length = items.length := by
  obtain ⟨bag', out, e, hb', hm, hlen⟩ := mixed_loop (items := .lst items) 2000 items [] bag hl (by simp; omega) hp hb
  have gl : gList [.lst items] = some items := rfl
  have f0 : few [] = some [] := rfl
  refine ⟨out, bag', ?_, hb', fun d hd => ?_, by rw [hlen]; simp⟩
  · conv => lhs; simp only [defF, runF, entry, bos, sSeq, sNil, sIf, sSet, sOwn, sSetL, sPar, sRet, sRetL, sRetN, sExpr, M.bind, M.ret, M.opt, val, look, imm, vals, looks, imms, eVar, eC, eBin, eUn, eCall, eN, eTup, nLst, nCall, aNil, aCons, eAnd, eOr, eNot, eIf, eChain, eSl, oSome, oNone, eTupRg, nLstRg, rOne, rTwo, eMt, eDict0, bVal, bCmp, bBl, bAnd, bOr, bNot, bYes, isBl, truth, Dv.isInt, setIm, setOw, lAt, lPut, eUser, nUser, uCall, apart, noAl, toSVs, toSV, putBack, bosAt, allIm, iSeq, iCall, iCallI, sFor, gSet, gTupD, gsCons, gsNil, gsCons, wipeR, okw, putB, e_lt, e_le, e_gt, e_ge, e_sub, e_addI, gNeg, gInt, List.length_cons, List.length_nil, List.map_cons, List.map_nil, List.cons_append, List.nil_append, List.getElem?_cons_zero, List.getElem?_cons_succ, List.getElem?_nil, List.replicate, List.set_cons_zero, List.set_cons_succ, List.all_cons, List.all_nil, decide_true, decide_false, Nat.sub_self, Nat.reduceAdd, Nat.reduceSub, Nat.reduceEqDiff, Nat.reduceBNe, Bool.not_true, Bool.not_false, Bool.and_true, Bool.true_and, Bool.and_self, Option.getD_some, Option.getD_none, if_true, if_false, ↓reduceIte, F_mixed, s_mixed, sPar2, pN, putP, gl, f0, e]
  · rcases hm d hd with h | h
    · cases h
    · exact h
end Dv
namespace Dv
open PySem PySem.Spec PyProof.Rows L2
theorem lc2_pure {vs vs1 : List Nat} {g g1 : IV → M Unit} {gt gt1 : M Bool} {fi1 : M (List IV)} {fe : ES} {ρ : Rho} (p : IV → Bool) (es : IV → List IV) (p1 : IV → IV → Bool) (h : IV → IV → D) (B : Nat) : ∀ (ds : List IV) (acc : List D), acc.length + ds.length * B ≤ 1000000 →
    (∀ d ∈ ds, ∃ ρ1, g d ρ = .ok () ρ1 ∧ gt ρ1 = .ok (p d) ρ1 ∧ wipeR ρ1 vs = ρ ∧ (p d = true → fi1 ρ1 = .ok (es d) ρ1 ∧ (es d).length ≤ B ∧ wipeR (wipeR ρ1 vs1) vs = ρ ∧
      ∀ e ∈ es d, ∃ ρ2, g1 e (wipeR ρ1 vs1) = .ok () ρ2 ∧ gt1 ρ2 = .ok (p1 d e) ρ2 ∧ (p1 d e = true → fe ρ2 = .ok (.im (h d e)) ρ2) ∧ wipeR ρ2 vs1 = wipeR ρ1 vs1)) →
    lc2Loop vs vs1 g gt fi1 g1 gt1 fe ds acc ρ = .ok (acc ++ (ds.filter p).flatMap fun d => ((es d).filter (p1 d)).map (h d)) ρ
  | [], acc, _, _ => by simp [lc2Loop, M.ret]
  | d :: ds, acc, hl, hd => by
    obtain ⟨ρ1, h1, h2, h3, h4⟩ := hd d List.mem_cons_self
    rw [List.length_cons, Nat.succ_mul] at hl
    have ih := fun acc hl => lc2_pure p es p1 h B ds acc hl fun d hd' => hd d (List.mem_cons_of_mem _ hd')
    unfold lc2Loop
    simp only [M.bind, h1, h2]
    cases e : p d with
    | false =>
      simp only [M.bind, wipeM, h3]
      rw [ih acc (by omega), List.filter_cons_of_neg (by rw [e]; exact Bool.false_ne_true)]
    | true =>
      obtain ⟨k1, k2, k3, k4⟩ := h4 e
      have inn := lc_pure (vs := vs1) (g := g1) (gt := gt1) (fe := fe) (ρ := wipeR ρ1 vs1) (p1 d) (h d) (es d) acc (by omega) k4
      simp only [M.bind, k1, wipeM, inn, k3]
      have fl : (((es d).filter (p1 d)).map (h d)).length ≤ B := by
        rw [List.length_map]
        exact Nat.le_trans (List.length_filter_le _ _) k2
      rw [ih _ (by rw [List.length_append]; omega), List.filter_cons_of_pos e, List.flatMap_cons, List.append_assoc]
theorem nLc2_pure {vs vs1 : List Nat} {fi fi1 : M (List IV)} {g g1 : IV → M Unit} {gt gt1 : M Bool} {fe : ES} {ρ : Rho} {ds : List IV} (p : IV → Bool) (es : IV → List IV) (p1 : IV → IV → Bool) (h : IV → IV → D) (B : Nat) (hi : fi ρ = .ok ds ρ) (hw : okw vs ρ = true) (hl : ds.length * B ≤ 1000000)
    (hd : ∀ d ∈ ds, ∃ ρ1, g d (wipeR ρ vs) = .ok () ρ1 ∧ gt ρ1 = .ok (p d) ρ1 ∧ wipeR ρ1 vs = wipeR ρ vs ∧ (p d = true → fi1 ρ1 = .ok (es d) ρ1 ∧ (es d).length ≤ B ∧ wipeR (wipeR ρ1 vs1) vs = wipeR ρ vs ∧
      ∀ e ∈ es d, ∃ ρ2, g1 e (wipeR ρ1 vs1) = .ok () ρ2 ∧ gt1 ρ2 = .ok (p1 d e) ρ2 ∧ (p1 d e = true → fe ρ2 = .ok (.im (h d e)) ρ2) ∧ wipeR ρ2 vs1 = wipeR ρ1 vs1)) :
    nLc2 vs vs1 fi g gt fi1 g1 gt1 fe ρ = .ok ((ds.filter p).flatMap fun d => ((es d).filter (p1 d)).map (h d)) ρ := by
  unfold nLc2
  simp only [M.bind, hi, hw]
  rw [lc2_pure p es p1 h B ds [] (by simpa using hl) hd]
  simp only [List.nil_append, putB_wipe]
abbrev rowsD (L : List (List Int)) : List D := L.map fun l => D.tup (iD l)
def rg (p : Nat) : List Int := (List.range p).map fun (i : Nat) => (i : Int)
def tupI (p : Nat) : Nat → List (List Int)
  | 0 => [[]]
  | m + 1 => (tupI p m).flatMap fun row => (rg p).map fun x => row ++ [x]
theorem tupI_len (p : Nat) : ∀ m, (tupI p m).length = p ^ m
  | 0 => rfl
  | m + 1 => by
    have ih := tupI_len p m
    unfold tupI
    rw [List.length_flatMap]
    have e : (tupI p m).map (fun row => ((rg p).map fun x => row ++ [x]).length) = (tupI p m).map fun _ => p := by
      apply List.map_congr_left
      intro r _
      rw [List.length_map]
      unfold rg
      rw [List.length_map, List.length_range]
    rw [e, List.map_const', List.sum_replicate_nat, ih, Nat.pow_succ]
end Dv
namespace Dv
open PySem PySem.Spec PyProof.Rows L2
theorem lc_list {β : Type} {vs : List Nat} {g : IV → M Unit} {gt : M Bool} {fe : ES} {ρ : Rho} (G : β → IV) (h : β → D) : ∀ (E : List β) (acc : List D), acc.length + E.length ≤ 1000000 →
    (∀ b ∈ E, ∃ ρ1, g (G b) ρ = .ok () ρ1 ∧ gt ρ1 = .ok true ρ1 ∧ fe ρ1 = .ok (.im (h b)) ρ1 ∧ wipeR ρ1 vs = ρ) → lcLoop vs g gt fe (E.map G) acc ρ = .ok (acc ++ E.map h) ρ
  | [], acc, _, _ => by simp [lcLoop, M.ret]
  | b :: E, acc, hl, hd => by
    obtain ⟨ρ1, h1, h2, h3, h4⟩ := hd b List.mem_cons_self
    rw [List.length_cons] at hl
    have ih := lc_list G h E (acc ++ [h b]) (by rw [List.length_append, List.length_singleton]; omega) fun d hd' => hd d (List.mem_cons_of_mem _ hd')
    have r : acc.length < 1000000 := by omega
    rw [List.map_cons]
    unfold lcLoop
    simp only [M.bind, h1, h2, h3, imm, M.opt, room, if_pos r, wipeM, h4]
    rw [ih, List.map_cons, List.append_assoc]
    rfl
theorem lc2_list {α β : Type} {vs vs1 : List Nat} {g g1 : IV → M Unit} {gt gt1 : M Bool} {fi1 : M (List IV)} {fe : ES} {ρ : Rho} (F : α → IV) (es : α → List β) (G : β → IV) (h : α → β → D) (B : Nat) : ∀ (L : List α) (acc : List D), acc.length + L.length * B ≤ 1000000 →
    (∀ a ∈ L, ∃ ρ1, g (F a) ρ = .ok () ρ1 ∧ gt ρ1 = .ok true ρ1 ∧ fi1 ρ1 = .ok ((es a).map G) ρ1 ∧ (es a).length ≤ B ∧ wipeR (wipeR ρ1 vs1) vs = ρ ∧
      ∀ b ∈ es a, ∃ ρ2, g1 (G b) (wipeR ρ1 vs1) = .ok () ρ2 ∧ gt1 ρ2 = .ok true ρ2 ∧ fe ρ2 = .ok (.im (h a b)) ρ2 ∧ wipeR ρ2 vs1 = wipeR ρ1 vs1) →
    lc2Loop vs vs1 g gt fi1 g1 gt1 fe (L.map F) acc ρ = .ok (acc ++ L.flatMap fun a => (es a).map (h a)) ρ
  | [], acc, _, _ => by simp [lc2Loop, M.ret]
  | a :: L, acc, hl, hd => by
    obtain ⟨ρ1, h1, h2, k1, k2, k3, k4⟩ := hd a List.mem_cons_self
    rw [List.length_cons, Nat.succ_mul] at hl
    have ih := fun acc hl => lc2_list F es G h B L acc hl fun d hd' => hd d (List.mem_cons_of_mem _ hd')
    have inn := lc_list (vs := vs1) (g := g1) (gt := gt1) (fe := fe) (ρ := wipeR ρ1 vs1) G (h a) (es a) acc (by omega) k4
    rw [List.map_cons]
    unfold lc2Loop
    simp only [M.bind, h1, h2, k1, wipeM, inn, k3]
    rw [ih _ (by rw [List.length_append, List.length_map]; omega), List.flatMap_cons, List.append_assoc]
theorem nLc2_list {α β : Type} {vs vs1 : List Nat} {fi fi1 : M (List IV)} {g g1 : IV → M Unit} {gt gt1 : M Bool} {fe : ES} {ρ : Rho} {L : List α} (F : α → IV) (es : α → List β) (G : β → IV) (h : α → β → D) (B : Nat) (hi : fi ρ = .ok (L.map F) ρ) (hw : okw vs ρ = true) (hl : L.length * B ≤ 1000000)
    (hd : ∀ a ∈ L, ∃ ρ1, g (F a) (wipeR ρ vs) = .ok () ρ1 ∧ gt ρ1 = .ok true ρ1 ∧ fi1 ρ1 = .ok ((es a).map G) ρ1 ∧ (es a).length ≤ B ∧ wipeR (wipeR ρ1 vs1) vs = wipeR ρ vs ∧
      ∀ b ∈ es a, ∃ ρ2, g1 (G b) (wipeR ρ1 vs1) = .ok () ρ2 ∧ gt1 ρ2 = .ok true ρ2 ∧ fe ρ2 = .ok (.im (h a b)) ρ2 ∧ wipeR ρ2 vs1 = wipeR ρ1 vs1) :
    nLc2 vs vs1 fi g gt fi1 g1 gt1 fe ρ = .ok (L.flatMap fun a => (es a).map (h a)) ρ := by
  unfold nLc2
  simp only [M.bind, hi, hw]
  rw [lc2_list F es G h B L [] (by simpa using hl) hd]
  simp only [List.nil_append, putB_wipe]
def rgF (a b : Int) : List Int := (List.range (b - a).toNat).map fun (i : Nat) => a + (i : Int)
theorem rng2_ok {a b : Int} (a0 : -1000000 < a) (a1 : a < 1000000) (b0 : -1000000 < b) (b1 : b < 1000000) : rng2 [.int a, .int b] = some ((rgF a b).map fun x => .im (.int x)) := by
  have e : (rangeOk a && rangeOk b) = true := by
    unfold rangeOk
    simp only [Bool.and_eq_true, decide_eq_true_iff]
    omega
  show (if (rangeOk a && rangeOk b) = true then _ else _) = _
  rw [if_pos e]
  unfold rgF
  rw [List.map_map]
  rfl
theorem last_ix (xs : List D) (a : D) : gIx (.tup (xs ++ [a])) (.int (-1)) = some a := by
  have h1 : (1 : Int) ≤ (xs.length : Int) + 1 := by omega
  have h2 : ((-1 : Int) + ((xs.length : Int) + 1)).toNat = xs.length := by omega
  simp [gIx, atI, ixN, h1, h2]
end Dv
namespace Dv
open PySem PySem.Spec PyProof.Rows L2
def s_wholeG (G : Int) : SS := (sRet (eAnd (eUn (gIsi "int") (eVar 0)) (eAnd (eNot (eUn (gIsi "bool") (eVar 0))) (eChain gLt gLt (eUn gNeg (eC (.int G))) (eVar 0) (eC (.int G))))))
def plain : D → Bool
  | .set _ => false
  | .obj _ _ _ => false
  | .ref _ => false
  | _ => true
def wholeB (G : Int) : D → Bool
  | .int i => decide (-G < i) && decide (i < G)
  | _ => false
theorem wholeB_int (G i : Int) : wholeB G (.int i) = (decide (-G < i) && decide (i < G)) := rfl
def isI : D → Bool
  | .int _ => true
  | .bl _ => true
  | _ => false
def isB : D → Bool
  | .bl _ => true
  | _ => false
def isT : D → Bool
  | .tup _ => true
  | _ => false
theorem isi_int (d : D) (h : plain d = true) : gIsi "int" d = some (.bl (isI d)) := by
  cases d <;> first | (cases h; done) | rfl
theorem isi_bool (d : D) (h : plain d = true) : gIsi "bool" d = some (.bl (isB d)) := by
  cases d <;> first | (cases h; done) | rfl
theorem isi_tup (d : D) (h : plain d = true) : gIsi "tuple" d = some (.bl (isT d)) := by
  cases d <;> first | (cases h; done) | rfl
theorem whole_core (G : Int) (d : D) (h : plain d = true) : defF 1 1 (s_wholeG G) [.im d] = some (.im (.bl (wholeB G d)), []) := by
  have e1 := isi_int d h
  have e2 := isi_bool d h
  have ty : (isI d = false ∧ wholeB G d = false) ∨ (isI d = true ∧ isB d = true ∧ wholeB G d = false) ∨ ∃ i, d = .int i := by
    cases d <;> first | exact .inr (.inr ⟨_, rfl⟩) | exact .inl ⟨rfl, rfl⟩ | exact .inr (.inl ⟨rfl, rfl, rfl⟩)
  rcases ty with ⟨t1, t2⟩ | ⟨t1, t2, t3⟩ | ⟨i, rfl⟩
  · conv => lhs; simp only [defF, runF, entry, bos, sSeq, sNil, sIf, sSet, sOwn, sSetL, sPar, sRet, sRetL, sRetN, sExpr, M.bind, M.ret, M.opt, val, look, imm, vals, looks, imms, eVar, eC, eBin, eUn, eCall, eN, eTup, nLst, nCall, aNil, aCons, eAnd, eOr, eNot, eIf, eChain, eSl, oSome, oNone, eTupRg, nLstRg, rOne, rTwo, eMt, eDict0, bVal, bCmp, bBl, bAnd, bOr, bNot, bYes, isBl, truth, Dv.isInt, setIm, setOw, lAt, lPut, eUser, nUser, uCall, apart, noAl, toSVs, toSV, putBack, bosAt, allIm, iSeq, iCall, iCallI, sFor, gSet, gTupD, gsCons, gsNil, gsCons, wipeR, okw, putB, e_lt, e_le, e_gt, e_ge, e_sub, e_addI, gNeg, gInt, List.length_cons, List.length_nil, List.map_cons, List.map_nil, List.cons_append, List.nil_append, List.getElem?_cons_zero, List.getElem?_cons_succ, List.getElem?_nil, List.replicate, List.set_cons_zero, List.set_cons_succ, List.all_cons, List.all_nil, decide_true, decide_false, Nat.sub_self, Nat.reduceAdd, Nat.reduceSub, Nat.reduceEqDiff, Nat.reduceBNe, Bool.not_true, Bool.not_false, Bool.and_true, Bool.true_and, Bool.and_self, Option.getD_some, Option.getD_none, if_true, if_false, ↓reduceIte, s_wholeG, e1, t1, t2]
    rw [t2]
  · conv => lhs; simp only [defF, runF, entry, bos, sSeq, sNil, sIf, sSet, sOwn, sSetL, sPar, sRet, sRetL, sRetN, sExpr, M.bind, M.ret, M.opt, val, look, imm, vals, looks, imms, eVar, eC, eBin, eUn, eCall, eN, eTup, nLst, nCall, aNil, aCons, eAnd, eOr, eNot, eIf, eChain, eSl, oSome, oNone, eTupRg, nLstRg, rOne, rTwo, eMt, eDict0, bVal, bCmp, bBl, bAnd, bOr, bNot, bYes, isBl, truth, Dv.isInt, setIm, setOw, lAt, lPut, eUser, nUser, uCall, apart, noAl, toSVs, toSV, putBack, bosAt, allIm, iSeq, iCall, iCallI, sFor, gSet, gTupD, gsCons, gsNil, gsCons, wipeR, okw, putB, e_lt, e_le, e_gt, e_ge, e_sub, e_addI, gNeg, gInt, List.length_cons, List.length_nil, List.map_cons, List.map_nil, List.cons_append, List.nil_append, List.getElem?_cons_zero, List.getElem?_cons_succ, List.getElem?_nil, List.replicate, List.set_cons_zero, List.set_cons_succ, List.all_cons, List.all_nil, decide_true, decide_false, Nat.sub_self, Nat.reduceAdd, Nat.reduceSub, Nat.reduceEqDiff, Nat.reduceBNe, Bool.not_true, Bool.not_false, Bool.and_true, Bool.true_and, Bool.and_self, Option.getD_some, Option.getD_none, if_true, if_false, ↓reduceIte, s_wholeG, e1, e2, t1, t2]
    rw [t3]
  · by_cases h1 : -G < i <;> by_cases h2 : i < G
    all_goals (conv => lhs; simp only [defF, runF, entry, bos, sSeq, sNil, sIf, sSet, sOwn, sSetL, sPar, sRet, sRetL, sRetN, sExpr, M.bind, M.ret, M.opt, val, look, imm, vals, looks, imms, eVar, eC, eBin, eUn, eCall, eN, eTup, nLst, nCall, aNil, aCons, eAnd, eOr, eNot, eIf, eChain, eSl, oSome, oNone, eTupRg, nLstRg, rOne, rTwo, eMt, eDict0, bVal, bCmp, bBl, bAnd, bOr, bNot, bYes, isBl, truth, Dv.isInt, setIm, setOw, lAt, lPut, eUser, nUser, uCall, apart, noAl, toSVs, toSV, putBack, bosAt, allIm, iSeq, iCall, iCallI, sFor, gSet, gTupD, gsCons, gsNil, gsCons, wipeR, okw, putB, e_lt, e_le, e_gt, e_ge, e_sub, e_addI, gNeg, gInt, List.length_cons, List.length_nil, List.map_cons, List.map_nil, List.cons_append, List.nil_append, List.getElem?_cons_zero, List.getElem?_cons_succ, List.getElem?_nil, List.replicate, List.set_cons_zero, List.set_cons_succ, List.all_cons, List.all_nil, decide_true, decide_false, Nat.sub_self, Nat.reduceAdd, Nat.reduceSub, Nat.reduceEqDiff, Nat.reduceBNe, Bool.not_true, Bool.not_false, Bool.and_true, Bool.true_and, Bool.and_self, Option.getD_some, Option.getD_none, if_true, if_false, ↓reduceIte, s_wholeG, e1, e2, isI, isB, h1, h2])
    all_goals (simp only [wholeB, h1, h2, decide_true, decide_false, Bool.and_true, Bool.and_false])
abbrev GREAT : Int := 1000000000000000000000000000000000000000000000000000000000000
def s_whole : SS := s_wholeG GREAT
def F_whole : FD := defF 1 1 s_whole
def s_within : SS := (sRet (eAnd (eUser F_whole (aCons (eVar 0) aNil)) (eChain gLe gLe (eVar 1) (eVar 0) (eVar 2))))
def F_within : FD := defF 3 3 s_within
theorem whole_ok (d : D) (h : plain d = true) : F_whole [.im d] = some (.im (.bl (wholeB GREAT d)), []) := whole_core GREAT d h
def withB (lo hi : Int) : D → Bool
  | .int i => decide (lo ≤ i) && decide (i ≤ hi)
  | _ => false
theorem withB_int (lo hi i : Int) : withB lo hi (.int i) = (decide (lo ≤ i) && decide (i ≤ hi)) := rfl
theorem within_ok (d : D) (lo hi : Int) (h : plain d = true) (hlo : -1000 < lo) (hhi : hi < 1000) : F_within [.im d, .im (.int lo), .im (.int hi)] = some (.im (.bl (withB lo hi d)), []) := by
  have w := whole_ok d h
  cases e : wholeB GREAT d with
  | false =>
    have t : withB lo hi d = false := by
      cases d with
      | int i =>
        rw [wholeB_int] at e
        rw [withB_int]
        by_cases h1 : lo ≤ i
        · by_cases h2 : i ≤ hi
          · exfalso
            have h3 : -GREAT < i := Int.lt_trans (by decide : -GREAT < -1000) (by omega)
            have h4 : i < GREAT := Int.lt_trans (by omega) (by decide : (1000 : Int) < GREAT)
            rw [decide_eq_true h3, decide_eq_true h4] at e
            cases e
          · rw [decide_eq_false h2, Bool.and_false]
        · rw [decide_eq_false h1, Bool.false_and]
      | _ => rfl
    rw [e] at w
    conv => lhs; simp only [defF, runF, entry, bos, sSeq, sNil, sIf, sSet, sOwn, sSetL, sPar, sRet, sRetL, sRetN, sExpr, M.bind, M.ret, M.opt, val, look, imm, vals, looks, imms, eVar, eC, eBin, eUn, eCall, eN, eTup, nLst, nCall, aNil, aCons, eAnd, eOr, eNot, eIf, eChain, eSl, oSome, oNone, eTupRg, nLstRg, rOne, rTwo, eMt, eDict0, bVal, bCmp, bBl, bAnd, bOr, bNot, bYes, isBl, truth, Dv.isInt, setIm, setOw, lAt, lPut, eUser, nUser, uCall, apart, noAl, toSVs, toSV, putBack, bosAt, allIm, iSeq, iCall, iCallI, sFor, gSet, gTupD, gsCons, gsNil, gsCons, wipeR, okw, putB, e_lt, e_le, e_gt, e_ge, e_sub, e_addI, gNeg, gInt, List.length_cons, List.length_nil, List.map_cons, List.map_nil, List.cons_append, List.nil_append, List.getElem?_cons_zero, List.getElem?_cons_succ, List.getElem?_nil, List.replicate, List.set_cons_zero, List.set_cons_succ, List.all_cons, List.all_nil, decide_true, decide_false, Nat.sub_self, Nat.reduceAdd, Nat.reduceSub, Nat.reduceEqDiff, Nat.reduceBNe, Bool.not_true, Bool.not_false, Bool.and_true, Bool.true_and, Bool.and_self, Option.getD_some, Option.getD_none, if_true, if_false, ↓reduceIte, F_within, s_within, w]
    rw [t]
  | true =>
    rw [e] at w
    have hi' : ∃ i, d = .int i := by cases d <;> first | exact ⟨_, rfl⟩ | (cases e; done)
    obtain ⟨i, rfl⟩ := hi'
    by_cases h1 : lo ≤ i <;> by_cases h2 : i ≤ hi
    all_goals (conv => lhs; simp only [defF, runF, entry, bos, sSeq, sNil, sIf, sSet, sOwn, sSetL, sPar, sRet, sRetL, sRetN, sExpr, M.bind, M.ret, M.opt, val, look, imm, vals, looks, imms, eVar, eC, eBin, eUn, eCall, eN, eTup, nLst, nCall, aNil, aCons, eAnd, eOr, eNot, eIf, eChain, eSl, oSome, oNone, eTupRg, nLstRg, rOne, rTwo, eMt, eDict0, bVal, bCmp, bBl, bAnd, bOr, bNot, bYes, isBl, truth, Dv.isInt, setIm, setOw, lAt, lPut, eUser, nUser, uCall, apart, noAl, toSVs, toSV, putBack, bosAt, allIm, iSeq, iCall, iCallI, sFor, gSet, gTupD, gsCons, gsNil, gsCons, wipeR, okw, putB, e_lt, e_le, e_gt, e_ge, e_sub, e_addI, gNeg, gInt, List.length_cons, List.length_nil, List.map_cons, List.map_nil, List.cons_append, List.nil_append, List.getElem?_cons_zero, List.getElem?_cons_succ, List.getElem?_nil, List.replicate, List.set_cons_zero, List.set_cons_succ, List.all_cons, List.all_nil, decide_true, decide_false, Nat.sub_self, Nat.reduceAdd, Nat.reduceSub, Nat.reduceEqDiff, Nat.reduceBNe, Bool.not_true, Bool.not_false, Bool.and_true, Bool.true_and, Bool.and_self, Option.getD_some, Option.getD_none, if_true, if_false, ↓reduceIte, F_within, s_within, w, h1, h2])
    all_goals (simp only [withB, h1, h2, decide_true, decide_false, Bool.and_true, Bool.and_false])
theorem nLstRg_ok {f : M (Int × Int)} {ρ ρ' : Rho} {q : Int × Int} {R : List D} (h : f ρ = .ok q ρ') (h2 : rgC q = some R) : nLstRg f ρ = .ok R ρ' := by
  unfold nLstRg M.bind
  rw [h]
  show M.opt (rgC q) ρ' = _
  rw [h2]
  rfl
theorem for_list {β : Type} {gg : IV → M Unit} {f : SS} {N : Nat} (G : β → IV) (I : List β → Rho → Prop) : ∀ (L pre : List β) (ρ : Rho), pre.length + L.length = N → I pre ρ →
    (∀ (pre : List β) (b : β) (ρ : Rho), b ∈ L → pre.length < N → I pre ρ → ∃ ρ1 fl ρ2, gg (G b) ρ = .ok () ρ1 ∧ f ρ1 = .ok fl ρ2 ∧ (fl = .nx ∨ fl = .ct) ∧ I (pre ++ [b]) ρ2) →
    ∃ ρ', forL gg f (L.map G) ρ = .ok .nx ρ' ∧ I (pre ++ L) ρ'
  | [], pre, ρ, _, i, _ => ⟨ρ, rfl, by rw [List.append_nil]; exact i⟩
  | b :: L, pre, ρ, hn, i, h => by
    rw [List.length_cons] at hn
    obtain ⟨ρ1, fl, ρ2, e1, e2, hf, i2⟩ := h pre b ρ List.mem_cons_self (by omega) i
    obtain ⟨ρ', e3, i3⟩ := for_list G I L (pre ++ [b]) ρ2 (by rw [List.length_append, List.length_cons, List.length_nil]; omega) i2 fun pre b ρ hb => h pre b ρ (List.mem_cons_of_mem _ hb)
    refine ⟨ρ', ?_, by rw [List.append_assoc] at i3; exact i3⟩
    show (M.bind (gg (G b)) fun _ => M.bind f fun fl => _) ρ = _
    simp only [M.bind, e1, e2]
    rcases hf with rfl | rfl <;> exact e3
end Dv
namespace Dv
open PySem PySem.Spec PyProof.Rows L2
section
variable {P : Program} {w : World} {A : Around} {E : Value → Shared → Prop} {s : Shared}
abbrev begS (w : World) : Obj := ⟨.type "set", none, .set #[] 0 (.fresh 0 0 (!w.params.followText "set-order")), #[]⟩
abbrev begIt (a : Addr) : Obj := ⟨.type "list_iterator", none, .fields #[.ref a, .int 0 0], #[]⟩
theorem fill_list {l D : Addr} {vs : Array Value} (ms : List Int) {R : Result → Shared → Prop} {Hp : Heap} {st : Shared} (hno : A.handled = none) (eh : st.heap = Hp.push (begIt l)) (isl : Hp.IsList l vs) (hin : IntsAre vs.toList ms) (few : ms.length + 1 < scanBound) (hd : Hp.get? D = some (begS w)) (ne : D ≠ l)
    (fin : ∀ (h2 : Heap) (t2 : Tok) (c : Nat), SetR w h2 D (fun j => decide (j ∈ ms)) c → c ≤ ms.length → (∀ b o, b ≠ D → Hp.get? b = some o → h2.get? b = some o) → R (.ok (.ret .none)) { st with heap := h2, toks := t2 }) :
    codeAny (model P w) A (.builtin "set.update.loop" ⟨[.ref D, .ref Hp.objs.size], []⟩) R st := by
  have ll : l < Hp.objs.size := by obtain ⟨_, e, _⟩ := isl; exact Heap.lt_size e
  have ld : D < Hp.objs.size := Heap.lt_size hd
  have sz : vs.size = ms.length := by
    have q := hin.length
    rwa [Array.length_toList] at q
  have no3 : A.in1.handled = none := by simp [hno]
  have WW := (Walks.list (prog := P) (w := w) (A := A.in1) no3 Hp.objs.size l (Nat.ne_of_lt ll) vs).toS
  have isl1 : st.heap.IsList l vs := by rw [eh]; exact isl.push _
  have hd1 : st.heap.get? D = some (begS w) := by rw [eh]; exact Heap.get?_push_of_some _ hd
  have st0 : st.heap.IsListIter Hp.objs.size l 0 ∧ st.heap.IsList l vs := ⟨by rw [eh]; exact ⟨_, Heap.get?_push_size _ rfl, rfl, rfl⟩, isl1⟩
  have vals : ∀ (i : Nat) (v : Value), vs[i]? = some v → ∃ k t, ms[i]? = some k ∧ v = .int k t := by
    intro i v hv
    have li : i < ms.length := sz ▸ (Array.getElem?_eq_some_iff.mp hv).1
    obtain ⟨t, et⟩ := IntsAre.int_at hin i v (by rw [Array.getElem?_toList]; exact hv)
    exact ⟨ms[i], t, List.getElem?_eq_getElem li, by rw [et, List.getD_eq_getElem?_getD, List.getElem?_eq_getElem li]; rfl⟩
  have out : D ∉ [Hp.objs.size, l] := by
    intro z
    rcases List.mem_cons.mp z with z | z
    · exact absurd z (Nat.ne_of_lt ld)
    · rcases List.mem_cons.mp z with z | z
      · exact ne z
      · cases z
  refine set_update_ints WW D out ms sz few vals vs.size 0 st (by omega) (Nat.zero_le _) st0 ⟨0, Nat.le_refl 0, setR_new_at hd1⟩ ?_
  intro s2 c mv hc hS
  obtain ⟨h2, g2, d2, t2, o2⟩ := s2
  obtain rfl : g2 = st.gens := mv.gens
  obtain rfl : d2 = st.drawn := mv.drawn
  obtain rfl : o2 = st.os := mv.os
  refine fin h2 t2 c hS (sz ▸ hc) fun b o nb e => ?_
  have lb : b < Hp.objs.size := Heap.lt_size e
  refine mv.heap b o (fun z => ?_) (by rw [eh]; exact Heap.get?_push_of_some _ e)
  rcases List.mem_cons.mp z with z | z
  · exact nb z
  · rcases List.mem_cons.mp z with z | z
    · exact absurd z (Nat.ne_of_lt lb)
    · cases z
theorem call_setLI {l : Addr} {vs : Array Value} (ms : List Int) {Q : Value → Shared → Prop} (hno : A.handled = none) (isl : s.heap.IsList l vs) (hin : IntsAre vs.toList ms) (few : ms.length + 1 < scanBound)
    (fin : ∀ (h2 : Heap) (t2 : Tok) (c : Nat), SetR w h2 s.heap.objs.size (fun j => decide (j ∈ ms)) c → c ≤ ms.length → (∀ b o, s.heap.get? b = some o → h2.get? b = some o) → Q (.ref s.heap.objs.size) { s with heap := h2, toks := t2 }) : wpAny (model P w) A (call (.type "set") [.ref l]) Q E s := by
  have ⟨cc, tt, m1⟩ := F.called_set.mro
  have m2 := F.called_set.made; have m3 := F.called_set.sub; have m4 := F.called_set.notType; have m5 := F.called_set.canCreate; have m6 := F.typeCall_set_1 (.ref l)
  apply wpAny_call; apply codeAny_of_tree
  show wpAny _ _ (callAny (.type "set") _) _ _ _; refine wpAny_pure ⟨Code.quiet_builtin _ (by decide +kernel), codeAny_builtin F.entry_type_call ?_⟩
  rw [Around.under_plain (weight_type_call_type "set" [.ref l] []) rfl]; repeat (any_goals (first | assumption | wp_step))
  refine codeAny_mono (code_set_led1 (.ref l) (E := E) (Q₁ := fun u s1 => u = .ref s.heap.objs.size ∧ s1 = { s with heap := s.heap.push (begS w) }) ⟨rfl, rfl⟩) ?_
  rintro (e | fl) s1 hr
  · exact hr
  cases fl with
  | ret u =>
    obtain ⟨rfl, rfl⟩ := hr
    have g0 : (s.heap.push (begS w)).get? s.heap.objs.size = some (begS w) := Heap.get?_push_size _ rfl
    have ty0 : Shared.TypeIs { s with heap := s.heap.push (begS w) } (.ref s.heap.objs.size) "set" := ⟨_, g0, rfl⟩
    have i1 := F.called_set.init.lookup; have i2 := F.called_set.init.bind (.ref s.heap.objs.size); repeat (any_goals (first | assumption | wp_step))
    refine codeAny_mono (codeAny_call_builtin (R := wants (fun r s2 => r = .none ∧ ∃ h2 t2 c, s2 = { s with heap := h2, toks := t2 } ∧ SetR w h2 s.heap.objs.size (fun j => decide (j ∈ ms)) c ∧ c ≤ ms.length ∧ ∀ b o, s.heap.get? b = some o → h2.get? b = some o) E) F.called_set.init.plain F.entry_set_init (check_set_init_1 ty0 ?_)) ?_
    · have ll : l < s.heap.objs.size := by obtain ⟨_, e, _⟩ := isl; exact Heap.lt_size e
      have isl1 : (s.heap.push (begS w)).IsList l vs := isl.push _
      obtain ⟨ol, e1, e2, n3, e3⟩ := isl
      obtain ⟨oc, od, oa, os⟩ := ol
      dsimp only at e2 e3; subst e2; subst e3
      have gl := Heap.get?_push_of_some (begS w) e1
      have k1 := F.sub_list_set; have k2 := F.sub_list_frozenset; have k3 : (Value.type "list" == Value.type "dict") = false := by decide
      unfold Builtin.«set.__init__» noKeywords Builtin.Frozenset.updateFrom; generalize hPI : pyIter = PI
      wp_walk
      subst hPI; refine wpAny_pyIter_list isl1 ?_
      refine wpAny_bind (wpAny_runValue (fill_list (A := _) (Hp := s.heap.push (begS w)) ms (by simp [hno]) rfl isl1 hin few g0 (Nat.ne_of_gt ll) fun h2 t2 c hS hc hk => ?_))
      show wpAny _ _ _ _ _ _; refine wpAny_pure ?_
      show wpAny _ _ (ret Value.none) _ _ _
      exact wpAny_pure ⟨rfl, h2, t2, c, rfl, hS, hc, fun b o e => hk b o (Nat.ne_of_lt (Heap.lt_size e)) (Heap.get?_push_of_some _ e)⟩
    · rintro (e | fl) s2 hr2
      · exact hr2
      cases fl with
      | ret r =>
        obtain ⟨rfl, h2, t2, c, rfl, hS, hc, hk⟩ := hr2
        repeat (any_goals (first | assumption | wp_step))
        exact fin h2 t2 c hS hc hk
      | _ => exact hr2.elim
  | _ => exact hr.elim
end
end Dv
namespace Dv
open PySem PySem.Spec PyProof.Rows L2
section
variable {X : Cx}
def rSetLI (w : World) (K : PySem.W.Frag) : List V → Hp → VK → Prop := fun xs H Q => ∃ p ns, xs = [.ref p] ∧ SqL K H p (ns.map V.int) ∧ ns.length ≤ 1000 ∧ ∀ q, H q = none → Q (.ref q) (upd H q (SetO w q (fun j => decide (j ∈ ns)) (sortU ns).length))
theorem call_setL (hc : X.calm = true) : CallR X (.type "set") (rSetLI X.w X.K) := by
  intro pins s σ H xs us Q I r h
  obtain ⟨p, ns, rfl, hq, hl, q⟩ := h
  rw [Vals.ref1 r]
  obtain ⟨its, rv, pt, hz⟩ := I.list hq
  refine call_setLI ns (I.ok.hd hc) pt.isList (ints_of_vals rv) (by unfold scanBound; omega) fun h' tk c R1 hcn k => ?_
  have ec : c = (sortU ns).length := by
    obtain ⟨o, es, ep, t, ho, hex, hdt, g, nd, hm2, hb, hf, hn, hr, hl2⟩ := R1
    have e1 : (es.toList.map keyOf).length = (sortU ns).length := card_eq nd (lt_nodup (sortU_sorted ns)) fun k => by
      rw [← hm2 k, mem_sortU]; simp
    rw [List.length_map, Array.length_toList] at e1
    rw [← hn]; exact e1
  subst ec
  exact ⟨.ref s.heap.objs.size, _, I.laid k (Nat.le_refl _) (setO_new R1), rfl, q _ (I.hok.fresh (Nat.le_refl _))⟩
theorem asInts_tup {G : Gp} {Z : List Addr} {H : Hp} {v : V} {xs : List D} {ns : List Int} (r : RT G Z H v (.tup xs)) (e : asInts xs = some ns) : ∃ a, v = .ref a ∧ SqT G.K H a (ns.map V.int) := by
  obtain ⟨a, vs, rfl, h1, h2⟩ := r.tup
  have ex := asInts_eq e
  subst ex
  have ev := h2.ints
  subst ev
  exact ⟨a, rfl, h1.sq⟩
theorem asInts_lst {G : Gp} {Z : List Addr} {H : Hp} {v : V} {xs : List D} {ns : List Int} (r : RT G Z H v (.lst xs)) (e : asInts xs = some ns) : ∃ a, v = .ref a ∧ SqL G.K H a (ns.map V.int) := by
  obtain ⟨a, vs, rfl, h1, h2⟩ := r.lst
  have ex := asInts_eq e
  subst ex
  have ev := h2.ints
  subst ev
  exact ⟨a, rfl, h1⟩
def gSetA : List D → Option D
  | [.tup xs] => match asInts xs with
    | some ns => if ns.length ≤ 1000 then some (.set ((sortU ns).map .int)) else none
    | none => none
  | [.lst xs] => match asInts xs with
    | some ns => if ns.length ≤ 1000 then some (.set ((sortU ns).map .int)) else none
    | none => none
  | _ => none
theorem cd_setA (hc : X.calm = true) : CallD X (.type "set") gSetA := ⟨fun vs H Q => rSetT X.w X.K vs H Q ∨ rSetLI X.w X.K vs H Q, fun pins s σ H vs us Q I r h => by
    rcases h with h | h
    · exact call_setT hc pins s σ H vs us Q I r h
    · exact call_setL hc pins s σ H vs us Q I r h, fun Z H xs ds d Q z r e q => by
  have fin : ∀ (ns : List Int) (p : Addr), some (D.set ((sortU ns).map .int)) = some d → H p = none → Q (.ref p) (upd H p (SetO X.w p (fun j => decide (j ∈ ns)) (sortU ns).length)) := fun ns p e hp => by
    cases e
    have sm := Same.of_new (o := SetO X.w p (fun j => decide (j ∈ ns)) (sortU ns).length) hp
    exact q _ _ sm (.set (hid_new z hp) (sortU_sorted ns) (fun k => by rw [mem_sortU]; simp) rfl)
  unfold gSetA at e
  split at e
  · split at e
    · rename_i xs0 ns e1
      by_cases hl : ns.length ≤ 1000
      · rw [if_pos hl] at e
        obtain ⟨v, rfl, r1⟩ := r.one
        obtain ⟨a, rfl, h1⟩ := asInts_tup r1 e1
        exact .inl ⟨a, ns, rfl, h1, hl, fun p hp => fin ns p e hp⟩
      · rw [if_neg hl] at e; cases e
    · cases e
  · split at e
    · rename_i xs0 ns e1
      by_cases hl : ns.length ≤ 1000
      · rw [if_pos hl] at e
        obtain ⟨v, rfl, r1⟩ := r.one
        obtain ⟨a, rfl, h1⟩ := asInts_lst r1 e1
        exact .inr ⟨a, ns, rfl, h1, hl, fun p hp => fin ns p e hp⟩
      · rw [if_neg hl] at e; cases e
    · cases e
  · cases e⟩
theorem fold_max : ∀ (r : List Int) (a : Int), r.foldl max a = maxI a r
  | [], a => rfl
  | b :: r, a => by
    rw [List.foldl_cons, fold_max r]
    show _ = maxI (if b > a then b else a) r
    congr 1
    by_cases z : b > a
    · rw [if_pos z]; omega
    · rw [if_neg z]; omega
theorem fold_min : ∀ (r : List Int) (a : Int), r.foldl min a = minI a r
  | [], a => rfl
  | b :: r, a => by
    rw [List.foldl_cons, fold_min r]
    show _ = minI (if b < a then b else a) r
    congr 1
    by_cases z : b < a
    · rw [if_pos z]; omega
    · rw [if_neg z]; omega
theorem alike_ints (ns : List Int) : PySem.W.AlikeAll (ns.map PyData.int) := ⟨fun x hx y hy => by
  obtain ⟨i, _, rfl⟩ := List.mem_map.mp hx
  obtain ⟨j, _, rfl⟩ := List.mem_map.mp hy
  rfl, fun x hx => by
  obtain ⟨i, _, rfl⟩ := List.mem_map.mp hx
  exact fun z => nomatch z⟩
theorem depth0 : ∀ ns : List Int, PyData.depthAll (ns.map PyData.int) ≤ 1
  | [] => by decide
  | n :: r => by
    show max (PyData.depth (.int n)) (PyData.depthAll (r.map PyData.int)) ≤ 1
    have := depth0 r
    have e : PyData.depth (.int n) ≤ 1 := by simp [PyData.depth]
    omega
def rMaxT (K : PySem.W.Frag) : List V → Hp → VK → Prop := fun vs H Q => ∃ (p : Addr) (a : Int) (r : List Int), vs = [V.ref p] ∧ SqT K H p ((a :: r).map V.int) ∧ Q (.int (maxI a r)) H
def rMinT (K : PySem.W.Frag) : List V → Hp → VK → Prop := fun vs H Q => ∃ (p : Addr) (a : Int) (r : List Int), vs = [V.ref p] ∧ SqT K H p ((a :: r).map V.int) ∧ Q (.int (minI a r)) H
theorem call_maxT (hc : X.calm = true) (hu : X.A.units + 64 < cLine) : CallR X (.builtin "max") (rMaxT X.K) := by
  intro pins s σ H xs us Q I r h
  obtain ⟨p, a, r', rfl, hq, q⟩ := h
  rw [Vals.ref1 r]
  obtain ⟨its, rv, pt, hz⟩ := I.tuple hq
  have hI := ints_of_vals rv
  refine PySem.W.max_tuple_data (I.ok.hd hc) (show s.heap.IsTuple p its.toArray from pt) (x := .int a) (xs := r'.map .int) (by rw [List.toList_toArray] <;> exact hI.reads s.heap) (alike_ints (a :: r')) (by have := depth0 (a :: r'); show X.A.units + 1 + PyData.depthAll ((a :: r').map PyData.int) < cLine; omega) fun i v h' tk bs hi rd hk => ?_
  rw [PySem.W.maxD_ints, fold_max] at rd
  cases rd
  exact ⟨.int _, H, I.kept hk, ⟨_, rfl⟩, q⟩
theorem call_minT (hc : X.calm = true) (hu : X.A.units + 64 < cLine) : CallR X (.builtin "min") (rMinT X.K) := by
  intro pins s σ H xs us Q I r h
  obtain ⟨p, a, r', rfl, hq, q⟩ := h
  rw [Vals.ref1 r]
  obtain ⟨its, rv, pt, hz⟩ := I.tuple hq
  have hI := ints_of_vals rv
  refine PySem.W.min_tuple_data (I.ok.hd hc) (show s.heap.IsTuple p its.toArray from pt) (x := .int a) (xs := r'.map .int) (by rw [List.toList_toArray] <;> exact hI.reads s.heap) (alike_ints (a :: r')) (by have := depth0 (a :: r'); show X.A.units + 1 + PyData.depthAll ((a :: r').map PyData.int) < cLine; omega) fun i v h' tk bs hi rd hk => ?_
  rw [PySem.W.minD_ints, fold_min] at rd
  cases rd
  exact ⟨.int _, H, I.kept hk, ⟨_, rfl⟩, q⟩
def seqI : List D → Option (List Int)
  | [.tup xs] => asInts xs
  | [.lst xs] => asInts xs
  | _ => none
def gMaxA (ds : List D) : Option D := match seqI ds with
  | some (a :: r) => some (.int (maxI a r))
  | _ => none
def gMinA (ds : List D) : Option D := match seqI ds with
  | some (a :: r) => some (.int (minI a r))
  | _ => none
theorem seqI_rt {Z : List Addr} {H : Hp} {xs : List V} {ds : List D} {ns : List Int} (r : RTs (Gx X) Z H xs ds) (e : seqI ds = some ns) : ∃ p, xs = [.ref p] ∧ (SqT X.K H p (ns.map V.int) ∨ SqL X.K H p (ns.map V.int)) := by
  unfold seqI at e
  split at e
  · obtain ⟨v, rfl, r1⟩ := r.one
    obtain ⟨p, rfl, h⟩ := asInts_tup r1 e
    exact ⟨p, rfl, .inl h⟩
  · obtain ⟨v, rfl, r1⟩ := r.one
    obtain ⟨p, rfl, h⟩ := asInts_lst r1 e
    exact ⟨p, rfl, .inr h⟩
  · cases e
theorem cd_maxA (hc : X.calm = true) (hu : X.A.units + 64 < cLine) : CallD X (.builtin "max") gMaxA := ⟨fun vs H Q => rMaxT X.K vs H Q ∨ rMax X.K vs H Q, fun pins s σ H vs us Q I r h => by
    rcases h with h | h
    · exact call_maxT hc hu pins s σ H vs us Q I r h
    · exact cr_max hc pins s σ H vs us Q I r h, fun Z H xs ds d Q z r e q => by
  unfold gMaxA at e
  split at e
  · rename_i a l e1
    cases e
    obtain ⟨p, rfl, h | h⟩ := seqI_rt r e1
    · exact .inl ⟨p, a, l, rfl, h, ret_int q⟩
    · refine .inr ⟨p, _, rfl, h, by simp, fun m hm hy => ?_⟩
      obtain ⟨k1, k2, k3⟩ := maxI_ok l a
      have e1 : maxI a l ≤ m := hy _ (List.mem_cons.mpr k1)
      have e2 : m ≤ maxI a l := by
        rcases List.mem_cons.mp hm with rfl | hm
        · exact k2
        · exact k3 m hm
      rw [show m = maxI a l by omega]
      exact ret_int q
  · cases e⟩
theorem cd_minA (hc : X.calm = true) (hu : X.A.units + 64 < cLine) : CallD X (.builtin "min") gMinA := ⟨fun vs H Q => rMinT X.K vs H Q ∨ rMin X.K vs H Q, fun pins s σ H vs us Q I r h => by
    rcases h with h | h
    · exact call_minT hc hu pins s σ H vs us Q I r h
    · exact cr_min hc pins s σ H vs us Q I r h, fun Z H xs ds d Q z r e q => by
  unfold gMinA at e
  split at e
  · rename_i a l e1
    cases e
    obtain ⟨p, rfl, h | h⟩ := seqI_rt r e1
    · exact .inl ⟨p, a, l, rfl, h, ret_int q⟩
    · refine .inr ⟨p, _, rfl, h, by simp, fun m hm hy => ?_⟩
      obtain ⟨k1, k2, k3⟩ := minI_ok l a
      have e1 : m ≤ minI a l := hy _ (List.mem_cons.mpr k1)
      have e2 : minI a l ≤ m := by
        rcases List.mem_cons.mp hm with rfl | hm
        · exact k2
        · exact k3 m hm
      rw [show m = minI a l by omega]
      exact ret_int q
  · cases e⟩
end
end Dv
namespace Dv
open PySem PySem.Spec PyProof.Rows L2
section
variable {X : Cx}
def ltI : List Int → List Int → Bool
  | [], [] => false
  | [], _ :: _ => true
  | _ :: _, [] => false
  | a :: r, b :: t => decide (a < b) || (decide (a = b) && ltI r t)
theorem ltI_iff : ∀ a b : List Int, ltI a b = true ↔ a < b
  | [], [] => by simp [ltI]
  | [], b :: t => by simp [ltI]
  | a :: r, [] => by simp [ltI]
  | a :: r, b :: t => by
    have ih := ltI_iff r t
    simp only [ltI, Bool.or_eq_true, Bool.and_eq_true, decide_eq_true_eq, ih, List.cons_lt_cons_iff]
theorem ltI_dec (a b : List Int) : decide (a < b) = ltI a b := by
  have := ltI_iff a b
  cases e : ltI a b with
  | true => exact decide_eq_true (this.mp e)
  | false => exact decide_eq_false fun z => by rw [this.mpr z] at e; cases e
theorem lt_row (a b : List Int) : PySem.W.dataLt (.tuple (a.map .int)) (.tuple (b.map .int)) = ltI a b := by
  rw [PySem.W.dataLt_tuple]
  exact (PySem.W.dataLt_ints a b).trans (ltI_dec a b)
theorem al_row (a b : List Int) : PySem.W.alike (.tuple (a.map .int)) (.tuple (b.map .int)) = true := by
  rw [PySem.W.alike]
  exact PySem.W.alike_ints a b
theorem dep_row (a : List Int) : (PyData.tuple (a.map .int)).depth ≤ 2 := by
  show PyData.depthAll (a.map .int) + 1 ≤ 2
  have := depth0 a
  omega
def rRow (K : PySem.W.Frag) (f : List Int → List Int → Bool) : R2 := fun x y H Q => ∃ a b : List Int, Dp K H x (.tuple (a.map .int)) ∧ Dp K H y (.tuple (b.map .int)) ∧ Q (.bl (f a b)) H
theorem op_row {op : CmpOp} {f : List Int → List Int → Bool} (hu : X.A.units + 64 < cLine) (hc : ∀ {s : Shared} {E : Value → Shared → Prop} {x y : Value} {a b : List Int} {as bs : List Addr} {Q : Value → Shared → Prop}, Reads s.heap x (.tuple (a.map .int)) as → Reads s.heap y (.tuple (b.map .int)) bs → Q (.bool (f a b)) s → wpAny (model X.prog X.w) X.A (compareOp op x y) Q E s) : OpR X (compareOp op) (rRow X.K f) := by
  intro pins s σ H x y v u Q I rx ry h
  obtain ⟨a, b, hd, he, q⟩ := h
  obtain ⟨as, r1⟩ := Dp.reads I _ x v hd rx
  obtain ⟨bs, r2⟩ := Dp.reads I _ y u he ry
  exact hc r1 r2 ⟨.bl _, H, I, rfl, q⟩
theorem op_ltR (hu : X.A.units + 64 < cLine) : OpR X (compareOp .Lt) (rRow X.K ltI) := op_row hu fun r1 r2 q => PySem.W.lt_data r1 r2 (al_row _ _) (fun z => nomatch z) (by have := dep_row ‹_›; omega) (by rw [lt_row]; exact q)
theorem op_gtR (hu : X.A.units + 64 < cLine) : OpR X (compareOp .Gt) (rRow X.K fun a b => ltI b a) := op_row hu fun r1 r2 q => PySem.W.gt_data r1 r2 (al_row _ _) (fun z => nomatch z) (by have := dep_row ‹_›; omega) (by rw [lt_row]; exact q)
theorem op_leR (hu : X.A.units + 64 < cLine) : OpR X (compareOp .LtE) (rRow X.K fun a b => !ltI b a) := op_row hu fun r1 r2 q => PySem.W.le_data r1 r2 (al_row _ _) (fun z => nomatch z) (by have := dep_row ‹_›; omega) (by rw [lt_row]; exact q)
theorem op_geR (hu : X.A.units + 64 < cLine) : OpR X (compareOp .GtE) (rRow X.K fun a b => !ltI a b) := op_row hu fun r1 r2 q => PySem.W.ge_data r1 r2 (al_row _ _) (fun z => nomatch z) (by have := dep_row ‹_›; omega) (by rw [lt_row]; exact q)
def gRow (g : D → D → Option D) (f : List Int → List Int → Bool) (x y : D) : Option D := match x, y with
  | .tup xs, .tup ys => match asInts xs, asInts ys with
    | some a, some b => some (.bl (f a b))
    | _, _ => none
  | _, _ => g x y
def gLtA := gRow gLt ltI
def gGtA := gRow gGt fun a b => ltI b a
def gLeA := gRow gLe fun a b => !ltI b a
def gGeA := gRow gGe fun a b => !ltI a b
theorem pds_ints : ∀ ns : List Int, pds (ns.map D.int) = ns.map PyData.int
  | [] => by rw [List.map_nil, List.map_nil, pds]
  | n :: r => by rw [List.map_cons, List.map_cons, pds, pd, pds_ints r]
theorem row_dp {Z : List Addr} {H : Hp} {v : V} {xs : List D} {a : List Int} (r : RT (Gx X) Z H v (.tup xs)) (e : asInts xs = some a) : Dp X.K H v (.tuple (a.map .int)) := by
  have ex := asInts_eq e
  subst ex
  have h := pl_dp (G := Gx X) 50 (.tup (a.map D.int)) v (pl_tupI 49 a) r.full
  rw [pd, pds_ints] at h
  exact h
theorem od_row {op : CmpOp} {g : D → D → Option D} {f : List Int → List Int → Bool} (h1 : OpD X (compareOp op) g) (h2 : OpR X (compareOp op) (rRow X.K f)) : OpD X (compareOp op) (gRow g f) := by
  obtain ⟨r, h3, h4⟩ := h1
  refine ⟨_, h2.or h3, fun Z H x y dx dy d Q z rx ry e q => ?_⟩
  unfold gRow at e
  split at e
  · split at e
    · rename_i a b e1 e2
      cases e
      exact .inl ⟨a, b, row_dp rx e1, row_dp ry e2, ret_bl q⟩
    · cases e
  · exact .inr (h4 Z H x y dx dy d Q z rx ry e q)
theorem od_ltA (hu : X.A.units + 64 < cLine) : OpD X (compareOp .Lt) gLtA := od_row od_lt (op_ltR hu)
theorem od_gtA (hu : X.A.units + 64 < cLine) : OpD X (compareOp .Gt) gGtA := od_row od_gt (op_gtR hu)
theorem od_leA (hu : X.A.units + 64 < cLine) : OpD X (compareOp .LtE) gLeA := od_row od_le (op_leR hu)
theorem od_geA (hu : X.A.units + 64 < cLine) : OpD X (compareOp .GtE) gGeA := od_row od_ge (op_geR hu)
end
end Dv
namespace Dv
open PySem PySem.Spec PyProof.Rows L2
theorem ltI_irr (a : List Int) : ltI a a = false := by
  induction a with
  | nil => rfl
  | cons x r ih => simp [ltI, ih]
theorem ltI_trans : ∀ a b c : List Int, ltI a b = true → ltI b c = true → ltI a c = true
  | [], b, c, h1, h2 => by
    cases c with
    | nil => cases b <;> simp [ltI] at h1 h2
    | cons _ _ => rfl
  | x :: r, [], c, h1, h2 => by simp [ltI] at h1
  | x :: r, y :: t, [], h1, h2 => by simp [ltI] at h2
  | x :: r, y :: t, z :: u, h1, h2 => by
    simp only [ltI, Bool.or_eq_true, Bool.and_eq_true, decide_eq_true_eq] at h1 h2 ⊢
    rcases h1 with h1 | ⟨rfl, h1⟩
    · rcases h2 with h2 | ⟨rfl, h2⟩
      · exact .inl (by omega)
      · exact .inl h1
    · rcases h2 with h2 | ⟨rfl, h2⟩
      · exact .inl h2
      · exact .inr ⟨rfl, ltI_trans r t u h1 h2⟩
theorem ltI_tri : ∀ a b : List Int, ltI a b = false → ltI b a = false → a = b
  | [], [], _, _ => rfl
  | [], _ :: _, h, _ => by simp [ltI] at h
  | _ :: _, [], _, h => by simp [ltI] at h
  | x :: r, y :: t, h1, h2 => by
    simp only [ltI, Bool.or_eq_false_iff, decide_eq_false_iff_not, Bool.and_eq_false_iff] at h1 h2
    have e : x = y := by omega
    subst e
    have h3 : ltI r t = false := by rcases h1.2 with h | h; exact absurd rfl h; exact h
    have h4 : ltI t r = false := by rcases h2.2 with h | h; exact absurd rfl h; exact h
    rw [ltI_tri r t h3 h4]
theorem ltI_asym {a b : List Int} (h : ltI a b = true) : ltI b a = false := by
  cases e : ltI b a with
  | false => rfl
  | true => have := ltI_trans a b a h e; rw [ltI_irr] at this; cases this
theorem leI_trans (a b c : List Int) (h1 : (!ltI b a) = true) (h2 : (!ltI c b) = true) : (!ltI c a) = true := by
  simp only [Bool.not_eq_true'] at h1 h2 ⊢
  cases e : ltI c a with
  | false => rfl
  | true =>
    cases e2 : ltI b c with
    | true => have := ltI_trans b c a e2 e; rw [h1] at this; cases this
    | false =>
      obtain rfl := ltI_tri b c e2 h2
      rw [e] at h1; cases h1
def insR (a : List Int) : List (List Int) → List (List Int)
  | [] => [a]
  | b :: t => if ltI b a then b :: insR a t else a :: b :: t
def sortR : List (List Int) → List (List Int)
  | [] => []
  | a :: r => insR a (sortR r)
theorem insR_perm (a : List Int) : ∀ l, (insR a l).Perm (a :: l)
  | [] => .refl _
  | b :: t => by
    unfold insR
    split
    · exact (List.Perm.cons b (insR_perm a t)).trans (.swap a b t)
    · exact .refl _
theorem sortR_perm : ∀ l, (sortR l).Perm l
  | [] => .nil
  | a :: r => (insR_perm a (sortR r)).trans (.cons a (sortR_perm r))
theorem insR_sorted {a : List Int} : ∀ {l}, l.Pairwise (fun x y => (!ltI y x) = true) → (insR a l).Pairwise (fun x y => (!ltI y x) = true)
  | [], _ => by simp [insR]
  | b :: t, h => by
    obtain ⟨h1, h2⟩ := List.pairwise_cons.mp h
    unfold insR
    split
    · rename_i z
      refine List.pairwise_cons.mpr ⟨fun c hc => ?_, insR_sorted h2⟩
      rcases List.mem_cons.mp ((insR_perm a t).mem_iff.mp hc) with rfl | hc
      · rw [ltI_asym z]; rfl
      · exact h1 c hc
    · rename_i z
      have z' : (!ltI b a) = true := by simpa using z
      refine List.pairwise_cons.mpr ⟨fun c hc => ?_, h⟩
      rcases List.mem_cons.mp hc with rfl | hc
      · exact z'
      · exact leI_trans a b c z' (h1 c hc)
theorem sortR_sorted : ∀ l, (sortR l).Pairwise (fun x y => (!ltI y x) = true)
  | [] => .nil
  | a :: r => insR_sorted (sortR_sorted r)
abbrev rowP (b : List Int) : PyData := .tuple (b.map .int)
theorem mergeR (l : List (List Int)) : l.mergeSort (PySem.W.dataLe false rowP) = sortR l := by
  have e : PySem.W.dataLe false rowP = fun a b => !ltI b a := by
    rw [PySem.W.dataLe_eq]
    funext a b
    show (!PySem.W.dataLt (rowP b) (rowP a)) = _
    rw [lt_row]
  rw [e]
  refine List.Perm.eq_of_pairwise (le := fun x y => (!ltI y x) = true) (fun a b _ _ h1 h2 => ?_) (List.pairwise_mergeSort (fun a b c h1 h2 => leI_trans a b c h1 h2) (fun a b => ?_) l) (sortR_sorted l) ((List.mergeSort_perm l _).trans (sortR_perm l).symm)
  · simp only [Bool.not_eq_true'] at h1 h2
    exact ltI_tri a b h2 h1
  · cases e : ltI a b with
    | true => rw [ltI_asym e]; rfl
    | false => simp
section
variable {X : Cx}
theorem each_of {Rl : V → List Int → Prop} : ∀ {vs : List V} {its : List Value} {rows : List (List Int)}, Vals vs its → F2 Rl vs rows → PySem.W.EachIs (fun v b => ∃ u, RelV u v ∧ Rl u b) its rows
  | _, _, _, .nil, .nil => .nil
  | _, _, _, .cons a r, .cons b t => .cons ⟨_, a, b⟩ (each_of r t)
theorem of_each {Rl : V → List Int → Prop} : ∀ {its : List Value} {rows : List (List Int)}, PySem.W.EachIs (fun v b => ∃ u, RelV u v ∧ Rl u b) its rows → ∃ vs, Vals vs its ∧ F2 Rl vs rows
  | _, _, .nil => ⟨[], .nil, .nil⟩
  | _, _, .cons ⟨u, h1, h2⟩ r => by
    obtain ⟨vs, h3, h4⟩ := of_each r
    exact ⟨u :: vs, .cons h1 h3, .cons h2 h4⟩
def rSortedR (K : PySem.W.Frag) : List V → Hp → VK → Prop := fun xs H Q => ∃ (a : Addr) (vs : List V) (rows : List (List Int)) (Rl : V → List Int → Prop), xs = [V.ref a] ∧ SqL K H a vs ∧ F2 Rl vs rows ∧ (∀ v b, Rl v b → Dp K H v (rowP b)) ∧ (∀ b ∈ rows, b ≠ []) ∧
  ∀ (ws : List V) (q : Addr), F2 Rl ws (sortR rows) → H q = none → Q (.ref q) (upd H q (.lst ws))
theorem F2.len {α β : Type} {R : α → β → Prop} : ∀ {l : List α} {m : List β}, F2 R l m → l.length = m.length
  | _, _, .nil => rfl
  | _, _, .cons _ r => by rw [List.length_cons, List.length_cons, F2.len r]
theorem cr_sortedR (hu : X.A.units + 64 < cLine) : CallR X (.builtin "sorted") (rSortedR X.K) := by
  intro pins s σ H xs us Q I r h
  obtain ⟨a, vs, rows, Rl, rfl, hs, hf, hd, hne, q⟩ := h
  obtain ⟨its, rv, hl, hz⟩ := I.list hs
  rw [Vals.ref1 r]
  have e1 := each_of rv hf
  have lv := rv.length
  have lf := hf.len
  have e2 : PySem.W.EachIs (fun v b => ∃ as, Reads s.heap v (rowP b) as) its rows := e1.mono fun v b ⟨u, h1, h2⟩ => Dp.reads I _ u v (hd u b h2) h1
  have hal : PySem.W.AllAlike (rows.map rowP) := PySem.W.AllAlike.of fun a b => al_row a b
  have hk : PySem.W.Sortable (rows.map rowP) := .inl fun d hd => by
    obtain ⟨b, hb, rfl⟩ := List.mem_map.mp hd
    cases b with
    | nil => exact absurd rfl (hne _ hb)
    | cons x t => exact ⟨_, _, rfl⟩
  refine PySem.W.sorted_data hl.isList e1 e2 hal hk (by rw [← lf]; exact hz) (fun b _ => by have := dep_row b; show X.A.units + 2 + (rowP b).depth < cLine; unfold rowP; omega) fun out hlen eo => ?_
  rw [mergeR] at eo
  obtain ⟨ws, hv, hw⟩ := of_each eo
  obtain ⟨ep, he'⟩ := PyProof.Rows.sortedAll_at s.heap its out.toArray
  have hlen : ws.length ≤ sizeLine := by rw [hw.len, (sortR_perm rows).length_eq, ← lf]; exact hz
  exact ⟨.ref _, upd H (s.heap.objs.size + 1) (.lst ws), I.laid (t' := s.toks) (fun _ _ => PyProof.Rows.sortedAll_old) (Nat.le_succ _) ⟨hlen, out, ep, hv, he'⟩, rfl, q ws _ hw (I.hok.fresh (Nat.le_succ _))⟩
def asRow : D → Option (List Int)
  | .tup xs => match asInts xs with
    | some (a :: r) => some (a :: r)
    | _ => none
  | _ => none
def asRows : List D → Option (List (List Int))
  | [] => some []
  | x :: xs => match asRow x, asRows xs with
    | some r, some rs => some (r :: rs)
    | _, _ => none
def rowD (b : List Int) : D := .tup (b.map .int)
theorem asRow_ok {x : D} {b : List Int} (h : asRow x = some b) : x = rowD b ∧ b ≠ [] := by
  unfold asRow at h
  split at h
  · split at h
    · rename_i e
      cases h
      rw [asInts_eq e]
      exact ⟨rfl, fun z => nomatch z⟩
    · cases h
  · cases h
theorem asRows_ok : ∀ {xs : List D} {rows : List (List Int)}, asRows xs = some rows → xs = rows.map rowD ∧ ∀ b ∈ rows, b ≠ []
  | [], rows, h => by cases h; exact ⟨rfl, fun _ z => nomatch z⟩
  | x :: xs, rows, h => by
    unfold asRows at h
    split at h
    · rename_i e1 e2
      cases h
      obtain ⟨h1, h2⟩ := asRow_ok e1
      obtain ⟨h3, h4⟩ := asRows_ok e2
      refine ⟨by rw [h1, h3, List.map_cons], fun b hb => ?_⟩
      rcases List.mem_cons.mp hb with rfl | hb
      · exact h2
      · exact h4 b hb
    · cases h
theorem asRow_row {b : List Int} (h : b ≠ []) : asRow (rowD b) = some b := by
  cases b with
  | nil => exact absurd rfl h
  | cons a r => simp [asRow, rowD, asInts, asInts_map]
theorem asRows_rows : ∀ {rows : List (List Int)}, (∀ b ∈ rows, b ≠ []) → asRows (rows.map rowD) = some rows
  | [], _ => rfl
  | b :: rows, h => by
    rw [List.map_cons, asRows, asRow_row (h b List.mem_cons_self), asRows_rows fun c hc => h c (List.mem_cons_of_mem _ hc)]
def gSortedA : List D → Option (List D)
  | [.lst xs] => match asInts xs with
    | some ns => some (iD (sortI ns))
    | none => match asRows xs with
      | some rows => some ((sortR rows).map rowD)
      | none => none
  | ds => gSortedTI ds
theorem f2_rows {G : Gp} {H : Hp} : ∀ {vs : List V} {rows : List (List Int)}, RDs G H vs (rows.map rowD) → F2 (fun v b => RD G H v (rowD b)) vs rows
  | _, [], h => by cases h; exact .nil
  | _, b :: rows, h => by
    cases h with
    | cons a r => exact .cons a (f2_rows r)
theorem rows_f2 {G : Gp} {H : Hp} : ∀ {vs : List V} {rows : List (List Int)}, F2 (fun v b => RD G H v (rowD b)) vs rows → RDs G H vs (rows.map rowD)
  | _, _, .nil => .nil
  | _, _, .cons a r => .cons a (rows_f2 r)
theorem cn_sortedA (hu : X.A.units + 64 < cLine) : CallN X (.builtin "sorted") gSortedA := by
  obtain ⟨r0, h1, h2⟩ := cn_sortedTI (X := X)
  refine ⟨fun vs H Q => rSortedR X.K vs H Q ∨ r0 vs H Q, fun pins s σ H vs us Q I r h => by
    rcases h with h | h
    · exact cr_sortedR hu pins s σ H vs us Q I r h
    · exact h1 pins s σ H vs us Q I r h, fun Z H xs ds es Q z r e q => ?_⟩
  unfold gSortedA at e
  split at e
  · rename_i ys
    split at e
    · rename_i ns e1
      refine .inr (h2 Z H xs _ es Q z r ?_ q)
      unfold gSortedTI
      simp only [e1]
      exact e
    · split at e
      · rename_i rows e1
        cases e
        obtain ⟨h3, h4⟩ := asRows_ok e1
        subst h3
        obtain ⟨v, rfl, r1⟩ := r.one
        obtain ⟨a, vs, rfl, h5, h6⟩ := r1.lst
        refine .inl ⟨a, vs, rows, fun v b => RD (Gx X) (hid Z H) v (rowD b), rfl, h5, f2_rows h6, fun v b h => ?_, h4, fun ws p hf hp => q p ws hp (rows_f2 hf)⟩
        have := pl_dp (G := Gx X) 50 (rowD b) v (pl_tupI 49 b) (h.mono hid_full)
        rw [rowD, pd, pds_ints] at this
        exact this
      · cases e
  · exact .inr (h2 Z H xs _ es Q z r e q)
end
end Dv
namespace Dv
open PySem PySem.Spec PyProof.Rows L2
def sPar3 (i j l : Nat) (fa fb fc : M PV) : SS := M.bind fa fun x => M.bind fb fun y => M.bind fc fun z => M.bind (putP i x) fun _ => M.bind (putP j y) fun _ => M.bind (putP l z) fun _ => M.ret .nx
section
variable {X : Cx} {i j l : Nat} {x y z : Str} {a b c : Expr} {fa fb fc : ES} {px py pz pt pos : Pos} {kt k2 pt2}
theorem sto3 {A : Own} {H H' : Hp} {i j l : Nat} (m : Stp A H H') : Sto A (drop1 (drop1 (drop1 A i) j) l) H H' := (Sto.of m).trans (Sto.less fun k a h => (mem_drop1.mp (mem_drop1.mp (mem_drop1.mp h).1).1).1)
theorem ds_par3 (hc : X.calm = true) (hN : X.N.Nodup) (hi : X.N[i]? = some x) (hj : X.N[j]? = some y) (hl : X.N[l]? = some z) (hij : i ≠ j) (hil : i ≠ l) (hjl : j ≠ l)
    (hx : X.env.scope.names.lookup x = some .local) (hy : X.env.scope.names.lookup y = some .local) (hz : X.env.scope.names.lookup z = some .local) (ha : DE X a fa) (hb : DE X b fb) (hcc : DE X c fc)
    (hw : swappedStores [.Tuple [.Name x px, .Name y py, .Name z pz] kt pt] (.Tuple [a, b, c] k2 pt2) X.env = pure (some [x, y, z]))
    (h1 : starEach (a :: [b, c]) X.env = (false, eval a X.env) :: starEach [b, c] X.env := by rfl) (h2 : starEach (b :: [c]) X.env = (false, eval b X.env) :: starEach [c] X.env := by rfl) (h3 : starEach (c :: []) X.env = (false, eval c X.env) :: starEach [] X.env := by rfl)
    (hs : swapsWithSole [.Tuple [.Name x px, .Name y py, .Name z pz] kt pt] (.Tuple [a, b, c] k2 pt2) pos.line X.env = pure false := by rfl) :
    DS X (.Assign [.Tuple [.Name x px, .Name y py, .Name z pz] kt pt] (.Tuple [a, b, c] k2 pt2) pos) (sPar3 i j l (pV fa) (pV fb) (pV fc)) := ⟨fun F => ps_imp (ps_par3 hc hN hi hj hl hij hil hjl hx hy hz (pa_cons (dp_v ha).run (pa_cons (dp_v hb).run (pa_cons (dp_v hcc).run pa_nil h3) h2) h1) hw hs) fun D σ H ⟨A, ρ, S, o⟩ => by
  obtain ⟨p1, ρ1, e1, o⟩ := out_bind o
  obtain ⟨p2, ρ2, e2, o⟩ := out_bind o
  obtain ⟨p3, ρ3, e3, o⟩ := out_bind o
  obtain ⟨_, ρ4, e4, o⟩ := out_bind o
  obtain ⟨_, ρ5, e5, o⟩ := out_bind o
  obtain ⟨_, ρ6, e6, oo⟩ := out_bind o
  obtain ⟨r1, ρa, ea, ea'⟩ := bind_ok e1
  obtain ⟨rfl, rfl⟩ := ret_ok ea'
  obtain ⟨r2, ρb, eb, eb'⟩ := bind_ok e2
  obtain ⟨rfl, rfl⟩ := ret_ok eb'
  obtain ⟨r3, ρc, ec, ec'⟩ := bind_ok e3
  obtain ⟨rfl, rfl⟩ := ret_ok ec'
  obtain ⟨d1, ρd, f1, e4⟩ := bind_ok e4
  obtain ⟨rfl, rfl⟩ := imm_ok f1
  obtain ⟨d2, ρe, f2, e5⟩ := bind_ok e5
  obtain ⟨rfl, rfl⟩ := imm_ok f2
  obtain ⟨d3, ρf, f3, e6⟩ := bind_ok e6
  obtain ⟨rfl, rfl⟩ := imm_ok f3
  refine ⟨F, A, ρ, _, _, S, e1, fun u H1 S1 m1 q1 => ?_⟩
  refine ⟨F, A, ρa, _, _, S1, e2, fun v H2 S2 m2 q2 => ?_⟩
  refine ⟨F, A, ρb, _, _, S2, e3, fun w H3 S3 m3 q3 => ?_⟩
  obtain ⟨S4, n4⟩ := S3.set e4 (RD.mono (m2.trans m3).hid q1)
  obtain ⟨S5, n5⟩ := S4.set e5 (RD.mono n4 (RD.mono m3.hid q2))
  obtain ⟨S6, n6⟩ := S5.set e6 (RD.mono n5 (RD.mono n4 q3))
  exact ⟨_, _, _, rfl, oo _ _ _ S6 (sto3 ((m1.trans m2).trans m3))⟩⟩
end
end Dv
namespace Dv
open PySem PySem.Spec PyProof.Rows L2
theorem meets_enumT (l : Addr) (items : Array Value) :
    Meets (Builtin.«enumerate.__new__» ⟨[.type "enumerate", .ref l], []⟩) (fun _ R s => s.heap.IsTuple l items ∧
      R (.ok (.ret (.ref (s.heap.push { cls := .type "tuple_iterator", data := .fields #[.ref l, .int 0 0] }).objs.size)))
        { s with heap := (s.heap.push { cls := .type "tuple_iterator", data := .fields #[.ref l, .int 0 0] }).push { cls := .type "enumerate", data := .fields #[.none, .bool false, .ref s.heap.objs.size, rawInt 0, .none, .none] } }) :=
  .of_wp fun prog w A R s h => by
    obtain ⟨hp, g, d, tk, os⟩ := s; obtain ⟨hL, h⟩ := h
    have hsub := sub_enumerate
    have q1 : ∀ {A' : Around} {E : Value → Shared → Prop} {Q : Value → Shared → Prop}, Q (.ref hp.objs.size) ⟨hp.push { cls := .type "tuple_iterator", data := .fields #[.ref l, .int 0 0] }, g, d, tk, os⟩ → wpAny (model prog w) A' (pyIter (.ref l)) Q E ⟨hp, g, d, tk, os⟩ :=
      fun q => wpAny_pyIter_tuple (s := ⟨hp, g, d, tk, os⟩) hL q
    wp_walk using q1
    refine wpAny_stack_any fun st => wpAny_pure ?_
    split
    · rename_i c _ _ _ _ _
      cases (c == Value.type "enumerate")
      · wp_walk using q1
        exact ⟨_, rfl, h⟩
      · wp_walk using q1
        exact ⟨_, rfl, h⟩
    · wp_walk using q1
      exact ⟨_, rfl, h⟩
section
variable {prog : Program} {w : World} {A : Around} {E : Value → Shared → Prop} {s : Shared}
theorem call_enumT {l : Addr} {items : Array Value} {Q : Value → Shared → Prop} (hL : s.heap.IsTuple l items)
    (h : ∀ h', IsEnum h' (s.heap.objs.size + 1) s.heap.objs.size 0 .none → h'.IsTupleIter s.heap.objs.size l 0 → h'.objs.size = s.heap.objs.size + 2 →
      (∀ b o, s.heap.get? b = some o → h'.get? b = some o) → Q (.ref (s.heap.objs.size + 1)) { s with heap := h' }) :
    wpAny (model prog w) A (call (.type "enumerate") [.ref l]) Q E s := by
  refine callType_new F.called_enumerate (by decide) (F.typeCall_enumerate_1 _) (F.newCall_enumerate_1 _) (fun obj => F.args_object_init_2 obj _) F.entry_enumerate_new
    (meets_enumT l items) ⟨hL, ?_⟩
  have hz : (s.heap.push { cls := .type "tuple_iterator", data := .fields #[.ref l, .int 0 0] }).objs.size = s.heap.objs.size + 1 := Heap.size_push ..
  show _ ∧ _
  rw [hz]
  have he : IsEnum ((s.heap.push { cls := .type "tuple_iterator", data := .fields #[.ref l, .int 0 0] }).push
      { cls := .type "enumerate", data := .fields #[.none, .bool false, .ref s.heap.objs.size, rawInt 0, .none, .none] }) (s.heap.objs.size + 1) s.heap.objs.size 0 .none := by
    have := Heap.get?_push_size (s.heap.push { cls := .type "tuple_iterator", data := .fields #[.ref l, .int 0 0] })
      (o := { cls := .type "enumerate", data := .fields #[.none, .bool false, .ref s.heap.objs.size, rawInt 0, .none, .none] }) rfl
    rw [hz] at this; exact this
  refine ⟨⟨_, he, rfl⟩, h _ he ⟨_, Heap.get?_push_of_some _ (Heap.get?_push_size _ rfl), rfl, rfl⟩ (by rw [Heap.size_push, hz]) fun b o x => Heap.get?_push_of_some _ (Heap.get?_push_of_some _ x)⟩
end
def IteT (K : PySem.W.Frag) (a : Addr) : It :=
  ⟨fun i H => ∃ (xs : List V) (x : V), SqT K H a xs ∧ xs[i]? = some x, fun i H v H' => ∃ T x, v = .ref T ∧ H T = none ∧ H' = upd H T (.tup [.int (i : Nat), x]) ∧ ∀ xs, SqT K H a xs → xs[i]? = some x, fun i H => ∃ xs : List V, SqT K H a xs ∧ xs.length ≤ i⟩
theorem turn_enumT {P : Program} {w : World} {K : PySem.W.Frag} {elts : List Expr} {kk : Nat} {tpos : Pos} (a e it : Addr) :
    Turn P w K (.Tuple elts kk tpos) (IteT K a) [e, it] e (fun i h => (∃ old, IsEnum h e it ((i : Nat) : Int) old) ∧ h.IsTupleIter it a i ∧ e ≠ it) where
  mem := by simp
  obj := fun i h st b hb => by
    obtain ⟨⟨old, he⟩, ⟨o, ho, hc, hd⟩, _⟩ := st
    have e' : b = e ∨ b = it := by simpa using hb
    rcases e' with z | z
    · rw [z]; exact ⟨_, he, fun v q => nomatch q⟩
    · rw [z]; exact ⟨o, ho, fun v q => by rw [hd] at q; cases q⟩
  keep := fun i h h' st k => let ⟨⟨old, he⟩, hi, hne⟩ := st; ⟨⟨old, k e (by simp) _ he⟩, hi.at fun o q => k it (by simp) o q, hne⟩
  item := by
    intro X hP hw hK hc i pins s σ H E I hf st hg
    subst hP hw hK
    obtain ⟨⟨old, he⟩, hit, hne⟩ := st
    obtain ⟨xs, x, hq, hx⟩ := hg
    obtain ⟨its, rv, p, hz⟩ := I.tuple hq
    have p' : s.heap.IsTuple a its.toArray := p
    obtain ⟨u, hu, ru⟩ := rv.get hx
    have hel : e < s.heap.objs.size := Heap.lt_size he
    have hil : it < s.heap.objs.size := by obtain ⟨_, q, _⟩ := hit; exact Heap.lt_size q
    have nae : a ≠ e := fun z => by
      subst z; obtain ⟨o, ho, hc1, _⟩ := p'; have he' := he
      unfold IsEnum at he'; rw [ho] at he'; cases he'; exact absurd hc1 (by intro q; injection q with q; exact absurd q (by decide))
    have nai : a ≠ it := fun z => by
      subst z; obtain ⟨o, ho, hc1, _⟩ := p'; obtain ⟨o2, ho2, hc2, _⟩ := hit
      rw [ho] at ho2; cases ho2; rw [hc1] at hc2; exact absurd hc2 (by intro q; injection q with q; exact absurd q (by decide))
    have D := Draws.tuple (prog := X.prog) (w := X.w) (A := X.A.in1) (I.ok.hd hc) it a nai its.toArray
    have hlt : i < its.toArray.size := by
      obtain ⟨h1, _⟩ := List.getElem?_eq_some_iff.mp hu
      simpa using h1
    refine wpAny_pyNext_enum_itemD D he ⟨hit, p'⟩ hlt hne (by simp [hne, Ne.symm nae]) fun x' h' tk hx' ho hit' hT hsz hk => ?_
    have ex : x' = u := by
      have : its.toArray[i]? = some u := by simpa using hu
      exact Option.some.inj (hx'.symm.trans this)
    subst ex
    refine ⟨_, rfl, wpAny_letOwnedTupleGo_enum (s := { s with heap := h', toks := tk + 1 }) ho fun h'' he' sb => ?_⟩
    have hT2 : h''.get? s.heap.objs.size = some { cls := .type "tuple", data := .seq #[.int i tk, x'] } := (sb.2 _ (Nat.ne_of_gt hel)).trans hT
    have new : ObjOk X.prog X.w (upd H s.heap.objs.size (.tup [.int (i : Nat), x])) h'' s.heap.objs.size (.tup [.int (i : Nat), x]) :=
      ⟨by show 2 ≤ sizeLine; decide, [.int i tk, x'], .cons ⟨_, rfl⟩ (.cons ru .nil), ⟨_, hT2, rfl, _, rfl⟩⟩
    have I1 : Inv X pins σ (upd H s.heap.objs.size (.tup [.int (i : Nat), x])) { s with heap := h'', toks := tk + 1 } :=
      I.turnedNew (ch := [e, it]) (fun b ob hb q => (sb.2 b (fun z => hb (by simp [z]))).trans (hk b ob (fun z => hb (by simp [z])) (fun z => hb (by simp [z])) q)) hf (Nat.le_refl _) new
    refine ⟨.ref s.heap.objs.size, _, I1, rfl, ⟨_, x, rfl, I.hok.fresh (Nat.le_refl _), rfl, fun ys hy => by rw [I.tuple_inj hy hq]; exact hx⟩, ⟨⟨x', ?_⟩, hit'.1.at fun o q => (sb.2 it (Ne.symm hne)).trans q, hne⟩, fun b hb => ?_⟩
    · have e1 : ((i + 1 : Nat) : Int) = (i : Int) + 1 := by omega
      rw [e1]; exact he'
    · have hb' : b < s.heap.objs.size := by
        have e' : b = e ∨ b = it := by simpa using hb
        rcases e' with z | z
        · rw [z]; exact hel
        · rw [z]; exact hil
      rw [upd_ne (Nat.ne_of_lt hb')]
      exact (hf b hb).1
  done := by
    intro X hP hw hK hc i pins s σ H E I hf st hg
    subst hP hw hK
    obtain ⟨⟨old, he⟩, hit, hne⟩ := st
    obtain ⟨xs, hq, hx⟩ := hg
    obtain ⟨its, rv, p, hz⟩ := I.tuple hq
    have p' : s.heap.IsTuple a its.toArray := p
    obtain ⟨f0, f1, f2, f3, f4, f5⟩ := hf it (by simp)
    have hl := rv.length
    have hT : s.TypeIs (.ref e) "enumerate" := ⟨_, he, rfl⟩
    unfold pyNext
    refine wpAny_bind (wpAny_attempt (wpAny_callSpecial?_slot (name := Str.ofString "__next__") hT F.slot_enumerate_next
      (wpAny_call_entry F.slot_enumerate_next hT F.entry_enumerate_next ?_ (F.args_enumerate_next_1 _))))
    show wpAny _ _ (field (.ref e) 2 >>= _) _ _ _
    refine wpAny_bind (wpAny_field he rfl (x := .ref it) rfl ?_)
    refine wpAny_bind (PySem.wpAny_nextOf_tuple_end (I.ok.hd hc) hit p' (by simp; omega) fun h' x he' hx' => ?_)
    obtain ⟨o, ho, hc'⟩ := hx'
    refine wpAny_bind (wpAny_isInstance (T := "StopIteration") (b := true) ⟨o, ho, hc'⟩ isSubtype_stop ?_)
    exact wpAny_pure ⟨rfl, I.turned (t' := s.toks) (fun b o hb q => he' b o hb q) f0 f1 f3 f4 f5⟩
  self := fun A i s Q E st h => let ⟨⟨_, he⟩, _⟩ := st; wpAny_pyIter_enum he h
def iEnumA (K : PySem.W.Frag) (ta : TA) : TI := fun σ H R => ta σ H fun vs H1 => ∃ a xs, vs = [.ref a] ∧ ((SqL K H1 a xs ∧ R (Ite K a) H1) ∨ (SqT K H1 a xs ∧ R (IteT K a) H1))
theorem pi_enumA {X : Cx} {e : Expr} {ta : TA} {p pos tpos : Pos} {elts : List Expr} {kk : Nat} (hg : Gl X "enumerate") (hm : X.mg "enumerate" = none) (ha : PA X [e] ta) (hs : starEach [e] X.env = [(false, eval e X.env)] := by rfl) :
    PI X (.Tuple elts kk tpos) (.Call (.Name "enumerate" p) [e] [] pos) (iEnumA X.K ta) := by
  refine ⟨fun pins s σ H R I h => ?_⟩
  refine Call_ (ld_blt I hg hm boot_enumerate (PyProof.Rows.callWith_type1 (thn (ha.run pos pins s σ H _ I h) fun us s1 ⟨vs, H1, I1, r1, q1⟩ => ?_) hs rfl))
  obtain ⟨a, xs, ex, hqq⟩ := q1
  subst ex
  cases r1 with
  | cons r rr =>
    cases rr
    cases r
    have fin : ∀ {Z : It} {St : Nat → Heap → Prop} {h' : Heap} , IsEnum h' (s1.heap.objs.size + 1) s1.heap.objs.size 0 .none → (∀ b o, s1.heap.get? b = some o → h'.get? b = some o) →
        Turn X.prog X.w X.K (.Tuple elts kk tpos) Z [s1.heap.objs.size + 1, s1.heap.objs.size] (s1.heap.objs.size + 1) St → St 0 h' → R Z H1 →
        wpAny (model X.prog X.w) X.A (pyIter (.ref (s1.heap.objs.size + 1))) (PIE X pins σ (.Tuple elts kk tpos) R) X.xe { s1 with heap := h' } := fun {Z St h'} he hk tu st q => by
      refine wpAny_pyIter_enum he ?_
      have I2 : Inv X pins σ H1 { s1 with heap := h' } := I1.kept (t' := s1.toks) hk
      refine ⟨s1.heap.objs.size + 1, [s1.heap.objs.size + 1, s1.heap.objs.size], _, _, H1, rfl, I2, tu, st, fun b hb => ?_, q⟩
      have e' : b = s1.heap.objs.size + 1 ∨ b = s1.heap.objs.size := by simpa using hb
      have hle : s1.heap.objs.size ≤ b := by
        rcases e' with z | z
        · rw [z]; exact Nat.le_add_right _ _
        · rw [z]; exact Nat.le_refl _
      exact I1.fpOk hle (I1.hok.fresh hle)
    rcases hqq with ⟨hq, q⟩ | ⟨hq, q⟩
    · obtain ⟨its, rv, p', hz⟩ := I1.list hq
      exact call_enumerate_list p'.isList fun h' he hit hsz hk => fin he hk (turn_enum a (s1.heap.objs.size + 1) s1.heap.objs.size) ⟨⟨.none, he⟩, hit, Nat.succ_ne_self _⟩ q
    · obtain ⟨its, rv, p', hz⟩ := I1.tuple hq
      exact call_enumT (show s1.heap.IsTuple a its.toArray from p') fun h' he hit hsz hk => fin he hk (turn_enumT a (s1.heap.objs.size + 1) s1.heap.objs.size) ⟨⟨.none, he⟩, hit, Nat.succ_ne_self _⟩ q
theorem walk_enumT {G : Gp} {Hv : Hp} {a : Addr} {vs : List V} {ds : List D} (h : SqT G.K Hv a vs) (r : RDs G Hv vs ds) : Walk G Hv (IteT G.K a) (ds.zipIdx.map fun p => .tw [.int (p.2 : Nat), p.1]) := fun i H Z z sm => by
  have hs : SqT G.K H a vs := Same.tupq hid_full (Same.tupq sm h)
  refine ⟨fun d hd => ?_, fun hl => ⟨vs, hs, by rw [List.length_map, List.length_zipIdx] at hl; rw [r.len]; exact hl⟩⟩
  rw [List.getElem?_map] at hd
  obtain ⟨⟨x, y⟩, e1, e2⟩ := Option.map_eq_some_iff.mp hd
  subst e2
  rw [List.getElem?_zipIdx] at e1
  obtain ⟨x', e3, e4⟩ := Option.map_eq_some_iff.mp e1
  rw [Nat.zero_add] at e4
  cases e4
  obtain ⟨v, h1, h2⟩ := r.get e3
  refine ⟨⟨vs, v, hs, h1⟩, fun x' H' ⟨T, v', e5, e6, e7, y1⟩ => ?_⟩
  subst e5 e7
  obtain rfl : v' = v := Option.some.inj ((y1 vs hs).symm.trans h1)
  have sm2 := Same.of_new (o := .tup [.int (i : Nat), v']) e6
  exact ⟨sm2, T, _, rfl, .inl (.inl upd_same), .cons (.int _) (.cons ((h2.mono sm).mono (Same.hid sm2)) .nil)⟩
def gEnumA : List D → Option (List IV)
  | [.lst xs] => some (xs.zipIdx.map fun p => .tw [.int (p.2 : Nat), p.1])
  | [.tup xs] => some (xs.zipIdx.map fun p => .tw [.int (p.2 : Nat), p.1])
  | _ => none
section
variable {X : Cx} {a : Expr} {fs : M (List RV)} {pos : Pos}
theorem di_enumA {elts : List Expr} {kk : Nat} {tpos p : Pos} (hg : Gl X "enumerate") (hm : X.mg "enumerate" = none) (ha : DA X [a] fs) (hs : starEach [a] X.env = [(false, eval a X.env)] := by rfl) :
    DI X (.Tuple elts kk tpos) (.Call (.Name "enumerate" p) [a] [] pos) (iCallI gEnumA fs) := ⟨fun F => pi_imp (pi_enumA hg hm (ha.run F) hs) fun σ H R ⟨A, ρ, ds, ρ', S, e, q⟩ => by
  obtain ⟨rs, ρ1, e1, e⟩ := bind_ok e
  obtain ⟨xs, ρ2, e2, e⟩ := bind_ok e
  obtain ⟨l2, rfl⟩ := opt_ok e2
  obtain ⟨l3, rfl⟩ := opt_ok e
  refine ⟨A, ρ, rs, _, S, e1, fun vs H1 S1 m1 r1 => ?_⟩
  have rd := imms_rd r1 l2
  unfold gEnumA at l3
  split at l3
  · cases l3
    obtain ⟨v, rfl, c1⟩ := rd.one
    cases c1 with
    | lst g1 g2 => exact ⟨_, _, rfl, .inl ⟨hid_full.seq g1, q _ _ S1 m1 (walk_enum g1 g2)⟩⟩
  · cases l3
    obtain ⟨v, rfl, c1⟩ := rd.one
    cases c1 with
    | tup g1 g2 => exact ⟨_, _, rfl, .inr ⟨Same.tupq hid_full g1.sq, q _ _ S1 m1 (walk_enumT g1.sq g2)⟩⟩
  · cases l3⟩
end
end Dv
namespace Dv
open PySem PySem.Spec PyProof.Rows L2
theorem tuple_mulS (l : Addr) (items : Array Value) (n : Nat) (dd : Option Addr) (sl : Array (Option Value)) (x : Int) (u : Tok) (c0 : (decide (x < -(2 ^ 63)) || decide (x ≥ 2 ^ 63)) = false) (c1 : (items.isEmpty || x == 1) = true) :
    Meets (Builtin.«tuple.__mul__» ⟨[.ref l, .int x u], []⟩) (fun _ R s => s.heap.get? l = some { cls := .type "tuple", dict := dd, data := .seq items n, slots := sl } ∧
      R (.ok (.ret (Value.ref l))) s) :=
  .of_wp fun prog w A R s h => by
    obtain ⟨hp, g, d, tk, os⟩ := s
    obtain ⟨hl, h⟩ := h
    have f1 := AutoSeq1.idx_int
    wp_walk using wpAny_loadPart' hl
    repeat (first
      | (refine wpAny_ite_false (decide_eq_false (by rw [c0]; exact Bool.false_ne_true)) ?_; wp_walk using wpAny_loadPart' hl)
      | (refine wpAny_ite_true (decide_eq_true c1) ?_; wp_walk using wpAny_loadPart' hl)
      | (rw [if_pos c1]; wp_walk using wpAny_loadPart' hl))
    exact ⟨_, rfl, h⟩
def rRepF (K : PySem.W.Frag) : R2 := fun x y H Q => ∃ l k xs, x = .ref l ∧ y = .int k ∧ SqT K H l xs ∧ 1 ≤ k ∧ k ≤ 1000 ∧ xs.length ≤ 1000 ∧ (k = 1 ∨ xs = [] → Q (.ref l) H) ∧ (2 ≤ k → xs ≠ [] → ∀ p its, H p = none → Q (.ref p) (upd H p (tHO its (List.replicate k.toNat xs).flatten)))
section
variable {X : Cx}
theorem op_repF : OpR X (binaryOp .Mult) (rRepF X.K) := by
  intro pins s σ H x y v u Q I rx ry h
  obtain ⟨l, k, xs, rfl, rfl, hT, h1, h2, hz, q1, q2⟩ := h
  cases rx
  obtain ⟨t, rfl⟩ := ry
  obtain ⟨its, r, ⟨⟨cls, dd, data, sl⟩, ho, hc, n, hd⟩, hs⟩ := I.tuple hT
  simp only at hc hd
  subst hc hd
  have hle : its.length = xs.length := r.length.symm
  have c0 : (decide (k < -(2 ^ 63)) || decide (k ≥ 2 ^ 63)) = false := by
    rw [decide_eq_false (by omega), decide_eq_false (by omega)] <;> rfl
  by_cases hk : k = 1 ∨ xs = []
  · have c1 : (its.toArray.isEmpty || k == 1) = true := by
      rcases hk with e | e
      · subst e; simp
      · subst e
        cases its with
        | nil => rfl
        | cons a b => simp at hle
    refine wpAny_binaryOp_repeat_ref (T := "tuple") (U := "int") (by decide) ⟨_, ho, rfl⟩ (fun s' => typeIs_int s' k t) noFill_tuple_mul F.fills_int_mul F.slot_int_rmul repeat_tuple F.slot_int_index.lookup
      (call_meets F.slot_int_rmul (typeIs_int s k t) F.entry_int_rmul (F.args_int_rmul_2 _ _) (int_rmul_tuple k t l its.toArray n dd sl)
        ⟨ho, rfl, ⟨_, ho, rfl⟩, call_meets F.slot_tuple_mul ⟨_, ho, rfl⟩ F.entry_tuple_mul (F.args_tuple_mul_2 _ _) (tuple_mulS l its.toArray n dd sl k t c0 c1) ⟨ho, ?_⟩⟩)
    exact ⟨.ref l, H, I, rfl, q1 hk⟩
  · have hne : xs ≠ [] := fun e => hk (.inr e)
    have k2 : 2 ≤ k := by
      have : k ≠ 1 := fun e => hk (.inl e)
      omega
    have hn : its ≠ [] := fun e => hne (by
      rw [e] at hle
      exact List.eq_nil_of_length_eq_zero hle.symm)
    have hi : its.toArray.isEmpty = false := by
      cases its with
      | nil => exact absurd rfl hn
      | cons a b => rfl
    have hsz0 : its.toArray.size = xs.length := by rw [List.size_toArray, hle]
    have hm : ((its.toArray.size : Nat) : Int) * k ≤ 1000000 := by
      rw [hsz0]
      have a1 : ((xs.length : Nat) : Int) * k ≤ 1000 * k := Int.mul_le_mul_of_nonneg_right (by omega) (by omega)
      omega
    have flen : (List.replicate k.toNat its).flatten.length ≤ sizeLine := by
      rw [PyProof.Rows.lm_len_rep_flat, hle, sizeLine_eq]
      have a1 : k.toNat * xs.length ≤ 1000 * 1000 := Nat.mul_le_mul (by omega) hz
      omega
    have c1 : (its.toArray.isEmpty || k == 1) = false := by
      rw [hi, Bool.false_or]
      exact beq_eq_false_iff_ne.mpr (by omega)
    have c2 : (decide (k ≤ 0) || its.toArray.isEmpty) = false := by
      rw [hi, Bool.or_false]
      exact decide_eq_false (by omega)
    have c4 : Builtin.Tuple.tupleTooMany (((its.toArray.size : Nat) : Int) * k) = false := by
      unfold Builtin.Tuple.tupleTooMany
      rw [sizeLine_eq]
      exact decide_eq_false (by omega)
    refine wpAny_binaryOp_repeat_ref (T := "tuple") (U := "int") (by decide) ⟨_, ho, rfl⟩ (fun s' => typeIs_int s' k t) noFill_tuple_mul F.fills_int_mul F.slot_int_rmul repeat_tuple F.slot_int_index.lookup
      (call_meets F.slot_int_rmul (typeIs_int s k t) F.entry_int_rmul (F.args_int_rmul_2 _ _) (int_rmul_tuple k t l its.toArray n dd sl)
        ⟨ho, rfl, ⟨_, ho, rfl⟩, call_meets F.slot_tuple_mul ⟨_, ho, rfl⟩ F.entry_tuple_mul (F.args_tuple_mul_2 _ _) (tuple_mulW l its.toArray n dd sl k t c0 c1 c2 (by omega) c4 (by rw [size_rep, List.size_toArray]; exact flen)) ⟨ho, ?_⟩⟩)
    rw [size_rep]
    exact ⟨.ref s.heap.objs.size, _, lay_tup I (r.rep k.toNat) (by rw [PyProof.Rows.lm_len_rep_flat, sizeLine_eq]; have a1 : k.toNat * xs.length ≤ 1000 * 1000 := Nat.mul_le_mul (by omega) hz; omega) s.toks, rfl, q2 k2 hne _ _ (I.hok.fresh (Nat.le_refl _))⟩
def gMulT : D → D → Option D
  | .tup xs, .int k => if 1 ≤ k ∧ k ≤ 1000 ∧ xs.length ≤ 1000 then some (.tup (List.replicate k.toNat xs).flatten) else none
  | _, _ => none
theorem od_mulT : OpD X (binaryOp .Mult) gMulT := ⟨_, op_repF, fun Z H x y dx dy d Q z rx ry e q => by
  unfold gMulT at e
  split at e
  · rename_i xs k
    split at e
    · rename_i hz
      cases e
      obtain ⟨a, vs, rfl, h1, h2⟩ := rx.tup
      have ry' := ry.int
      subst ry'
      refine ⟨a, k, vs, rfl, rfl, h1.sq, hz.1, hz.2.1, by rw [h2.len]; exact hz.2.2, fun e1 => ?_, fun e1 e2 p its hp => ?_⟩
      · have e3 : (List.replicate k.toNat xs).flatten = xs := by
          rcases e1 with e1 | e1
          · subst e1; simp
          · subst e1
            cases h2
            simp
        rw [e3] at q
        rcases rx with rx | ⟨_, _, _, _, ee, _⟩
        · exact q _ H (Same.refl _) rx
        · cases ee
      · have sm := Same.of_new (o := tHO its (List.replicate k.toNat vs).flatten) hp
        exact q _ _ sm (.tup (.inl ⟨_, hid_new z hp, rfl⟩) ((h2.rep k.toNat).mono (Same.hid sm)))
    · cases e
  · cases e⟩
end
theorem de_gstr {X : Cx} {x z : Str} {pos : Pos} (hg : Gl X x) (hm : ∃ t, X.mg x = some (.str z t)) (hd : (x == ("__debug__" : Str)) = false := by decide) : DE X (.Name x pos) (eC (.str z)) := by
  obtain ⟨t, h⟩ := hm
  exact de_c (v := .str z) (pe_glob hg h ⟨t, rfl⟩ hd) fun _ => .str z
end Dv
namespace Dv
open PySem PySem.Spec PyProof.Rows L2
def evP : List (M PV) → M (List PV)
  | [] => M.ret []
  | f :: fs => M.bind f fun p => M.bind (evP fs) fun ps => M.ret (p :: ps)
def putPs : List Nat → List PV → M Unit
  | i :: is, p :: ps => M.bind (putP i p) fun _ => putPs is ps
  | [], [] => M.ret ()
  | _, _ => fun _ => .no
def sParN (is : List Nat) (fs : List (M PV)) : SS := M.bind (evP fs) fun ps => M.bind (putPs is ps) fun _ => M.ret .nx
def Fm.hides (F : Fm) : List Addr → Fm
  | [] => F
  | p :: ps => (F.hide p).hides ps
theorem hides_H0 : ∀ (ps : List Addr) (F : Fm), (F.hides ps).H0 = F.H0
  | [], F => rfl
  | p :: ps, F => hides_H0 ps (F.hide p)
theorem hides_B : ∀ (ps : List Addr) (F : Fm), (F.hides ps).B = F.B
  | [], F => rfl
  | p :: ps, F => hides_B ps (F.hide p)
theorem mem_hides : ∀ {ps : List Addr} {F : Fm} {a : Addr}, a ∈ (F.hides ps).Z ↔ a ∈ ps ∨ a ∈ F.Z
  | [], F, a => by simp [Fm.hides]
  | p :: ps, F, a => by
    rw [Fm.hides, mem_hides]
    show a ∈ ps ∨ a ∈ p :: F.Z ↔ _
    simp only [List.mem_cons]
    constructor
    · rintro (h | h | h)
      · exact .inl (.inr h)
      · exact .inl (.inl h)
      · exact .inr h
    · rintro ((h | h) | h)
      · exact .inr (.inl h)
      · exact .inl h
      · exact .inr (.inr h)
theorem mem_zs_hides {ps : List Addr} {F : Fm} {A : Own} {a : Addr} : a ∈ zs (F.hides ps) A ↔ a ∈ ps ∨ a ∈ zs F A := by
  rw [mem_zs, mem_zs, mem_hides]
  constructor
  · rintro ((h | h) | h)
    · exact .inl h
    · exact .inr (.inl h)
    · exact .inr (.inr h)
  · rintro (h | h | h)
    · exact .inl (.inl h)
    · exact .inl (.inr h)
    · exact .inr h
theorem Sts.perm {G : Gp} {F F' : Fm} {A : Own} {σ : St} {ρ : Rho} {H : Hp} (S : Sts G F A σ ρ H) (h0 : F.H0 = F'.H0) (hb : F.B = F'.B) (hz : ∀ a, a ∈ F.Z ↔ a ∈ F'.Z) : Sts G F' A σ ρ H := by
  have hzs : ∀ a, a ∈ zs F A ↔ a ∈ zs F' A := fun a => by rw [mem_zs, mem_zs, hz a]
  have e := hid_eq (H := H) hzs
  have ow : ∀ {j a ys}, OwAt G F A σ H j a ys → OwAt G F' A σ H j a ys := fun {j a ys} ⟨h1, vs, h2, h3⟩ => ⟨h1, vs, h2, by rw [← e]; exact h3⟩
  refine ⟨S.len, fun j d h => ?_, fun j ys h => ?_, fun j ys h => ?_, S.own, S.uni, fun j a h => ?_, fun a o h n => ?_, fun a ha => S.zok a ((hz a).mpr ha)⟩
  · obtain ⟨v, h1, h2⟩ := S.im j d h
    exact ⟨v, h1, by rw [← e]; exact h2⟩
  · obtain ⟨a, h1, h2, h3, h4⟩ := S.ow j ys h
    exact ⟨a, h1, fun z => h2 ((hz a).mpr z), by rw [← h0]; exact h3, ow h4⟩
  · obtain ⟨a, h1, h2, h3⟩ := S.bo j ys h
    exact ⟨a, h1, by rw [← hb]; exact h2, ow h3⟩
  · rw [← hb] at h; exact S.bor j a h
  · rw [← h0] at h; rw [← hb] at n; exact S.keep a o h n
theorem stp_hides {F : Fm} {A : Own} {H H' : Hp} {ps : List Addr} (hp : ∀ p ∈ ps, H p = none) (m : Stp A H H') : Same (hid (zs F A) H) (hid (zs (F.hides ps) A) H') := fun a o e => by
  obtain ⟨e1, e2⟩ := hid_some e
  refine hid_of (fun z => ?_) (m a o e2 fun i z => e1 (mem_zs.mpr (.inr ⟨i, z⟩)))
  rcases mem_zs_hides.mp z with z | z
  · rw [hp a z] at e2; cases e2
  · exact e1 z
inductive RPs (G : Gp) (Z : List Addr) (H : Hp) : List Addr → List V → List PV → Prop
  | nil : RPs G Z H [] [] []
  | v {ps : List Addr} {v : V} {vs : List V} {r : RV} {pv : List PV} : (∀ d, r = .im d → RD G (hid Z H) v d) → RPs G Z H ps vs pv → RPs G Z H ps (v :: vs) (.v r :: pv)
  | f {p : Addr} {ps : List Addr} {vs : List V} {ws : List V} {xs : List D} {pv : List PV} : H p = some (.lst ws) → RDs G (hid Z H) ws xs → RPs G Z H ps vs pv → RPs G Z H (p :: ps) (.ref p :: vs) (.f xs :: pv)
theorem RPs.mono {G : Gp} {Z Z' : List Addr} {H H' : Hp} (e : Same (hid Z H) (hid Z' H')) : ∀ {ps : List Addr} {vs : List V} {pv : List PV}, (∀ p ∈ ps, ∀ ws, H p = some (.lst ws) → H' p = some (.lst ws)) → RPs G Z H ps vs pv → RPs G Z' H' ps vs pv
  | _, _, _, _, .nil => .nil
  | _, _, _, k, .v a b => .v (fun d h => RD.mono e (a d h)) (RPs.mono e k b)
  | _, _, _, k, .f a b c => .f (k _ List.mem_cons_self _ a) (RDs.mono e b) (RPs.mono e (fun p hp => k p (List.mem_cons_of_mem _ hp)) c)
def tPs (G : Gp) (f : M (List PV)) : TA := fun σ H Q => ∃ F A ρ pv ρ', Sts G F A σ ρ H ∧ f ρ = .ok pv ρ' ∧
  ∀ ps vs H', Sts G (F.hides ps) A σ ρ' H' → (∀ p ∈ ps, F.H0 p = none ∧ p ∉ zs F A ∧ H p = none) → ps.Nodup → Stp A H H' → RPs G (zs (F.hides ps) A) H' ps vs pv → Q vs H'
structure DPs (X : Cx) (es : List Expr) (fs : List (M PV)) : Prop where
  run : PA X es (tPs (Gx X) (evP fs))
theorem dps_nil {X : Cx} : DPs X [] [] := ⟨pa_imp pa_nil fun σ H Q ⟨F, A, ρ, pv, ρ', S, e, q⟩ => by
  obtain ⟨rfl, rfl⟩ := ret_ok e
  exact q [] [] H S (fun p h => nomatch h) .nil (Stp.refl _ _) .nil⟩
theorem dps_v {X : Cx} {a : Expr} {es : List Expr} {fa : ES} {fs : List (M PV)} (ha : DE X a fa) (hr : DPs X es fs) (hs : starEach (a :: es) X.env = (false, eval a X.env) :: starEach es X.env := by rfl) : DPs X (a :: es) (pV fa :: fs) := ⟨pa_imp (pa_cons (pe_any ha.run) hr.run hs) fun σ H Q ⟨F, A, ρ, pv, ρ', S, e, q⟩ => by
  obtain ⟨p1, ρ1, e1, e⟩ := bind_ok e
  obtain ⟨ps1, ρ2, e2, e⟩ := bind_ok e
  obtain ⟨rfl, rfl⟩ := ret_ok e
  obtain ⟨r, ρa, ea, ea'⟩ := bind_ok e1
  obtain ⟨rfl, rfl⟩ := ret_ok ea'
  refine ⟨F, A, ρ, r, _, S, ea, fun v H1 S1 m1 r1 => ?_⟩
  refine ⟨F, A, _, ps1, _, S1, e2, fun ps vs H2 S2 hp nd m2 rp => ?_⟩
  refine q ps (v :: vs) H2 S2 (fun p h => ?_) nd (m1.trans m2) (.v (fun d hd => ?_) rp)
  · obtain ⟨h1, h2, h3⟩ := hp p h
    exact ⟨h1, h2, back_none S m1 S1 h3⟩
  · subst hd
    exact RD.mono (stp_hides (fun p h => (hp p h).2.2) m2) r1⟩
theorem dps_n {X : Cx} {a : Expr} {es : List Expr} {fa : M (List D)} {fs : List (M PV)} (ha : DN X a fa) (hr : DPs X es fs) (hs : starEach (a :: es) X.env = (false, eval a X.env) :: starEach es X.env := by rfl) : DPs X (a :: es) (pN fa :: fs) := ⟨pa_imp (pa_cons (pe_any ha.run) hr.run hs) fun σ H Q ⟨F, A, ρ, pv, ρ', S, e, q⟩ => by
  obtain ⟨p1, ρ1, e1, e⟩ := bind_ok e
  obtain ⟨ps1, ρ2, e2, e⟩ := bind_ok e
  obtain ⟨rfl, rfl⟩ := ret_ok e
  obtain ⟨xs, ρa, ea, ea'⟩ := bind_ok e1
  obtain ⟨rfl, rfl⟩ := ret_ok ea'
  refine ⟨F, A, ρ, xs, _, S, ea, fun p ws H1 S1 h0 hz m1 hn hp1 rd => ?_⟩
  refine ⟨F.hide p, A, _, ps1, _, S1, e2, fun ps vs H2 S2 hp nd m2 rp => ?_⟩
  have npA : ∀ k, (k, p) ∉ A := fun k z => hz (mem_zs.mpr (.inr ⟨k, z⟩))
  have hp2 : H2 p = some (.lst ws) := m2 p _ hp1 npA
  refine q (p :: ps) (.ref p :: vs) H2 S2 (fun y hy => ?_) (List.nodup_cons.mpr ⟨fun z => ?_, nd⟩) (m1.trans m2) (.f hp2 (RDs.mono (stp_hides (fun p h => (hp p h).2.2) m2) rd) rp)
  · rcases List.mem_cons.mp hy with rfl | hy
    · exact ⟨h0, hz, hn⟩
    · obtain ⟨h1, h2, h3⟩ := hp y hy
      have h2' : y ∉ zs F A := fun z => h2 (zs_hide.mpr (.inr z))
      refine ⟨h1, h2', ?_⟩
      cases e : H y with
      | none => rfl
      | some o =>
        have := m1 y o e fun i z => h2' (mem_zs.mpr (.inr ⟨i, z⟩))
        rw [h3] at this
        cases this
  · rw [(hp p z).2.2] at hp1
    cases hp1⟩
def setAll : List Nat → List V → St → St
  | i :: is, v :: vs, σ => setAll is vs (σ.set i (some v))
  | _, _, σ => σ
theorem puts {G : Gp} {H : Hp} : ∀ {is : List Nat} {pv : List PV} {vs : List V} {ps : List Addr} {F : Fm} {A : Own} {σ : St} {ρ ρ' : Rho} {u : Unit}, Sts G (F.hides ps) A σ ρ H → (∀ p ∈ ps, F.H0 p = none ∧ p ∉ zs F A) → ps.Nodup → RPs G (zs (F.hides ps) A) H ps vs pv → putPs is pv ρ = .ok u ρ' →
    ∃ A', Sts G F A' (setAll is vs σ) ρ' H ∧ (∀ k a, (k, a) ∈ A' → (k, a) ∈ A ∨ a ∈ ps) ∧ is.length = vs.length
  | [], _, _, _, F, A, σ, ρ, ρ', u, S, hp, nd, rp, e => by
    cases rp with
    | nil =>
      obtain ⟨_, rfl⟩ := ret_ok e
      exact ⟨A, S, fun k a h => .inl h, rfl⟩
    | v a b => cases e
    | f a b c => cases e
  | i :: is, _, _, ps, F, A, σ, ρ, ρ', u, S, hp, nd, rp, e => by
    cases rp with
    | nil => cases e
    | @v _ v vs r pv a b =>
      obtain ⟨_, ρ1, e1, e9⟩ := bind_ok e
      obtain ⟨d, ρ2, e2, e1⟩ := bind_ok e1
      obtain ⟨rfl, rfl⟩ := imm_ok e2
      obtain ⟨S1, m1⟩ := S.set (v := v) e1 (a d rfl)
      have hp1 : ∀ p ∈ ps, F.H0 p = none ∧ p ∉ zs F (drop1 A i) := fun p h => ⟨(hp p h).1, fun z => (hp p h).2 (zs_drop1 p z)⟩
      have b' := RPs.mono m1 (fun p _ ws h => h) b
      obtain ⟨A', S2, h2, hl⟩ := puts S1 hp1 nd b' e9
      exact ⟨A', S2, fun k a h => by
        rcases h2 k a h with h | h
        · exact .inl (mem_drop1.mp h).1
        · exact .inr h, by rw [List.length_cons, List.length_cons, hl]⟩
    | @f p ps vs ws xs pv a b c =>
      obtain ⟨_, ρ1, e1, e9⟩ := bind_ok e
      obtain ⟨np, nd'⟩ := List.nodup_cons.mp nd
      have hz : ∀ a, a ∈ (F.hides (p :: ps)).Z ↔ a ∈ ((F.hides ps).hide p).Z := fun a => by
        rw [mem_hides]
        show _ ↔ a ∈ p :: (F.hides ps).Z
        rw [List.mem_cons, List.mem_cons, mem_hides, or_assoc]
      have hzs : ∀ a, a ∈ zs (F.hides (p :: ps)) A ↔ a ∈ zs ((F.hides ps).hide p) A := fun a => by rw [mem_zs, mem_zs, hz a]
      have S' : Sts G ((F.hides ps).hide p) A σ ρ H := S.perm (by rw [hides_H0]; show F.H0 = (F.hides ps).H0; rw [hides_H0]) (by rw [hides_B]; show F.B = (F.hides ps).B; rw [hides_B]) hz
      have eh := hid_eq (H := H) hzs
      obtain ⟨q1, q2⟩ := hp p List.mem_cons_self
      have hz2 : p ∉ zs (F.hides ps) A := fun z => by
        rcases mem_zs_hides.mp z with z | z
        · exact np z
        · exact q2 z
      obtain ⟨S1, m1⟩ := S'.setN (i := i) (by rw [hides_H0]; exact q1) hz2 a (by rw [← eh]; exact b) e1
      have hp1 : ∀ y ∈ ps, F.H0 y = none ∧ y ∉ zs F ((i, p) :: drop1 A i) := fun y h => ⟨(hp y (List.mem_cons_of_mem _ h)).1, fun z => by
        rcases mem_zs.mp z with z | ⟨k, z⟩
        · exact (hp y (List.mem_cons_of_mem _ h)).2 (mem_zs.mpr (.inl z))
        · rcases List.mem_cons.mp z with z | z
          · cases z; exact np h
          · exact (hp y (List.mem_cons_of_mem _ h)).2 (mem_zs.mpr (.inr ⟨k, (mem_drop1.mp z).1⟩))⟩
      have m1' : Same (hid (zs (F.hides (p :: ps)) A) H) (hid (zs (F.hides ps) ((i, p) :: drop1 A i)) H) := by rw [eh]; exact m1
      have c2 := RPs.mono m1' (fun p _ ws h => h) c
      obtain ⟨A', S2, h2, hl⟩ := puts S1 hp1 nd' c2 e9
      exact ⟨A', S2, fun k a h => by
        rcases h2 k a h with h | h
        · rcases List.mem_cons.mp h with h | h
          · cases h; exact .inr List.mem_cons_self
          · exact .inl (mem_drop1.mp h).1
        · exact .inr (List.mem_cons_of_mem _ h), by rw [List.length_cons, List.length_cons, hl]⟩
theorem parN_end {G : Gp} {F : Fm} {A : Own} {σ : St} {ρ ρ' : Rho} {H H1 : Hp} {D : Ends} {is : List Nat} {pv : List PV} {vs : List V} {ps : List Addr} {u : Unit} (S : Sts G (F.hides ps) A σ ρ H1) (hp : ∀ p ∈ ps, F.H0 p = none ∧ p ∉ zs F A ∧ H p = none) (nd : ps.Nodup) (m : Stp A H H1) (rp : RPs G (zs (F.hides ps) A) H1 ps vs pv) (e : putPs is pv ρ = .ok u ρ') (oo : OutS G F A H D (.ok .nx ρ')) :
    is.length = vs.length ∧ D.nx (setAll is vs σ) H1 := by
  obtain ⟨A', S2, h2, hl⟩ := puts S (fun p h => ⟨(hp p h).1, (hp p h).2.1⟩) nd rp e
  refine ⟨hl, oo _ _ _ S2 fun c w h n => ⟨m c w h n, fun k z => ?_⟩⟩
  rcases h2 k c z with z | z
  · exact n k z
  · rw [(hp c z).2.2] at h; cases h
section
variable {X : Cx} {i j l : Nat} {x y z : Str} {a b c : Expr} {es : List Expr} {fs : List (M PV)} {px py pz pt pos : Pos} {kt k2 pt2}
theorem ds_parN2 (hc : X.calm = true) (hN : X.N.Nodup) (hi : X.N[i]? = some x) (hj : X.N[j]? = some y) (hij : i ≠ j)
    (hx : X.env.scope.names.lookup x = some .local) (hy : X.env.scope.names.lookup y = some .local) (ha : DPs X [a, b] fs)
    (hw : swappedStores [.Tuple [.Name x px, .Name y py] kt pt] (.Tuple [a, b] k2 pt2) X.env = pure (some [x, y]))
    (hs : swapsWithSole [.Tuple [.Name x px, .Name y py] kt pt] (.Tuple [a, b] k2 pt2) pos.line X.env = pure false := by rfl) :
    DS X (.Assign [.Tuple [.Name x px, .Name y py] kt pt] (.Tuple [a, b] k2 pt2) pos) (sParN [i, j] fs) := ⟨fun F => ps_imp (ps_par hc hN hi hj hij hx hy ha.run hw hs) fun D σ H ⟨A, ρ, S, o⟩ => by
  obtain ⟨pv, ρ1, e1, o⟩ := out_bind o
  obtain ⟨_, ρ2, e2, oo⟩ := out_bind o
  refine ⟨F, A, ρ, pv, ρ1, S, e1, fun ps vs H1 S1 hp nd m rp => ?_⟩
  obtain ⟨hl, h⟩ := parN_end S1 hp nd m rp e2 oo
  match vs, hl, h with
  | [u, v], _, h => exact ⟨u, v, rfl, h⟩⟩
theorem ds_parN3 (hc : X.calm = true) (hN : X.N.Nodup) (hi : X.N[i]? = some x) (hj : X.N[j]? = some y) (hl : X.N[l]? = some z) (hij : i ≠ j) (hil : i ≠ l) (hjl : j ≠ l)
    (hx : X.env.scope.names.lookup x = some .local) (hy : X.env.scope.names.lookup y = some .local) (hz : X.env.scope.names.lookup z = some .local) (ha : DPs X [a, b, c] fs)
    (hw : swappedStores [.Tuple [.Name x px, .Name y py, .Name z pz] kt pt] (.Tuple [a, b, c] k2 pt2) X.env = pure (some [x, y, z]))
    (hs : swapsWithSole [.Tuple [.Name x px, .Name y py, .Name z pz] kt pt] (.Tuple [a, b, c] k2 pt2) pos.line X.env = pure false := by rfl) :
    DS X (.Assign [.Tuple [.Name x px, .Name y py, .Name z pz] kt pt] (.Tuple [a, b, c] k2 pt2) pos) (sParN [i, j, l] fs) := ⟨fun F => ps_imp (ps_par3 hc hN hi hj hl hij hil hjl hx hy hz ha.run hw hs) fun D σ H ⟨A, ρ, S, o⟩ => by
  obtain ⟨pv, ρ1, e1, o⟩ := out_bind o
  obtain ⟨_, ρ2, e2, oo⟩ := out_bind o
  refine ⟨F, A, ρ, pv, ρ1, S, e1, fun ps vs H1 S1 hp nd m rp => ?_⟩
  obtain ⟨hl, h⟩ := parN_end S1 hp nd m rp e2 oo
  match vs, hl, h with
  | [u, v, w], _, h => exact ⟨u, v, w, rfl, h⟩⟩
inductive NmsG (X : Cx) : List Expr → List Nat → TGs → Prop
  | nil : NmsG X [] [] gNil
  | cons {x : Str} {p : Pos} {i : Nat} {es : List Expr} {is : List Nat} {t : TGs} : X.N[i]? = some x → Loc X.env.scope x → (X.fn x = true ∨ X.env.scope.names.lookup x = some .local) → (assignEach (.Name x p :: es) X.env).map (·.2) = assign (.Name x p) X.env :: (assignEach es X.env).map (·.2) → NmsG X es is t → NmsG X (.Name x p :: es) (i :: is) (gCons (gName i) t)
theorem nmsG_pgs (hN : X.N.Nodup) : ∀ {es : List Expr} {is : List Nat} {t : TGs}, NmsG X es is t → PGs X es t
  | _, _, _, .nil => pgs_nil
  | _, _, _, .cons h1 h2 h3 h4 r => pgs_cons (pg_name hN h1 h2 h3) (nmsG_pgs hN r) h4
theorem nmsG_rd {D : St → Hp → Prop} {H : Hp} : ∀ {es : List Expr} {is : List Nat} {t : TGs} {vs : List V} {σ : St}, NmsG X es is t → is.length = vs.length → D (setAll is vs σ) H → t vs σ H D
  | _, _, _, [], σ, .nil, hl, h => ⟨rfl, h⟩
  | _, _, _, v :: vs, σ, .cons _ _ _ _ r, hl, h => ⟨v, vs, rfl, nmsG_rd r (Nat.succ.inj hl) h⟩
  | _, _, _, v :: vs, σ, .nil, hl, h => by cases hl
  | _, _, _, [], σ, .cons _ _ _ _ r, hl, h => by cases hl
theorem ds_parT {ts : List Expr} {is : List Nat} {t : TGs} {n : Nat} (hc : X.calm = true) (hN : X.N.Nodup) (ht : NmsG X ts is t) (ha : DPs X es fs) (hln : is.length = n) (hns : n ≤ 1000000)
    (hw : swappedStores [.Tuple ts kt pt] (.Tuple es k2 pt2) X.env = pure none := by rfl)
    (hs : swapsWithSole [.Tuple ts kt pt] (.Tuple es k2 pt2) pos.line X.env = pure false := by rfl)
    (hn : (assignEach ts X.env).length = n := by rfl) (hst : (assignEach ts X.env).findIdx? (·.1) = none := by rfl)
    (h1 : (assignEach [.Tuple ts kt pt] X.env).map (·.2) = [assign (.Tuple ts kt pt) X.env] := by rfl) :
    DS X (.Assign [.Tuple ts kt pt] (.Tuple es k2 pt2) pos) (sParN is fs) := ⟨fun F => ps_imp (ps_asg (pe_tupF (k := k2) (pos := pt2) ha.run) (pg_tup (pos := pt) (k := kt) hc (nmsG_pgs hN ht) hn hst) hs hw h1) fun D σ H ⟨A, ρ, S, o⟩ => by
  obtain ⟨pv, ρ1, e1, o⟩ := out_bind o
  obtain ⟨_, ρ2, e2, oo⟩ := out_bind o
  refine ⟨F, A, ρ, pv, ρ1, S, e1, fun ps vs H1 S1 hp nd m rp => ?_⟩
  have hlen : is.length = vs.length := (parN_end S1 hp nd m rp e2 oo).1
  refine ⟨len_line (by omega), fun q its hq => ?_⟩
  have sm := Same.of_new (o := tHO its vs) hq
  have S2 := S1.same sm
  have rp2 := RPs.mono (Same.hid (Z := zs (F.hides ps) A) sm) (fun p _ ws h => sm _ _ h) rp
  obtain ⟨hl, h⟩ := parN_end S2 hp nd (m.trans (Stp.of sm)) rp2 e2 oo
  exact ⟨q, vs, rfl, .inl (.inr ⟨_, upd_same⟩), by omega, nmsG_rd ht hl h⟩⟩
end
end Dv
namespace Dv
open PySem PySem.Spec PyProof.Rows L2
section
variable {X : Cx}
def rRemI : V → List V → Hp → VK → Prop := fun x vs H Q => ∃ (l : Addr) (ns : List Int) (k : Int), x = .ref l ∧ vs = [.int k] ∧ H l = some (.lst (ns.map V.int)) ∧ k ∈ ns ∧ Q .non (upd H l (.lst ((ns.erase k).map V.int)))
theorem mt_removeI : MtR X "list.remove" rRemI := by
  intro pins s σ H x vs v us Q I rx rv h
  obtain ⟨l, ns, k, rfl, rfl, hH, hk, q⟩ := h
  cases rx
  obtain ⟨u, rfl, tk, rfl⟩ := rv.one
  obtain ⟨len, its, cap, rr, hl, at_l⟩ := I.lstM hH
  have hin : IntsAre its ns := intsAre_of rr
  have eqs := eq_isInt k tk hin
  have n1 : ns.length = its.length := by rw [← hl, List.length_map]
  obtain ⟨j, jl, jat, before, er⟩ := first_at hk
  have jt : j < its.length := by omega
  have big : its.toArray.size ≤ sizeLine := by rw [List.size_toArray, ← hl]; exact len
  refine call_meets F.slot_list_remove ⟨_, at_l, rfl⟩ F.entry_list_remove (F.args_list_remove_2 _ _)
    (MeetsSeq.list_remove l its.toArray cap (.int k tk) (PyProof.Rows.isInt k) (fun y hy => eqs y (by simpa using hy)) j (by rw [List.size_toArray]; exact jt) ?hit ?before big) ⟨at_l, ?_⟩
  case hit => exact (L2.isInt_at k hin j jt).mpr jat
  case before =>
    intro m hm hlt
    have hm' : m < its.length := by rw [List.size_toArray] at hm; exact hm
    show PyProof.Rows.isInt k its[m] = false
    rw [Bool.eq_false_iff]
    exact fun z => before m hlt ((L2.isInt_at k hin m hm').mp z)
  have rest : Vals ((ns.erase k).map V.int) (its.eraseIdx j) := by
    have := rr.eraseIdx j
    rw [map_eraseIdx', er] at this
    exact this
  refine ⟨.non, _, I.lset (its' := its.eraseIdx j) hH at_l ?_ rest ?_, rfl, q⟩
  · show its.toArray.eraseIdxIfInBounds j = (its.eraseIdx j).toArray
    rw [List.eraseIdxIfInBounds_toArray]
  · have := List.length_erase_le (a := k) (l := ns)
    rw [List.length_map] at len ⊢
    omega
def intsOf : List D → Option (List Int)
  | [] => some []
  | .int i :: r => (intsOf r).map (i :: ·)
  | _ :: _ => none
theorem intsOf_ok : ∀ {xs : List D} {ns : List Int}, intsOf xs = some ns → xs = ns.map D.int
  | [], ns, e => by cases e; rfl
  | .int i :: r, ns, e => by
    obtain ⟨m, e1, rfl⟩ := Option.map_eq_some_iff.mp (show (intsOf r).map (i :: ·) = some ns from e)
    rw [intsOf_ok e1]; rfl
  | .non :: _, _, e => by cases e
  | .bl _ :: _, _, e => by cases e
  | .str _ :: _, _, e => by cases e
  | .tup _ :: _, _, e => by cases e
  | .lst _ :: _, _, e => by cases e
  | .dct _ _ :: _, _, e => by cases e
  | .set _ :: _, _, e => by cases e
  | .obj _ _ _ :: _, _, e => by cases e
  | .ref _ :: _, _, e => by cases e
theorem intsOf_map : ∀ ns : List Int, intsOf (ns.map D.int) = some ns
  | [] => rfl
  | n :: r => by rw [List.map_cons, intsOf, intsOf_map r]; rfl
def cRem : Ch
  | xs, [.int k] => match intsOf xs with
    | some ns => if k ∈ ns then some (.non, (ns.erase k).map D.int) else none
    | none => none
  | _, _ => none
theorem md_remove : MtD X "list.remove" cRem := ⟨_, mt_removeI, fun Z H a vs ws xs ds ys d Q hz ha r rs e q => by
  unfold cRem at e
  split at e
  · rename_i k
    split at e
    · rename_i ns e1
      split at e
      · rename_i hk
        cases e
        obtain ⟨v, rfl, rv⟩ := rs.one
        cases rv
        obtain rfl := intsOf_ok e1
        obtain rfl := r.ints
        exact ⟨a, ns, k, rfl, rfl, ha, hk, q _ _ .non (RDs.map_int _)⟩
      · cases e
    · cases e
  · cases e⟩
def Small {α : Type} (xs : List α) : Prop := xs.length < 1000000
def rIns : V → List V → Hp → VK → Prop := fun x vs H Q => ∃ (l : Addr) (xs : List V) (k : Int) (y : V), x = .ref l ∧ vs = [.int k, y] ∧ H l = some (.lst xs) ∧ 0 ≤ k ∧ k.toNat ≤ xs.length ∧ Small xs ∧ Q .non (upd H l (.lst (xs.take k.toNat ++ y :: xs.drop k.toNat)))
theorem vals_take : ∀ {vs : List V} {us : List Value} (k : Nat), Vals vs us → Vals (vs.take k) (us.take k)
  | _, _, 0, _ => .nil
  | _, _, _ + 1, .nil => .nil
  | _, _, k + 1, .cons a r => .cons a (vals_take k r)
theorem vals_drop : ∀ {vs : List V} {us : List Value} (k : Nat), Vals vs us → Vals (vs.drop k) (us.drop k)
  | _, _, 0, r => r
  | _, _, _ + 1, .nil => .nil
  | _, _, k + 1, .cons a r => vals_drop k r
theorem mt_insert : MtR X "list.insert" rIns := by
  intro pins s σ H x vs v us Q I rx rv h
  obtain ⟨l, xs, k, y, rfl, rfl, hH, k0, hk, small, q⟩ := h
  cases rx
  obtain ⟨len, its, cap, rr, hl, at_l⟩ := I.lstM hH
  obtain ⟨tk, u, rfl, ru⟩ : ∃ tk u, us = [.int k tk, u] ∧ RelV y u := by
    cases rv with
    | cons r0 r1 =>
      obtain ⟨w, rfl, ru⟩ := Vals.one r1
      obtain ⟨tk, rfl⟩ := r0
      exact ⟨tk, w, rfl, ru⟩
  have small' : xs.length < 1000000 := small
  have fits0 : Builtin.List.listFitsIndex k = true := fitsIndex_both (Int.le_trans (by decide) k0) (by omega)
  have fits : ¬(!Builtin.List.listFitsIndex k) = true := by rw [fits0]; exact Bool.false_ne_true
  have big : its.toArray.size ≤ sizeLine := by rw [List.size_toArray, ← hl]; exact len
  have M := AutoSeq1.list_insert_list_int_val_1 l its.toArray cap k tk u fits big
  refine call_meets F.slot_list_insert ⟨_, at_l, rfl⟩ F.entry_list_insert (F.args_list_insert_3 _ _ _) M ⟨at_l, ?_⟩
  refine ⟨.non, _, I.lset (its' := its.take k.toNat ++ u :: its.drop k.toNat) hH at_l ?_ ((vals_take k.toNat rr).append (.cons ru (vals_drop k.toNat rr))) ?_, rfl, q⟩
  · have e0 : ¬ (k < 0) := by omega
    have e1 : min k.toNat its.toArray.size = k.toNat := by rw [List.size_toArray, ← hl]; omega
    show (have j := if k < 0 then (k + (its.toArray.size : Int)).toNat else min k.toNat its.toArray.size; (its.toArray.extract 0 j).push u ++ its.toArray.extract j) = _
    dsimp only
    rw [if_neg e0, e1]
    apply Array.ext'
    simp [List.take_of_length_le]
  · rw [List.length_append, List.length_take, List.length_cons, List.length_drop, sizeLine_eq]
    omega
def cIns : Ch
  | xs, [.int k, d] => if 0 ≤ k ∧ k.toNat ≤ xs.length ∧ xs.length < 1000000 then some (.non, xs.take k.toNat ++ d :: xs.drop k.toNat) else none
  | _, _ => none
theorem md_insert : MtD X "list.insert" cIns := ⟨_, mt_insert, fun Z H a vs ws xs ds ys d Q hz ha r rs e q => by
  unfold cIns at e
  split at e
  · rename_i k d0
    split at e
    · rename_i hk
      cases e
      obtain ⟨v, u, rfl, rv, ru⟩ := rs.two
      cases rv
      exact ⟨a, vs, k, u, rfl, rfl, ha, hk.1, by rw [r.len]; exact hk.2.1, by show vs.length < 1000000; rw [r.len]; exact hk.2.2, q _ _ .non ((r.take k.toNat).app (.cons ru (r.drop k.toNat)))⟩
    · cases e
  · cases e⟩
def gTupL (n : Nat) (gs : List D → M Unit) : IV → M Unit
  | .im (.lst ds) => if ds.length = n then gs ds else fun _ => .no
  | _ => fun _ => .no
theorem dg_lst {es : List Expr} {k n : Nat} {sl : List Nat} {gs : List D → M Unit} {pos : Pos} (hc : X.calm = true) (h : DGs X es sl gs)
    (hn : (assignEach es X.env).length = n := by rfl) (hst : (assignEach es X.env).findIdx? (·.1) = none := by rfl) : DG X (.Tuple es k pos) sl (gTupL n gs) := ⟨fun F => pg_imp (pg_lst hc (h.run F) hn hst) fun v σ H Q ⟨A, ρ, d, ρ', S, r, e, q⟩ => by
  cases d with
  | tw ds => cases e
  | im d =>
    cases d with
    | lst ds =>
      cases r with
      | lst h1 h2 =>
        have e' : (if ds.length = n then gs ds else fun _ => .no) ρ = .ok () ρ' := e
        by_cases z : ds.length = n
        · rw [if_pos z] at e'
          exact ⟨_, _, rfl, hid_full.seq h1, by rw [h2.len]; exact z, A, ρ, ds, ρ', S, h2, e', q⟩
        · rw [if_neg z] at e'; cases e'
    | _ => cases e⟩
end
end Dv
namespace Dv
open PySem PySem.Spec PyProof.Rows L2
section
variable {X : Cx}
def rLenS (w : World) : List V → Hp → VK → Prop := fun xs H Q => ∃ a S n, xs = [.ref a] ∧ H a = some (SetO w a S n) ∧ Q (.int n) H
theorem call_lenS : CallR X (.builtin "len") (rLenS X.w) := by
  intro pins s σ H xs us Q I r h
  obtain ⟨a, S, n, rfl, e, q⟩ := h
  obtain ⟨u, rfl, rx⟩ := vals1 r
  cases rx
  have ok : ObjOk X.prog X.w H s.heap a (SetO X.w a S n) := I.hok a _ e
  obtain ⟨⟨o, es, ep, t, ho, hex, hd, _, _, _, hs, hf, hn, _⟩, _⟩ := ok
  have hb : es.size < 2 ^ 63 := Nat.lt_of_lt_of_le hs (by unfold scanBound; decide)
  exact call_len_set ho hex hd hf (by omega) ⟨.int n, H, I.tok _, ⟨_, by rw [hn]⟩, q⟩
def gLenS : List D → Option D
  | [.set xs] => some (.int xs.length)
  | _ => none
theorem cd_lenS : CallD X (.builtin "len") gLenS := ⟨_, call_lenS, fun Z H xs ds d Q z r e q => by
  unfold gLenS at e
  split at e
  · cases e
    obtain ⟨v, rfl, r1⟩ := r.one
    rcases r1 with r1 | ⟨_, _, _, _, ee, _⟩
    · cases r1 with
      | @set a S n ns h1 h2 h3 h4 =>
        refine ⟨a, S, n, rfl, (hid_some h1).2, ?_⟩
        rw [List.length_map, h4] at q
        exact ret_int q
    · cases ee
  · cases e⟩
end
end Dv
namespace Dv
open PySem PySem.Spec PyProof.Rows L2
def insRU (a : List Int) : List (List Int) → List (List Int)
  | [] => [a]
  | b :: t => if a = b then b :: t else if ltI b a then b :: insRU a t else a :: b :: t
def sortRU : List (List Int) → List (List Int)
  | [] => []
  | a :: r => insRU a (sortRU r)
theorem mem_insRU {a x : List Int} : ∀ {l : List (List Int)}, x ∈ insRU a l ↔ x = a ∨ x ∈ l
  | [] => by simp [insRU]
  | b :: t => by
    unfold insRU
    by_cases h : a = b
    · rw [if_pos h]; subst h; simp
    · rw [if_neg h]
      by_cases k : ltI b a = true
      · rw [if_pos k, List.mem_cons, mem_insRU, List.mem_cons]
        constructor
        · rintro (q | q | q)
          · exact .inr (.inl q)
          · exact .inl q
          · exact .inr (.inr q)
        · rintro (q | q | q)
          · exact .inr (.inl q)
          · exact .inl q
          · exact .inr (.inr q)
      · rw [if_neg k]; simp
theorem mem_sortRU {x : List Int} : ∀ {l : List (List Int)}, x ∈ sortRU l ↔ x ∈ l
  | [] => Iff.rfl
  | a :: r => by rw [sortRU, mem_insRU, mem_sortRU, List.mem_cons]
theorem ltI_tri3 : ∀ (a b : List Int), ltI a b = true ∨ a = b ∨ ltI b a = true
  | [], [] => .inr (.inl rfl)
  | [], _ :: _ => .inl rfl
  | _ :: _, [] => .inr (.inr rfl)
  | a :: r, b :: t => by
    simp only [ltI, Bool.or_eq_true, Bool.and_eq_true, decide_eq_true_eq]
    rcases Int.lt_trichotomy a b with h | h | h
    · exact .inl (.inl h)
    · subst h
      rcases ltI_tri3 r t with k | k | k
      · exact .inl (.inr ⟨rfl, k⟩)
      · exact .inr (.inl (by rw [k]))
      · exact .inr (.inr (.inr ⟨rfl, k⟩))
    · exact .inr (.inr (.inl h))
theorem insRU_sorted {a : List Int} : ∀ {l : List (List Int)}, l.Pairwise (fun x y => ltI x y = true) → (insRU a l).Pairwise (fun x y => ltI x y = true)
  | [], _ => by simp [insRU]
  | b :: t, h => by
    obtain ⟨h1, h2⟩ := List.pairwise_cons.mp h
    unfold insRU
    by_cases e : a = b
    · rw [if_pos e]; exact h
    · rw [if_neg e]
      by_cases k : ltI b a = true
      · rw [if_pos k]
        refine List.pairwise_cons.mpr ⟨fun c hc => ?_, insRU_sorted h2⟩
        rcases mem_insRU.mp hc with rfl | hc
        · exact k
        · exact h1 c hc
      · rw [if_neg k]
        have ab : ltI a b = true := by
          rcases ltI_tri3 a b with q | q | q
          · exact q
          · exact absurd q e
          · exact absurd q k
        refine List.pairwise_cons.mpr ⟨fun c hc => ?_, h⟩
        rcases List.mem_cons.mp hc with rfl | hc
        · exact ab
        · exact ltI_trans _ _ _ ab (h1 c hc)
theorem sortRU_sorted : ∀ l : List (List Int), (sortRU l).Pairwise (fun x y => ltI x y = true)
  | [] => .nil
  | a :: r => insRU_sorted (sortRU_sorted r)
theorem rows_uniq : ∀ {l m : List (List Int)}, l.Pairwise (fun x y => ltI x y = true) → m.Pairwise (fun x y => ltI x y = true) → (∀ x, x ∈ l ↔ x ∈ m) → l = m
  | [], [], _, _, _ => rfl
  | [], b :: m, _, _, h => absurd ((h b).mpr List.mem_cons_self) (by simp)
  | a :: l, [], _, _, h => absurd ((h a).mp List.mem_cons_self) (by simp)
  | a :: l, b :: m, hl, hm, h => by
    obtain ⟨l1, l2⟩ := List.pairwise_cons.mp hl
    obtain ⟨m1, m2⟩ := List.pairwise_cons.mp hm
    have no : ∀ {x y : List Int}, ltI x y = true → ltI y x = true → False := fun p q => by
      have := ltI_trans _ _ _ p q
      rw [ltI_irr] at this
      cases this
    have e : a = b := by
      rcases List.mem_cons.mp ((h a).mp List.mem_cons_self) with e | p
      · exact e
      · rcases List.mem_cons.mp ((h b).mpr List.mem_cons_self) with e | q
        · exact e.symm
        · exact (no (m1 a p) (l1 b q)).elim
    subst e
    congr 1
    refine rows_uniq l2 m2 fun x => ?_
    have ne : ∀ {k : List (List Int)}, (∀ y ∈ k, ltI a y = true) → x ∈ k → x ≠ a := fun hk hx z => by
      have := hk x hx
      rw [z, ltI_irr] at this
      cases this
    constructor
    · intro hx
      rcases List.mem_cons.mp ((h x).mp (List.mem_cons_of_mem _ hx)) with z | z
      · exact absurd z (ne l1 hx)
      · exact z
    · intro hx
      rcases List.mem_cons.mp ((h x).mpr (List.mem_cons_of_mem _ hx)) with z | z
      · exact absurd z (ne m1 hx)
      · exact z
def rowB (d : Nat) (r : List Int) : Bool := decide (r.length = d) && r.all fun i => decide (0 ≤ i) && decide (i < 64)
theorem rowB_ok {d : Nat} {r : List Int} (h : rowB d r = true) : r.length = d ∧ TS.Bd 64 r := by
  unfold rowB at h
  rw [Bool.and_eq_true, decide_eq_true_eq, List.all_eq_true] at h
  refine ⟨h.1, fun m hm => ?_⟩
  have := h.2 m hm
  rw [Bool.and_eq_true, decide_eq_true_eq, decide_eq_true_eq] at this
  exact this
theorem code_ltI : ∀ {a b : List Int}, a.length = b.length → TS.Bd 64 a → TS.Bd 64 b → ltI a b = true → TS.code 64 a < TS.code 64 b
  | [], [], _, _, _, h => by cases h
  | [], _ :: _, hl, _, _, _ => by cases hl
  | _ :: _, [], hl, _, _, _ => by cases hl
  | x :: r, y :: t, hl, ha, hb, h => by
    have hl' : r.length = t.length := Nat.succ.inj hl
    simp only [ltI, Bool.or_eq_true, Bool.and_eq_true, decide_eq_true_eq] at h
    rcases h with h | ⟨h1, h2⟩
    · exact TS.code_lt hl' ha.tail hb.tail h
    · subst h1
      exact (TS.code_same hl').mpr (code_ltI hl' ha.tail hb.tail h2)
section
variable {X : Cx}
theorem rows_ads {G : Gp} {H : Hp} : ∀ {vs : List V} {rows : List (List Int)}, RDs G H vs (rows.map rowD) → ∃ ks : List (Addr × List Int), vs = (ks.map fun p => V.ref p.1) ∧ ks.map (·.2) = rows ∧ ∀ p ∈ ks, RD G H (.ref p.1) (rowD p.2)
  | _, [], h => by cases h; exact ⟨[], rfl, rfl, fun p hp => nomatch hp⟩
  | _, b :: rows, h => by
    cases h with
    | @cons v vs _ _ a r =>
      obtain ⟨ks, e1, e2, e3⟩ := rows_ads r
      obtain ⟨p, rfl⟩ : ∃ p, v = .ref p := by cases a with | tup _ _ => exact ⟨_, rfl⟩
      refine ⟨(p, b) :: ks, by rw [e1]; rfl, by rw [List.map_cons, e2], fun q hq => ?_⟩
      rcases List.mem_cons.mp hq with rfl | hq
      · exact a
      · exact e3 q hq
theorem ads_rows {G : Gp} {H : Hp} : ∀ {ks : List (Addr × List Int)}, (∀ p ∈ ks, RD G H (.ref p.1) (rowD p.2)) → RDs G H (ks.map fun p => V.ref p.1) ((ks.map (·.2)).map rowD)
  | [], _ => .nil
  | p :: ks, h => .cons (h p List.mem_cons_self) (ads_rows fun q hq => h q (List.mem_cons_of_mem _ hq))
theorem row_sq {G : Gp} {H : Hp} {p : Addr} {b : List Int} (h : RD G H (.ref p) (rowD b)) : SqT G.K H p (b.map V.int) := by
  cases h with
  | tup h1 h2 =>
    have := RDs.ints (show RDs G H _ (b.map D.int) from h2)
    rw [← this]
    exact h1.sq
def rowsOkB (rows : List (List Int)) : Bool := decide (rows.length < 64) && match rows with
  | [] => false
  | r :: _ => decide (1 ≤ r.length) && rows.all (rowB r.length)
theorem rowsOkB_ok {rows : List (List Int)} (h : rowsOkB rows = true) : rows.length < 64 ∧ ∃ d, 1 ≤ d ∧ ∀ r ∈ rows, r.length = d ∧ TS.Bd 64 r := by
  unfold rowsOkB at h
  rw [Bool.and_eq_true, decide_eq_true_eq] at h
  obtain ⟨h1, h2⟩ := h
  refine ⟨h1, ?_⟩
  cases rows with
  | nil => cases h2
  | cons r t =>
    simp only [Bool.and_eq_true, decide_eq_true_eq, List.all_eq_true] at h2
    exact ⟨r.length, h2.1, fun q hq => rowB_ok (h2.2 q hq)⟩
def gSSet : List D → Option (List D)
  | [.lst xs] => match asRows xs with
    | some rows => if rowsOkB rows = true then some ((sortRU rows).map rowD) else none
    | none => none
  | _ => none
theorem dn_sset {a : Expr} {fs : M (List RV)} {p p2 pos pos2 : Pos} (hc : X.calm = true) (hu : X.A.units + 64 < cLine) (hg : Gl X "sorted") (hm : X.mg "sorted" = none) (hg2 : Gl X "set") (hm2 : X.mg "set" = none) (ha : DA X [a] fs)
    (h1 : starEach [Expr.Call (.Name "set" p2) [a] [] pos2] X.env = (false, eval (Expr.Call (.Name "set" p2) [a] [] pos2) X.env) :: starEach [] X.env := by rfl)
    (h2 : starEach [a] X.env = (false, eval a X.env) :: starEach [] X.env := by rfl) (h3 : (backTo pos2 (starEach [] X.env)).any (·.1) = false := by rfl) (h4 : (backTo pos (starEach [] X.env)).any (·.1) = false := by rfl) :
    DN X (.Call (.Name "sorted" p) [.Call (.Name "set" p2) [a] [] pos2] [] pos) (nCall gSSet fs) := ⟨fun F => by
  have inner := pe_callTy (pos := pos2) (p := p2) (cr_setOfT (X := X) hc hu) hg2 hm2 (by decide +kernel) (ha.run F) (by decide) (by decide) h2 h3
  refine pe_imp (pe_callB (pos := pos) (p := p) (cr_sortedT (X := X) hc) hg hm (by decide +kernel) (pa_cons inner pa_nil h1) (by decide) (by decide) h1 h4) fun σ H Q ⟨A, ρ, zs', ρ', S, e, q⟩ => ?_
  obtain ⟨rs, ρ1, e1, e⟩ := bind_ok e
  obtain ⟨ds, ρ2, e2, e⟩ := bind_ok e
  obtain ⟨l3, rfl⟩ := opt_ok e
  refine ⟨A, ρ, rs, ρ1, S, e1, fun vs H1 S1 m1 r1 => ?_⟩
  obtain ⟨lk, rfl⟩ := vals_ok e2
  have rt := looks_rt S1 r1 lk
  unfold gSSet at l3
  split at l3
  · rename_i xs
    split at l3
    · rename_i rows er
      split at l3
      · rename_i hok
        cases l3
        obtain ⟨hxs, _⟩ := asRows_ok er
        subst hxs
        obtain ⟨few, d, d1, hd⟩ := rowsOkB_ok hok
        obtain ⟨v, rfl, r0⟩ := rt.one
        obtain ⟨a0, vs, rfl, hs, hr⟩ := r0.lst
        obtain ⟨ks, rfl, hk, hk2⟩ := rows_ads hr
        refine ⟨a0, ks, rfl, hs, fun q hq => row_sq ((hk2 q hq).mono hid_full), by rw [← List.length_map (f := (·.2)), hk]; exact few, fun s L hs0 sub all => ?_⟩
        have sm := Same.of_new (o := SetTO X.prog X.w s L) hs0
        have inL : ∀ q ∈ L, RD (Gx X) (hid (zs F A) (upd H1 s (SetTO X.prog X.w s L))) (.ref q.1) (rowD q.2) := fun q hq => (hk2 q (sub q hq)).mono (Same.hid sm)
        refine ⟨s, L, d, 64, rfl, upd_same, fun q hq => row_sq ((inL q hq).mono hid_full), d1, fun q hq => hd _ (by rw [← hk]; exact List.mem_map_of_mem (sub q hq)), fun L' p' pm nd f64 pw hp => ?_⟩
        have eq : L'.map (·.2) = sortRU rows := by
          have hd' : ∀ r ∈ L'.map (·.2), r.length = d ∧ TS.Bd 64 r := fun r hr' => by
            obtain ⟨q, hq, rfl⟩ := List.mem_map.mp hr'
            exact hd _ (by rw [← hk]; exact List.mem_map_of_mem (sub q (pm.mem_iff.mp hq)))
          have pw2 : (L'.map (·.2)).Pairwise (fun x y => TS.code 64 x ≤ TS.code 64 y) := List.pairwise_map.mpr pw
          have strict : ∀ {l : List (List Int)}, (∀ r ∈ l, r.length = d ∧ TS.Bd 64 r) → l.Nodup → l.Pairwise (fun x y => TS.code 64 x ≤ TS.code 64 y) → l.Pairwise (fun x y => ltI x y = true) := by
            intro l
            induction l with
            | nil => intro _ _ _; exact .nil
            | cons x l ih =>
              intro h1 h2 h3
              rw [List.nodup_cons] at h2
              rw [List.pairwise_cons] at h3 ⊢
              refine ⟨fun y hy => ?_, ih (fun r hr => h1 r (List.mem_cons_of_mem _ hr)) h2.2 h3.2⟩
              have hx := h1 x List.mem_cons_self
              have hy' := h1 y (List.mem_cons_of_mem _ hy)
              rcases ltI_tri3 x y with k | k | k
              · exact k
              · exact absurd (k ▸ hy) h2.1
              · have := code_ltI (by rw [hy'.1, hx.1]) hy'.2 hx.2 k
                have := h3.1 y hy
                omega
          refine rows_uniq (strict hd' nd pw2) (sortRU_sorted rows) fun x => ?_
          rw [mem_sortRU, ← hk]
          constructor
          · intro hx
            obtain ⟨q, hq, rfl⟩ := List.mem_map.mp hx
            exact List.mem_map_of_mem (sub q (pm.mem_iff.mp hq))
          · intro hx
            obtain ⟨q, hq, rfl⟩ := List.mem_map.mp hx
            exact ((pm.map (·.2)).mem_iff).mpr (all q hq)
        have rd : RDs (Gx X) (hid (zs F A) (upd H1 s (SetTO X.prog X.w s L))) (L'.map fun q => V.ref q.1) ((sortRU rows).map rowD) := by
          rw [← eq]
          exact ads_rows fun q hq => inL q (pm.mem_iff.mp hq)
        have m2 : Stp A H (upd H1 s (SetTO X.prog X.w s L)) := m1.trans (Stp.of sm)
        exact fresh_list (S1.same sm) m2 rd hp (back_none S m2 (S1.same sm) hp) q
      · cases l3
    · cases l3
  · cases l3⟩
end
end Dv
namespace Dv
open PySem PySem.Spec PyProof.Rows L2
def rIx (n d : Nat) : Option Int → Nat
  | none => d
  | some v => (if v < 0 then v + n + 1 else min (v + 1) n).toNat
def cutR {α : Type} (xs : List α) (lo hi : Option Int) : List α := ((xs.take (rIx xs.length xs.length lo)).drop (rIx xs.length 0 hi)).reverse
theorem rIx_le (n d : Nat) (h : d ≤ n) (v : Option Int) : rIx n d v ≤ n := by
  cases v with
  | none => exact h
  | some v => unfold rIx; dsimp only; split <;> omega
section
variable {prog : Program} {w : World} {A : Around} {E : Value → Shared → Prop} {s : Shared}
theorem adjust_rv (lo hi : Option Int) (n : Nat) : Builtin.Slice.sliceAdjust lo hi (-1) (n : Int) = ((rIx n n lo : Int) - 1, (rIx n 0 hi : Int) - 1) := by
  unfold Builtin.Slice.sliceAdjust rIx
  have h1 : ((-1 : Int) < 0) := by omega
  simp only [h1, if_true]
  cases lo <;> cases hi <;> simp only [Prod.mk.injEq] <;> refine ⟨?_, ?_⟩ <;> first | trivial | rfl | omega | (split <;> omega)
theorem places_rv (a b : Nat) : Builtin.Slice.slicePlaces ((a : Int) - 1) ((b : Int) - 1) (-1) = a - b := by
  unfold Builtin.Slice.slicePlaces
  have h1 : ¬ ((-1 : Int) > 0) := by omega
  simp only [h1, if_false, Int.neg_neg, Int.ediv_one]
  split <;> omega
theorem pick_rv (xs : Array Value) (a b : Nat) (ha : a ≤ xs.size) : ((List.range (a - b)).filterMap fun (m : Nat) => xs[(((a : Int) - 1) + (m : Int) * (-1)).toNat]?).toArray = (((xs.toList.take a).drop b).reverse).toArray := by
  congr 1
  apply List.ext_getElem?
  intro i
  have key : (List.range (a - b)).filterMap (fun (m : Nat) => xs[(((a : Int) - 1) + (m : Int) * (-1)).toNat]?) = (List.range (a - b)).map (fun m => xs.toList[a - 1 - m]?.getD default) := by
    apply fm_map
    intro m hm
    rw [List.mem_range] at hm
    have e : (((a : Int) - 1) + (m : Int) * (-1)).toNat = a - 1 - m := by omega
    rw [e, ← Array.getElem?_toList, List.getElem?_eq_getElem (by rw [Array.length_toList]; omega)]
    rfl
  have hl : ((xs.toList.take a).drop b).length = a - b := by rw [List.length_drop, List.length_take, Array.length_toList]; omega
  rw [key, List.getElem?_map]
  by_cases hi : i < a - b
  · rw [List.getElem?_range hi, List.getElem?_reverse (by rw [hl]; exact hi), hl, Option.map_some, List.getElem?_drop, List.getElem?_take_of_lt (by omega), List.getElem?_eq_getElem (by rw [Array.length_toList]; omega)]
    rw [Option.getD_some]
    rw [List.getElem?_eq_getElem (by rw [Array.length_toList]; omega)]
    congr 2
    omega
  · rw [List.getElem?_eq_none (by rw [List.length_range]; omega), List.getElem?_eq_none (by rw [List.length_reverse, hl]; omega)]
    rfl
theorem getItem_tuple_rv {t sl : Addr} {items : Array Value} {vl vu vs : Value} {lo hi : Option Int} {Q : Value → Shared → Prop} (ht : IsTup s.heap t items) (hs : s.heap.IsSliceOf sl vl vu vs) (pl : IsPart vl lo) (pu : IsPart vu hi) (pv : IsPart vs (some (-1)))
    (h : Q (.ref s.heap.objs.size) { s with heap := s.heap.push { cls := .type "tuple", data := .seq (cutR items.toList lo hi).toArray } })
    (hsz : items.size ≤ sizeLine) : wpAny (model prog w) A (getItem (.ref t) (.ref sl)) Q E s := by
  have htake : sizeOk (.seq (cutR items.toList lo hi).toArray) := by
    show (cutR items.toList lo hi).toArray.size ≤ sizeLine
    unfold cutR
    rw [List.size_toArray, List.length_reverse, List.length_drop, List.length_take, Array.length_toList]
    omega
  obtain ⟨os, hos, hcs, hds⟩ := id hs
  have hTs : s.TypeIs (.ref sl) "slice" := ⟨os, hos, hcs⟩
  unfold getItem
  try with_reducible refine wpAny_holding ?_
  first | refine wpAny_bind (wpAny_pure ?_) | skip
  refine wpAny_bind (wpAny_sequenceKey ht.typeIs (by decide) ?_)
  refine wpAny_bind (wpAny_callSpecial?_slot (name := Str.ofString "__getitem__") ht.typeIs PyProof.Rows.slot_tuple_getitem
    (wpAny_call_entry PyProof.Rows.slot_tuple_getitem ht.typeIs entry_tuple_getitem ?_ (args_tuple_getitem _ _)))
  show wpAny _ _ (Builtin.Tuple.tupleItemsOf (.ref t) >>= _) _ _ s
  refine wpAny_bind (tupleItemsOf_ ht ?_)
  refine wpAny_bind (wpAny_typeOf hTs ?_)
  rw [if_pos (by decide)]
  have ap : ∀ {Q : Int × Int × Nat → Shared → Prop}, Q ((rIx items.size items.size lo : Int) - 1, -1, rIx items.size items.size lo - rIx items.size 0 hi) s → wpAny (model prog w) A.in1 (Builtin.Slice.sliceApplied (.ref sl) (pure (items.size : Int))) Q E s := fun {Q} q => by
    unfold Builtin.Slice.sliceApplied Builtin.Slice.sliceFields
    refine wpAny_bind (wpAny_bind (wpAny_field hos hds (x := vl) rfl (wpAny_bind (wpAny_field hos hds (x := vu) rfl (wpAny_bind (wpAny_field hos hds (x := vs) rfl (wpAny_pure ?_)))))))
    refine wpAny_bind (HT.slicePart_ pv ?_)
    show wpAny _ _ (if ((-1 : Int) == 0) = true then _ else _) _ _ s
    rw [if_neg (by decide)]
    refine wpAny_bind (HT.slicePart_ pl (wpAny_bind (HT.slicePart_ pu (wpAny_bind (wpAny_pure ?_)))))
    show wpAny _ _ (match Builtin.Slice.sliceAdjust lo hi (-1) (items.size : Int) with | (lo, hi) => pure (lo, (-1 : Int), Builtin.Slice.slicePlaces lo hi (-1))) _ _ s
    rw [adjust_rv]
    show wpAny _ _ (pure ((rIx items.size items.size lo : Int) - 1, (-1 : Int), Builtin.Slice.slicePlaces ((rIx items.size items.size lo : Int) - 1) ((rIx items.size 0 hi : Int) - 1) (-1))) _ _ s
    rw [places_rv]
    exact wpAny_pure q
  refine wpAny_bind (ap ?_)
  have hno : ¬ ((((rIx items.size items.size lo : Int) - 1) == 0 && (-1 : Int) == 1 && (rIx items.size items.size lo - rIx items.size 0 hi) == items.size) = true) := by
    intro q
    rw [Bool.and_eq_true, Bool.and_eq_true] at q
    exact absurd q.1.2 (by decide)
  show wpAny _ _ (if (((rIx items.size items.size lo : Int) - 1) == 0 && (-1 : Int) == 1 && (rIx items.size items.size lo - rIx items.size 0 hi) == items.size) = true then _ else _) _ _ s
  rw [if_neg hno, pick_rv _ _ _ (rIx_le _ _ (Nat.le_refl _) _)]
  have ec : ((items.toList.take (rIx items.size items.size lo)).drop (rIx items.size 0 hi)).reverse = cutR items.toList lo hi := by unfold cutR; rw [Array.length_toList]
  rw [ec]
  first
    | exact wpAny_bind (m := Builtin.Tuple.tupleExact _) (wpAny_newObj_type (wpAny_pure ⟨_, rfl, wpAny_pure h⟩) htake)
    | exact wpAny_bind (m := Builtin.Tuple.tupleExact _) (wpAny_newObj_type (wpAny_bind (wpAny_pure (wpAny_pure ⟨_, rfl, wpAny_pure h⟩))) htake)
    | exact wpAny_bind (wpAny_bind (m := Builtin.Tuple.tupleExact _) (wpAny_newObj_type (wpAny_pure (wpAny_pure ⟨_, rfl, wpAny_pure h⟩)) htake))
    | exact wpAny_bind (wpAny_bind (m := Builtin.Tuple.tupleExact _) (wpAny_newObj_type (wpAny_pure ⟨_, rfl, wpAny_pure h⟩) htake))
end
section
variable {X : Cx} {e : Expr} {lo hi : Option Expr} {fa : ES} {fl fh : M (Option Int)} {pos : Pos}
def tRvF (K : PySem.W.Frag) (te : TE) (tl th : TO) : TE := fun σ H Q => te σ H fun x H1 => tl σ H1 fun l H2 => th σ H2 fun u H3 => ∃ a xs, x = .ref a ∧ SqT K H3 a xs ∧ ∀ p its, H3 p = none → Q (.ref p) (upd H3 p (tHO its (cutR xs l u)))
theorem vals_cutR {xs : List V} {ys : List Value} (r : Vals xs ys) (lo hi : Option Int) : Vals (cutR xs lo hi) (cutR ys lo hi) := by
  unfold cutR
  rw [← r.length]
  exact ((r.take _).drop _).reverse
theorem pe_rvT {te : TE} {tl th : TO} {k : Nat} {p1 p2 p3 : Pos} (he : PE X e te) (hl : PO X lo tl) (hu : PO X hi th) : PE X (.Subscript e (.Slice lo hi (some (.UnaryOp .USub (.Constant (.int 1) k p1) p2)) p3) pos) (tRvF X.K te tl th) := by
  refine ⟨fun pins s σ H Q I h => ?_⟩
  refine Subscript_ (thn (he.run pins s σ H _ I h) fun v s1 ⟨x, H1, I1, r1, q1⟩ => ?_)
  have hst : PO X (some (.UnaryOp .USub (.Constant (.int 1) k p1) p2)) (tPart (tUn (rU fun i => .int (-i)) (tC (.int 1)))) := po_some (pe_un un_neg pe_int)
  refine wpAny_Slice (thn (hl.run pins s1 σ H1 _ I1 q1) fun vl s2 ⟨l, H2, I2, pl, q2⟩ => thn (hu.run pins s2 σ H2 _ I2 q2) fun vu s3 ⟨u, H3, I3, pu, q3⟩ => ?_)
  obtain ⟨a, xs, ex, hx, q⟩ := q3
  subst ex
  cases r1
  refine thn (hst.run pins s3 σ H3 (fun o H4 => o = some (-1) ∧ H4 = H3) I3 ⟨1, rfl, -1, rfl, rfl, rfl⟩) fun vs s4 ⟨o, H4, I4, ps, eo, e4⟩ => ?_
  subst eo e4
  have I5 : Inv X pins σ H4 { s4 with heap := s4.heap.push { cls := .type "slice", data := .fields #[vl, vu, vs] } } := I4.kept (t' := s4.toks) fun b ob q => Heap.get?_push_of_some _ q
  obtain ⟨its, r, ht, hz⟩ := I5.tuple hx
  have hlen := r.length
  show wpAny (model X.prog X.w) X.A (subscriptTail e (.Slice lo hi (some (.UnaryOp .USub (.Constant (.int 1) k p1) p2)) p3) (.ref a) (.ref s4.heap.objs.size)) (EP X pins σ Q) X.xe { s4 with heap := s4.heap.push { cls := .type "slice", data := .fields #[vl, vu, vs] } }
  refine tail_any (ops := [.ref a, .ref s4.heap.objs.size]) ht.typeIs (PyProof.Rows.slot_tuple_getitem.lookup) ?_ (by with_unfolding_all rfl)
  refine getItem_tuple_rv ht (Heap.IsSliceOf.new _ vl vu vs) pl pu ps ?_ (by rw [List.size_toArray]; omega)
  have rr : Vals (cutR xs l u) (cutR its.toArray.toList l u) := vals_cutR r l u
  exact ⟨.ref _, _, lay_tup I5 rr (by unfold cutR; rw [List.length_reverse, List.length_drop, List.length_take]; omega) s4.toks, rfl, q _ _ (I5.hok.fresh (Nat.le_refl _))⟩
def gRv (x : D) (lo hi : Option Int) : Option D := match x with
  | .tup xs => some (.tup (cutR xs lo hi))
  | _ => none
def eRv (fa : ES) (fl fh : M (Option Int)) : ES := M.bind fa fun r => M.bind fl fun lo => M.bind fh fun hi => M.bind (val r) fun d => M.bind (M.opt (gRv d lo hi)) fun x => M.ret (.im x)
theorem cutR_rd {G : Gp} {H : Hp} {vs : List V} {ds : List D} (h : RDs G H vs ds) {lo hi : Option Int} : RDs G H (cutR vs lo hi) (cutR ds lo hi) := by
  unfold cutR
  rw [h.len]
  exact ((h.take _).drop _).rev
theorem de_rv {k : Nat} {p1 p2 p3 : Pos} (ha : DE X e fa) (hl : DO X lo fl) (hh : DO X hi fh) : DE X (.Subscript e (.Slice lo hi (some (.UnaryOp .USub (.Constant (.int 1) k p1) p2)) p3) pos) (eRv fa fl fh) := ⟨fun F => pe_imp (pe_rvT (ha.run F) (hl.run F) (hh.run F)) fun σ H Q ⟨A, ρ, rr, ρ', S, e, q⟩ => by
  obtain ⟨r, ρ1, e1, e⟩ := bind_ok e
  obtain ⟨lo, ρ2, e2, e⟩ := bind_ok e
  obtain ⟨hi, ρ3, e3, e⟩ := bind_ok e
  obtain ⟨d, ρ4, e4, e⟩ := bind_ok e
  obtain ⟨l4, rfl⟩ := val_ok e4
  obtain ⟨x, ρ5, e5, e⟩ := bind_ok e
  obtain ⟨l5, rfl⟩ := opt_ok e5
  obtain ⟨rfl, rfl⟩ := ret_ok e
  refine ⟨A, ρ, r, ρ1, S, e1, fun v H1 S1 m1 r1 => ⟨A, ρ1, lo, ρ2, S1, e2, fun H2 S2 m2 => ⟨A, ρ2, hi, _, S2, e3, fun H3 S3 m3 => ?_⟩⟩⟩
  have rt := look_rt S3 ((r1.same m2.hid).same m3.hid) l4
  have m := (m1.trans m2).trans m3
  unfold gRv at l5
  split at l5
  · cases l5
    obtain ⟨a, vs, rfl, h1, h2⟩ := rt.tup
    refine ⟨a, vs, rfl, h1.sq, fun p its hp => ?_⟩
    have sm := Same.of_new (o := tHO its (cutR vs lo hi)) hp
    exact q _ _ (S3.same sm) (m.trans (Stp.of sm)) (.tup (.inl ⟨_, hid_new S3.zall hp, rfl⟩) ((cutR_rd h2).mono (Same.hid sm)))
  · cases l5⟩
end
end Dv
namespace Dv
open PySem PySem.Spec PyProof.Rows L2
theorem fnG_none {P : Program} {w : World} {K : PySem.W.Frag} {mg : Str → Option Value} {base : Heap} {CX : CXT} {k : Nat} {f : Addr} {fd : FuncData} {ps : List Str} {G : Gp} {g : FD} (h : ∀ svs, g svs = none) : FnG P w K mg base CX k f fd ps (spD G g) :=
  ⟨fun _ _ _ _ ⟨_, _, _, _, _, _, _, _, e, _⟩ => (by rw [h] at e; cases e), fun _ _ _ _ _ _ _ _ _ _ _ _ _ _ ⟨_, _, _, _, _, _, _, _, e, _⟩ => (by rw [h] at e; cases e)⟩
end Dv
namespace Dv
open PySem PySem.Spec PyProof.Rows L2
theorem walk_down {G : Gp} {Hv : Hp} (lo : Int) (n : Nat) : Walk G Hv (Itc lo (-1) n) ((List.range n).map fun (i : Nat) => .im (.int (lo - i))) := fun i H Z z sm => by
  refine ⟨fun d hd => ?_, fun hl => by rw [List.length_map, List.length_range] at hl; exact hl⟩
  rw [List.getElem?_map] at hd
  obtain ⟨j, e1, e2⟩ := Option.map_eq_some_iff.mp hd
  have hj := List.getElem?_eq_some_iff.mp e1
  obtain ⟨hj1, hj2⟩ := hj
  rw [List.length_range] at hj1
  rw [List.getElem_range] at hj2
  subst hj2 e2
  refine ⟨hj1, fun x H' ⟨e, y⟩ => ?_⟩
  subst e y
  refine ⟨Same.refl _, ?_⟩
  rw [show lo + (i : Int) * (-1) = lo - i by omega]
  exact .int _
theorem RTs.three {G : Gp} {Z : List Addr} {H : Hp} {vs : List V} {d e f : D} (h : RTs G Z H vs [d, e, f]) : ∃ v u w, vs = [v, u, w] ∧ RT G Z H v d ∧ RT G Z H u e ∧ RT G Z H w f := by
  cases h with
  | cons a h => cases h with
    | cons b h => cases h with
      | cons c h => cases h; exact ⟨_, _, _, rfl, a, b, c⟩
section
variable {X : Cx} {tg a b c : Expr} {fs : M (List RV)} {p pos : Pos}
def rng3 : List D → Option (List IV)
  | [.int i, .int j, .int k] => if (rangeOk i && rangeOk j && decide (k = -1)) = true then some ((List.range (i - j).toNat).map fun (q : Nat) => .im (.int (i - (q : Int)))) else none
  | _ => none
theorem di_range3 (hg : Gl X "range") (hm : X.mg "range" = none) (ha : DA X [a, b, c] fs) (hs : starEach [a, b, c] X.env = (false, eval a X.env) :: starEach [b, c] X.env := by rfl) (hs2 : (backTo pos (starEach [b, c] X.env)).any (·.1) = false := by rfl) :
    DI X tg (.Call (.Name "range" p) [a, b, c] [] pos) (iCall rng3 fs) := ⟨fun F => pi_imp (pi_range3 hg hm (ha.run F) hs hs2) fun σ H R ⟨A, ρ, ds, ρ', S, e, q⟩ => by
  obtain ⟨rs, ρ1, e1, e⟩ := bind_ok e
  obtain ⟨xs, ρ2, e2, e⟩ := bind_ok e
  obtain ⟨l2, rfl⟩ := vals_ok e2
  obtain ⟨l3, rfl⟩ := opt_ok e
  refine ⟨A, ρ, rs, _, S, e1, fun vs H1 S1 m1 r1 => ?_⟩
  have rt := looks_rt S1 r1 l2
  unfold rng3 at l3
  split at l3
  · rename_i i j k
    by_cases z : (rangeOk i && rangeOk j && decide (k = -1)) = true
    · rw [if_pos z] at l3
      cases l3
      obtain ⟨v, u, w, rfl, r, r', r''⟩ := rt.three
      rw [Bool.and_eq_true, Bool.and_eq_true] at z
      obtain ⟨z1, z2⟩ := rangeOk_of z.1.1
      obtain ⟨z3, z4⟩ := rangeOk_of z.1.2
      have z5 := of_decide_eq_true z.2
      subst z5
      exact ⟨i, j, -1, _, by rw [r.int, r'.int, r''.int], RgC.neg z1 z2 z3 z4, q _ _ S1 m1 (walk_down _ _)⟩
    · rw [if_neg z] at l3; cases l3
  · cases l3⟩
def gBool : List D → Option D
  | [.int i] => some (.bl (i != 0))
  | [.bl k] => some (.bl k)
  | _ => none
theorem cd_bool : CallD X (.type "bool") gBool := ⟨_, call_bool1, fun Z H xs ds d Q z r e q => by
  unfold gBool at e
  split at e
  · cases e
    obtain ⟨v, rfl, r1⟩ := r.one
    exact .inl ⟨_, by rw [r1.int], ret_bl q⟩
  · cases e
    obtain ⟨v, rfl, r1⟩ := r.one
    exact .inr ⟨_, by rw [r1.bl], ret_bl q⟩
  · cases e⟩
end
end Dv
namespace Dv
open PySem PySem.Spec PyProof.Rows L2
def setIxM (i : Nat) (d : D) (fx : ES) : M Unit := M.bind (eVar i) fun _ => M.bind fx fun rx => M.bind (val rx) fun dx => M.bind (M.opt (isInt dx)) fun k => fun ρ => match lAt ρ i with
  | some xs => match ixN xs.length k with
    | some j => .ok () (lPut ρ i (xs.set j d))
    | none => .no
  | none => .no
def sSet2Ix (i : Nat) (fa fx fy : ES) : SS := M.bind fa fun r => M.bind (imm r) fun d => match d with
  | .tup [u, v] => M.bind (setIxM i u fx) fun _ => M.bind (setIxM i v fy) fun _ => M.ret .nx
  | _ => fun _ => .no
section
variable {X : Cx} {F : Fm} {A : Own} {σ : St} {ρ ρ' : Rho} {H : Hp} {v : V} {d : D} {i : Nat} {fx : ES}
theorem ix_go {Q : St → Hp → Prop} (S : Sts (Gx X) F A σ ρ H) (r1 : RD (Gx X) (hid (zs F A) H) v d) (e : setIxM i d fx ρ = .ok () ρ') (q : ∀ H', Sts (Gx X) F A σ ρ' H' → Stp A H H' → Q σ H') : L2.gSub (tVar i) (tD (Gx X) F fx) rSetL v σ H Q := by
  obtain ⟨r0, ρ3, e3, e⟩ := bind_ok e
  obtain ⟨rfl, k3⟩ := eVar_al e3
  have goL : ∃ v0, σ[i]? = some (some v0) := by
    rcases k3 with ⟨d0, q, _⟩ | ⟨xs, q, _⟩
    · obtain ⟨v0, h1, h2⟩ := S.im i d0 q
      exact ⟨v0, h1⟩
    · obtain ⟨p, vs, h1, h2, h3, h4⟩ := lAt_own S q
      exact ⟨_, h2⟩
  obtain ⟨v0, hv0⟩ := goL
  refine ⟨v0, hv0, ?_⟩
  obtain ⟨rx, ρ4, e4, e⟩ := bind_ok e
  refine ⟨A, ρ, rx, ρ4, S, e4, fun vx H2 S2 m2 r2 => ?_⟩
  obtain ⟨dx, ρ5, e5, e⟩ := bind_ok e
  obtain ⟨l5, rfl⟩ := val_ok e5
  obtain ⟨k, ρ6, l6a, o7⟩ := bind_ok e
  obtain ⟨l6, rfl⟩ := opt_ok l6a
  obtain rfl := isInt_ok l6
  cases q1 : lAt ρ4 i with
  | none => rw [q1] at o7; cases o7
  | some xs =>
    rw [q1] at o7
    dsimp only at o7
    cases q2 : ixN xs.length k with
    | none => rw [q2] at o7; cases o7
    | some j =>
      rw [q2] at o7
      cases o7
      obtain ⟨p, vs, hp, hσ, hH, hr⟩ := lAt_own S2 q1
      have ev : v0 = .ref p := by
        rw [hv0] at hσ
        exact Option.some.inj (Option.some.inj hσ)
      subst ev
      have rx' := (look_rt S2 r2 l5).int
      subst rx'
      refine ⟨p, vs, k, j, rfl, rfl, hH, by rw [hr.len]; exact q2, ?_⟩
      obtain ⟨S3, m3⟩ := S2.chg (ys := xs.set j d) q1 hp (hr.upd (RD.mono m2.hid r1) j)
      exact q _ S3 (m2.trans m3)
theorem ds_set2Ix {o o' ix iy e : Expr} {fa fy : ES} {p1 p2 pt pos : Pos} {kt : Nat} (hc : X.calm = true) (he : DE X e fa) (ho : PE X o (tVar i)) (ho' : PE X o' (tVar i)) (hx : DE X ix fx) (hy : DE X iy fy)
    (ha : ∀ v, assign (.Subscript o ix p1) X.env v = (do
      let ov ← holding [v] (eval o X.env)
      let iv ← holding [v, ov] (eval ix X.env)
      standAt p1
      holding [v, ov, iv] (setItem ov iv v)
      release [v, ov, iv] []) := by intro _; rfl)
    (ha' : ∀ v, assign (.Subscript o' iy p2) X.env v = (do
      let ov ← holding [v] (eval o' X.env)
      let iv ← holding [v, ov] (eval iy X.env)
      standAt p2
      holding [v, ov, iv] (setItem ov iv v)
      release [v, ov, iv] []) := by intro _; rfl)
    (hs : swapsWithSole [.Tuple [.Subscript o ix p1, .Subscript o' iy p2] kt pt] e pos.line X.env = pure false := by rfl) (hw : swappedStores [.Tuple [.Subscript o ix p1, .Subscript o' iy p2] kt pt] e X.env = pure none := by rfl)
    (h1 : (assignEach [.Tuple [.Subscript o ix p1, .Subscript o' iy p2] kt pt] X.env).map (·.2) = [assign (.Tuple [.Subscript o ix p1, .Subscript o' iy p2] kt pt) X.env] := by rfl)
    (g1 : (assignEach [.Subscript o ix p1, .Subscript o' iy p2] X.env).map (·.2) = assign (.Subscript o ix p1) X.env :: (assignEach [.Subscript o' iy p2] X.env).map (·.2) := by rfl)
    (g2 : (assignEach [.Subscript o' iy p2] X.env).map (·.2) = assign (.Subscript o' iy p2) X.env :: (assignEach [] X.env).map (·.2) := by rfl)
    (hn : (assignEach [.Subscript o ix p1, .Subscript o' iy p2] X.env).length = 2 := by rfl) (hst : (assignEach [.Subscript o ix p1, .Subscript o' iy p2] X.env).findIdx? (·.1) = none := by rfl) :
    DS X (.Assign [.Tuple [.Subscript o ix p1, .Subscript o' iy p2] kt pt] e pos) (sSet2Ix i fa fx fy) := ⟨fun F => ps_imp (ps_asg (he.run F) (pg_tup (pos := pt) (k := kt) hc (pgs_cons (pg_sub ho (hx.run F) set_list ha) (pgs_cons (pg_sub ho' (hy.run F) set_list ha') pgs_nil g2) g1) hn hst) hs hw h1) fun D σ H ⟨A, ρ, S, out⟩ => by
  obtain ⟨r, ρ1, e1, out⟩ := out_bind out
  obtain ⟨d, ρ2, e2, out⟩ := out_bind out
  obtain ⟨rfl, rfl⟩ := imm_ok e2
  refine ⟨A, ρ, _, _, S, e1, fun w H1 S1 m1 r1 => ?_⟩
  split at out
  · rename_i u v
    obtain ⟨_, ρ3, e3, out⟩ := out_bind out
    obtain ⟨_, ρ4, e4, out⟩ := out_bind out
    cases r1 with
    | tup q1 q2 =>
      obtain ⟨a, b, rfl, ra, rb⟩ := q2.two
      refine ⟨_, _, rfl, Same.tupq hid_full q1.sq, rfl, a, [b], rfl, ?_⟩
      refine ix_go S1 ra e3 fun H2 S2 m2 => ⟨b, [], rfl, ?_⟩
      refine ix_go S2 (RD.mono m2.hid rb) e4 fun H3 S3 m3 => ⟨rfl, ?_⟩
      exact out _ _ _ S3 (Sto.of ((m1.trans m2).trans m3))
  · exact out.elim⟩
end
end Dv
namespace K10
open PySem PySem.Spec PyProof.Rows L2 Dv
def top (i : Nat) : Stmt := PySem.Challenge.pw_oneaxis_k10_whole_sure_pairs_of_peaks.main.body.getD i (.Pass ⟨0, 0, 0, 0⟩)
abbrev st__law_bag : Stmt := top 26
abbrev st_is_whole : Stmt := top 8
abbrev st_is_within : Stmt := top 9
abbrev st_require_size : Stmt := top 12
abbrev st_is_option : Stmt := top 10
abbrev st_is_row_of : Stmt := top 11
abbrev st_require_axis : Stmt := top 19
abbrev st_require_option : Stmt := top 13
abbrev st_is_sure_in : Stmt := top 18
abbrev st_sure_pairs : Stmt := top 23
abbrev st_is_axis : Stmt := top 21
abbrev st_require_on : Stmt := top 20
abbrev st_places_in : Stmt := top 15
abbrev st_is_peaked_in : Stmt := top 17
abbrev st_is_peaked : Stmt := top 22
abbrev st__law_draw : Stmt := top 27
abbrev st__law_mixed : Stmt := top 29
abbrev st__law_places : Stmt := top 30
abbrev st__law_of_peak : Stmt := top 37
abbrev st_turned : Stmt := top 24
abbrev st__law_right : Stmt := top 38
abbrev st_law : Stmt := top 39
abbrev FnP (K : PySem.W.Frag) (x : Str) (st : Stmt) (f : Addr) (fd : FuncData) : Prop := FunD K x x (defArgs st) (defBody st) (defScope st) [] [] f fd
def s__law_bag : SS := (sSeq (sSet 2 (eIf (bCmp gLtA (eVar 1) (eCall gLen (aCons (eVar 0) aNil))) (eCall gInt (aCons (eBin gIx (eVar 0) (eVar 1)) aNil)) (eBin gAdd (eBin gMul (eC (.int 149)) (eVar 1)) (eC (.int 83)))))
    (sSeq (sSet 3 (eBin gMod (eCall gMax2 (aCons (eC (.int 0)) (aCons (eBin gSub (eCall gAbs (aCons (eVar 2) aNil)) (eBin gPow (eC (.int 10)) (eC (.int 16)))) aNil))) (eBin gMul (eBin gPow (eC (.int 10)) (eC (.int 58))) (eBin gPow (eC (.int 10)) (eC (.int 59))))))
    (sRetL (nLst (aCons (eVar 3) (aCons (eBin gAdd (eBin gAdd (eBin gAdd (eBin gMul (eBin gMod (eCall gAbs (aCons (eVar 2) aNil)) (eC (.int 1152921504606846999))) (eC (.int 101))) (eBin gMul (eC (.int 1049)) (eVar 1))) (eBin gMul (eC (.int 59)) (eCall gInt (aCons (eBin gLtA (eVar 2) (eC (.int 0))) aNil)))) (eC (.int 29))) (aCons (eC (.int 0)) aNil)))))))
def F__law_bag : FD := defF 2 4 s__law_bag
def s_is_whole : SS := (sRet (eAnd (eUn (gIsi "int") (eVar 0)) (eAnd (eNot (eUn (gIsi "bool") (eVar 0))) (eChain gLtA gLtA (eUn gNeg (eC (.int (1000000000000000000000000000000000000000000000000000000000000)))) (eVar 0) (eC (.int (1000000000000000000000000000000000000000000000000000000000000)))))))
def F_is_whole : FD := defF 1 1 s_is_whole
def s_is_within : SS := (sRet (eAnd (eUser F_is_whole (aCons (eVar 0) aNil)) (eChain gLeA gLeA (eVar 1) (eVar 0) (eVar 2))))
def F_is_within : FD := defF 3 3 s_is_within
def s_require_size : SS := (sIf (bNot (bVal (eUser F_is_within (aCons (eVar 0) (aCons (eC (.int 1)) (aCons (eC (.int (9))) aNil))))))
    sNever
    sNil)
def F_require_size : FD := defF 1 1 s_require_size
def s_is_option : SS := (sRet (eUser F_is_within (aCons (eVar 1) (aCons (eC (.int 0)) (aCons (eBin gSub (eVar 0) (eC (.int 1))) aNil)))))
def F_is_option : FD := defF 2 2 s_is_option
def c_is_row_of_1 : M (List D) := nLc [2] (iSeq (eVar 1)) (gSet 2) bYes (eUser F_is_option (aCons (eVar 0) (aCons (eVar 2) aNil)))
def s_is_row_of : SS := (sSeq (sIf (bOr (bNot (bVal (eUn (gIsi "tuple") (eVar 1)))) (bOr (bCmp gNe (eCall gLen (aCons (eVar 1) aNil)) (eVar 0)) (bNot (bVal (eCall gAll (aCons (eN c_is_row_of_1) aNil))))))
    (sRet (eC (.bl false)))
    sNil)
    (sRet (eBin gEq (eCall gLenS (aCons (eCall gSetA (aCons (eVar 1) aNil)) aNil)) (eVar 0))))
def F_is_row_of : FD := defF 2 3 s_is_row_of
def s_require_axis : SS := (sSeq (sExpr (eUser F_require_size (aCons (eVar 0) aNil)))
    (sIf (bNot (bVal (eUser F_is_row_of (aCons (eVar 0) (aCons (eVar 1) aNil)))))
    sNever
    sNil))
def F_require_axis : FD := defF 2 2 s_require_axis
def s_require_option : SS := (sIf (bNot (bVal (eUser F_is_option (aCons (eVar 0) (aCons (eVar 1) aNil)))))
    sNever
    sNil)
def F_require_option : FD := defF 2 2 s_require_option
def s_is_sure_in : SS := (sRet (eAnd (eBin gNe (eVar 2) (eVar 3)) (eOr (eChain gLeA gLtA (eVar 1) (eVar 2) (eVar 3)) (eOr (eChain gLtA gLeA (eVar 3) (eVar 2) (eVar 1)) (eBin gEq (eVar 2) (eVar 1))))))
def F_is_sure_in : FD := defF 4 4 s_is_sure_in
def c_sure_pairs_1 : M (List D) := nLc [7] (iSeq (eVar 6)) (gSet 7) bYes (eTup (aCons (eVar 5) (aCons (eVar 7) aNil)))
def c_sure_pairs_2 : M (List D) := nLc [7] (iCall rng1 (aCons (eVar 0) aNil)) (gSet 7) (bVal (eUser F_is_sure_in (aCons (eVar 1) (aCons (eVar 3) (aCons (eIdx (eVar 1) (eVar 5)) (aCons (eIdx (eVar 1) (eVar 7)) aNil)))))) (eVar 7)
def l_sure_pairs_3 : SS := sFor (iCall rng1 (aCons (eVar 0) aNil)) (gSet 5)
    (sSeq (sSetL 6 c_sure_pairs_2)
    (sExpr (eMt 4 cExtend (aCons (eN c_sure_pairs_1) aNil))))
def s_sure_pairs : SS := (sSeq (sExpr (eUser F_require_axis (aCons (eVar 0) (aCons (eVar 1) aNil))))
    (sSeq (sExpr (eUser F_require_option (aCons (eVar 0) (aCons (eVar 2) aNil))))
    (sSeq (sParN [3, 4] [pV (eIdx (eVar 1) (eVar 2)), pN (nLst aNil)])
    (sSeq l_sure_pairs_3
    (sRet (eCall gTuple (aCons (eVar 4) aNil)))))))
def F_sure_pairs : FD := defF 3 8 s_sure_pairs
def s_is_axis : SS := (sSeq (sExpr (eUser F_require_size (aCons (eVar 0) aNil)))
    (sRet (eUser F_is_row_of (aCons (eVar 0) (aCons (eVar 1) aNil)))))
def F_is_axis : FD := defF 2 2 s_is_axis
def s_require_on : SS := (sSeq (sExpr (eUser F_require_axis (aCons (eVar 0) (aCons (eVar 1) aNil))))
    (sIf (bNot (bVal (eUser F_is_row_of (aCons (eVar 0) (aCons (eVar 2) aNil)))))
    sNever
    sNil))
def F_require_on : FD := defF 3 3 s_require_on
def l_places_in_1 : SS := sFor (iCallI gEnumA (aCons (eVar 0) aNil)) (gTupD 2 (gsCons (gSet 2) (gsCons (gSet 3) gsNil)))
    (sSetIx 1 (eVar 2) (eVar 3))
def s_places_in : SS := (sSeq (sOwn 1 (nRep (nLst (aCons (eC (.int 0)) aNil)) (eCall gLen (aCons (eVar 0) aNil))))
    (sSeq l_places_in_1
    (sRet (eVar 1))))
def F_places_in : FD := defF 1 4 s_places_in
def l_is_peaked_in_1 : SS := sFor (iCall rng2 (aCons (eC (.int 1)) (aCons (eBin gSub (eCall gLen (aCons (eVar 3) aNil)) (eC (.int 1))) aNil))) (gSet 4)
    (sIf (bAnd (bCmp gGtA (eBin gIx (eVar 3) (eVar 4)) (eBin gIx (eVar 3) (eBin gSub (eVar 4) (eC (.int 1))))) (bCmp gGtA (eBin gIx (eVar 3) (eVar 4)) (eBin gIx (eVar 3) (eBin gAdd (eVar 4) (eC (.int 1))))))
    (sRet (eC (.bl false)))
    sNil)
def c_is_peaked_in_2 : M (List D) := nLc [5] (iSeq (eVar 0)) (gSet 5) bYes (eBin gIx (eVar 2) (eVar 5))
def s_is_peaked_in : SS := (sSeq (sSet 2 (eUser F_places_in (aCons (eVar 1) aNil)))
    (sSeq (sSetL 3 c_is_peaked_in_2)
    (sSeq l_is_peaked_in_1
    (sRet (eC (.bl true))))))
def F_is_peaked_in : FD := defF 2 6 s_is_peaked_in
def s_is_peaked : SS := (sSeq (sExpr (eUser F_require_on (aCons (eVar 0) (aCons (eVar 1) (aCons (eVar 2) aNil)))))
    (sRet (eUser F_is_peaked_in (aCons (eVar 1) (aCons (eVar 2) aNil)))))
def F_is_peaked : FD := defF 3 3 s_is_peaked
def s__law_draw : SS := (sSeq (sIf (bCmp gGtA (eBin gIx (eVar 0) (eC (.int 0))) (eC (.int 0)))
    (sSeq (sSet 2 (eBin gMod (eCall gInt (aCons (eBin gIx (eVar 0) (eC (.int 0))) aNil)) (eVar 1)))
    (sSeq (sSetIx 0 (eBin gDiv (eBin gIx (eVar 0) (eC (.int 0))) (eVar 1)) (eC (.int 0)))
    (sRet (eVar 2))))
    sNil)
    (sSeq (sSetIx 0 (eBin gAdd (eBin gIx (eVar 0) (eC (.int 2))) (eC (.int 1))) (eC (.int 2)))
    (sSeq (sSet 3 (eBin gMod (eCall gInt (aCons (eBin gAdd (eBin gIx (eVar 0) (eC (.int 1))) (eBin gMul (eC (.int 86028121)) (eBin gIx (eVar 0) (eC (.int 2))))) aNil)) (eC (.int 2305843009213693951))))
    (sSeq (sSet 4 (eBin gAdd (eBin gMul (eBin gMod (eCall gInt (aCons (eBin gAdd (eBin gMul (eVar 3) (eVar 3)) (eBin gMul (eC (.int 107)) (eBin gIx (eVar 0) (eC (.int 2))))) aNil)) (eC (.int 2305843009213693921))) (eC (.int 3999971))) (eVar 3)))
    (sRet (eBin gMod (eCall gInt (aCons (eBin gDiv (eVar 4) (eC (.int 65539))) aNil)) (eVar 1)))))))
def F__law_draw : FD := defF 2 5 s__law_draw
def l__law_mixed_1 : SS := sFor (iCall rng3 (aCons (eBin gSub (eCall gLen (aCons (eVar 2) aNil)) (eC (.int 1))) (aCons (eC (.int 0)) (aCons (eUn gNeg (eC (.int 1))) aNil)))) (gSet 3)
    (sSeq (sSet 4 (eUser F__law_draw (aCons (eVar 0) (aCons (eBin gAdd (eVar 3) (eC (.int 1))) aNil))))
    (sSet2Ix 2 (eTup (aCons (eBin gIx (eVar 2) (eVar 4)) (aCons (eBin gIx (eVar 2) (eVar 3)) aNil))) (eVar 3) (eVar 4)))
def s__law_mixed : SS := (sSeq (sOwn 2 (nCall gList (aCons (eVar 1) aNil)))
    (sSeq l__law_mixed_1
    (sRet (eVar 2))))
def F__law_mixed : FD := defF 2 5 s__law_mixed
def l__law_places_1 : SS := sFor (iCallI gEnumA (aCons (eVar 0) aNil)) (gTupD 2 (gsCons (gSet 2) (gsCons (gSet 3) gsNil)))
    (sSetIx 1 (eVar 2) (eVar 3))
def s__law_places : SS := (sSeq (sOwn 1 (nRep (nLst (aCons (eC (.int 0)) aNil)) (eCall gLen (aCons (eVar 0) aNil))))
    (sSeq l__law_places_1
    (sRet (eVar 1))))
def F__law_places : FD := defF 1 4 s__law_places
def s__law_of_peak (F_rec : FD) : SS := (sSeq (sIf (bAnd (bCmp gEq (eVar 1) (eC (.int 0))) (bCmp gEq (eVar 2) (eBin gSub (eCall gLen (aCons (eVar 0) aNil)) (eC (.int 1)))))
    (sRetL (nLst (aCons (eVar 3) aNil)))
    sNil)
    (sSeq (sSet 4 (eIf (bCmp gGtA (eVar 1) (eC (.int 0))) (eUser F_rec (aCons (eVar 0) (aCons (eBin gSub (eVar 1) (eC (.int 1))) (aCons (eVar 2) (aCons (eBin gAdd (eVar 3) (eTup (aCons (eBin gIx (eVar 0) (eBin gSub (eVar 1) (eC (.int 1)))) aNil))) aNil))))) (eN (nLst aNil))))
    (sRetL (nBin nCat (eVar 4) (eIf (bCmp gLtA (eVar 2) (eBin gSub (eCall gLen (aCons (eVar 0) aNil)) (eC (.int 1)))) (eUser F_rec (aCons (eVar 0) (aCons (eVar 1) (aCons (eBin gAdd (eVar 2) (eC (.int 1))) (aCons (eBin gAdd (eVar 3) (eTup (aCons (eBin gIx (eVar 0) (eBin gAdd (eVar 2) (eC (.int 1)))) aNil))) aNil))))) (eN (nLst aNil)))))))
def F__law_of_peak : Nat → FD
  | 0 => fun _ => none
  | fuel + 1 => defF 4 5 (s__law_of_peak (F__law_of_peak fuel))
def s_turned : SS := (sSeq (sExpr (eUser F_require_axis (aCons (eVar 0) (aCons (eVar 1) aNil))))
    (sRet (eUn gRev (eVar 1))))
def F_turned : FD := defF 2 2 s_turned
def c__law_right_1 : M (List D) := nLc [12] (iSeq (eVar 10)) (gSet 12) bYes (eUser F_is_axis (aCons (eVar 2) (aCons (eVar 12) aNil)))
def c__law_right_2 : M (List D) := nLc [8] (iSeq (eVar 9)) (gSet 8) bYes (eCall gBool (aCons (eVar 8) aNil))
def c__law_right_3 : M (List D) := nLstRg (rOne (eVar 2))
def c__law_right_4 : M (List D) := nLc [9] (iSeq (eVar 6)) (gSet 9) (bCmp gGtA (eBin gIx (eVar 9) (eVar 8)) (eBin gIx (eVar 9) (eVar 11))) (eVar 9)
def c__law_right_5 : M (List D) := nLc [11] (iCall rng1 (aCons (eVar 2) aNil)) (gSet 11) (bAnd (bCmp gNe (eVar 8) (eVar 11)) (bCmp gEq (eN c__law_right_4) (eN (nLst aNil)))) (eTup (aCons (eVar 8) (aCons (eVar 11) aNil)))
def l__law_right_6 : SS := sFor (iCall rng1 (aCons (eVar 2) aNil)) (gSet 8)
    (sExpr (eMt 7 cExtend (aCons (eN c__law_right_5) aNil)))
def c__law_right_7 : M (List D) := nLc [9] (iSeq (eUser (F__law_of_peak 12) (aCons (eVar 3) (aCons (eVar 5) (aCons (eVar 5) (aCons (eTup (aCons (eVar 4) aNil)) aNil)))))) (gSet 9) bYes (eUser F__law_places (aCons (eVar 9) aNil))
def c__law_right_8 : M (List D) := nLstRg (rOne (eVar 2))
def s__law_right : SS := (sSeq (sSet 2 (eBin gAdd (eC (.int 1)) (eUser F__law_draw (aCons (eVar 0) (aCons (eVar 1) aNil)))))
    (sSeq (sPar2 3 4 (pV (eCall gTuple (aCons (eUser F__law_mixed (aCons (eVar 0) (aCons (eN c__law_right_8) aNil))) aNil))) (pV (eUser F__law_draw (aCons (eVar 0) (aCons (eVar 2) aNil)))))
    (sSeq (sSet 5 (eIdx (eVar 3) (eVar 4)))
    (sSeq (sSet 6 (eN c__law_right_7))
    (sSeq (sOwn 7 (nLst aNil))
    (sSeq l__law_right_6
    (sSeq (sIf (bOr (bCmp gNe (eCall gRepr (aCons (eUser F_sure_pairs (aCons (eVar 2) (aCons (eVar 3) (aCons (eVar 4) aNil)))) aNil)) (eCall gRepr (aCons (eCall gTuple (aCons (eVar 7) aNil)) aNil))) (bCmp gNe (eCall gRepr (aCons (eUser F_sure_pairs (aCons (eVar 2) (aCons (eUser F_turned (aCons (eVar 2) (aCons (eVar 3) aNil))) (aCons (eVar 4) aNil)))) aNil)) (eCall gRepr (aCons (eCall gTuple (aCons (eVar 7) aNil)) aNil))))
    (sRet (eC (.bl false)))
    sNil)
    (sSeq (sSet 9 (eUser F__law_mixed (aCons (eVar 0) (aCons (eN c__law_right_3) aNil))))
    (sSeq (sSet 10 (eN (nLst (aCons (eCall gTuple (aCons (eVar 9) aNil)) (aCons (eVar 9) (aCons (eCall gTuple (aCons (eSl (eVar 9) (oSome (eC (.int 1))) oNone) aNil)) (aCons (eBin gAdd (eCall gTuple (aCons (eVar 9) aNil)) (eTup (aCons (eC (.int 0)) aNil))) (aCons (eC .non) (aCons (eTup aNil) (aCons (eCall gTuple (aCons (eN c__law_right_2) aNil)) (aCons (eBin gAdd (eTup (aCons (eVar 2) aNil)) (eCall gTuple (aCons (eSl (eVar 9) (oSome (eC (.int 1))) oNone) aNil))) aNil)))))))))))
    (sRet (eOr (eBin gEq (eVar 2) (eC (.int 1))) (eBin gEq (eCall gRepr (aCons (eN c__law_right_1) aNil)) (eCall gRepr (aCons (eBin gAdd (eN (nLst (aCons (eC (.bl true)) aNil))) (eN (nRep (nLst (aCons (eC (.bl false)) aNil)) (eC (.int 7))))) aNil))))))))))))))
def F__law_right : FD := defF 2 13 s__law_right
def l_law_1 : SS := sFor (iCall rng1 (aCons (eC (.int 3)) aNil)) (gSet 3)
    (sIf (bOr (bNot (bVal (eUser F__law_right (aCons (eVar 2) (aCons (eC (.int 7)) aNil))))) (bNot (bVal (eUser F__law_right (aCons (eVar 2) (aCons (eC (.int 9)) aNil))))))
    (sRet (eC (.bl false)))
    sNil)
def l_law_2 : SS := sFor (iCall rng1 (aCons (eCall gMax2 (aCons (eC (.int 1)) (aCons (eCall gMin2 (aCons (eC (.int 2)) (aCons (eCall gLen (aCons (eVar 0) aNil)) aNil))) aNil))) aNil)) (gSet 1)
    (sSeq (sOwn 2 (nUser F__law_bag (aCons (eVar 0) (aCons (eVar 1) aNil))))
    l_law_1)
def s_law : SS := (sSeq l_law_2
    (sSeq (sSet 4 (eN (nLst (aCons (eUser F_sure_pairs (aCons (eC (.int 4)) (aCons (eTup (aCons (eC (.int 2)) (aCons (eC (.int 0)) (aCons (eC (.int 1)) (aCons (eC (.int 3)) aNil))))) (aCons (eC (.int 0)) aNil)))) (aCons (eUser F_sure_pairs (aCons (eC (.int 1)) (aCons (eTup (aCons (eC (.int 0)) aNil)) (aCons (eC (.int 0)) aNil)))) (aCons (eUser F_is_axis (aCons (eC (.int 1)) (aCons (eTup (aCons (eC (.int 0)) aNil)) aNil))) (aCons (eUser F_is_axis (aCons (eC (.int 1)) (aCons (eTup (aCons (eC (.bl false)) aNil)) aNil))) (aCons (eUser F_is_axis (aCons (eC (.int 1)) (aCons (eTup aNil) aNil))) (aCons (eUser F_is_peaked (aCons (eC (.int 1)) (aCons (eTup (aCons (eC (.int 0)) aNil)) (aCons (eTup (aCons (eC (.int 0)) aNil)) aNil)))) aNil)))))))))
    (sRet (eBin gEq (eCall gRepr (aCons (eVar 4) aNil)) (eCall gRepr (aCons (eN (nLst (aCons (eTup (aCons (eTup (aCons (eC (.int 0)) (aCons (eC (.int 1)) aNil))) (aCons (eTup (aCons (eC (.int 0)) (aCons (eC (.int 2)) aNil))) (aCons (eTup (aCons (eC (.int 0)) (aCons (eC (.int 3)) aNil))) (aCons (eTup (aCons (eC (.int 1)) (aCons (eC (.int 3)) aNil))) aNil))))) (aCons (eTup aNil) (aCons (eC (.bl true)) (aCons (eC (.bl false)) (aCons (eC (.bl false)) (aCons (eC (.bl true)) aNil)))))))) aNil))))))
def F_law : FD := defF 1 5 s_law
structure W (K : PySem.W.Frag) (mg : Str → Option Value) where
  f__law_bag : Addr
  d__law_bag : FuncData
  F__law_bag : FnP K "_law_bag" st__law_bag f__law_bag d__law_bag
  g__law_bag : mg "_law_bag" = some (.ref f__law_bag)
  f_is_whole : Addr
  d_is_whole : FuncData
  F_is_whole : FnP K "is_whole" st_is_whole f_is_whole d_is_whole
  g_is_whole : mg "is_whole" = some (.ref f_is_whole)
  f_is_within : Addr
  d_is_within : FuncData
  F_is_within : FnP K "is_within" st_is_within f_is_within d_is_within
  g_is_within : mg "is_within" = some (.ref f_is_within)
  f_require_size : Addr
  d_require_size : FuncData
  F_require_size : FnP K "require_size" st_require_size f_require_size d_require_size
  g_require_size : mg "require_size" = some (.ref f_require_size)
  f_is_option : Addr
  d_is_option : FuncData
  F_is_option : FnP K "is_option" st_is_option f_is_option d_is_option
  g_is_option : mg "is_option" = some (.ref f_is_option)
  f_is_row_of : Addr
  d_is_row_of : FuncData
  F_is_row_of : FnP K "is_row_of" st_is_row_of f_is_row_of d_is_row_of
  g_is_row_of : mg "is_row_of" = some (.ref f_is_row_of)
  f_require_axis : Addr
  d_require_axis : FuncData
  F_require_axis : FnP K "require_axis" st_require_axis f_require_axis d_require_axis
  g_require_axis : mg "require_axis" = some (.ref f_require_axis)
  f_require_option : Addr
  d_require_option : FuncData
  F_require_option : FnP K "require_option" st_require_option f_require_option d_require_option
  g_require_option : mg "require_option" = some (.ref f_require_option)
  f_is_sure_in : Addr
  d_is_sure_in : FuncData
  F_is_sure_in : FnP K "is_sure_in" st_is_sure_in f_is_sure_in d_is_sure_in
  g_is_sure_in : mg "is_sure_in" = some (.ref f_is_sure_in)
  f_sure_pairs : Addr
  d_sure_pairs : FuncData
  F_sure_pairs : FnP K "sure_pairs" st_sure_pairs f_sure_pairs d_sure_pairs
  g_sure_pairs : mg "sure_pairs" = some (.ref f_sure_pairs)
  f_is_axis : Addr
  d_is_axis : FuncData
  F_is_axis : FnP K "is_axis" st_is_axis f_is_axis d_is_axis
  g_is_axis : mg "is_axis" = some (.ref f_is_axis)
  f_require_on : Addr
  d_require_on : FuncData
  F_require_on : FnP K "require_on" st_require_on f_require_on d_require_on
  g_require_on : mg "require_on" = some (.ref f_require_on)
  f_places_in : Addr
  d_places_in : FuncData
  F_places_in : FnP K "places_in" st_places_in f_places_in d_places_in
  g_places_in : mg "places_in" = some (.ref f_places_in)
  f_is_peaked_in : Addr
  d_is_peaked_in : FuncData
  F_is_peaked_in : FnP K "is_peaked_in" st_is_peaked_in f_is_peaked_in d_is_peaked_in
  g_is_peaked_in : mg "is_peaked_in" = some (.ref f_is_peaked_in)
  f_is_peaked : Addr
  d_is_peaked : FuncData
  F_is_peaked : FnP K "is_peaked" st_is_peaked f_is_peaked d_is_peaked
  g_is_peaked : mg "is_peaked" = some (.ref f_is_peaked)
  f__law_draw : Addr
  d__law_draw : FuncData
  F__law_draw : FnP K "_law_draw" st__law_draw f__law_draw d__law_draw
  g__law_draw : mg "_law_draw" = some (.ref f__law_draw)
  f__law_mixed : Addr
  d__law_mixed : FuncData
  F__law_mixed : FnP K "_law_mixed" st__law_mixed f__law_mixed d__law_mixed
  g__law_mixed : mg "_law_mixed" = some (.ref f__law_mixed)
  f__law_places : Addr
  d__law_places : FuncData
  F__law_places : FnP K "_law_places" st__law_places f__law_places d__law_places
  g__law_places : mg "_law_places" = some (.ref f__law_places)
  f__law_of_peak : Addr
  d__law_of_peak : FuncData
  F__law_of_peak : FnP K "_law_of_peak" st__law_of_peak f__law_of_peak d__law_of_peak
  g__law_of_peak : mg "_law_of_peak" = some (.ref f__law_of_peak)
  f_turned : Addr
  d_turned : FuncData
  F_turned : FnP K "turned" st_turned f_turned d_turned
  g_turned : mg "turned" = some (.ref f_turned)
  f__law_right : Addr
  d__law_right : FuncData
  F__law_right : FnP K "_law_right" st__law_right f__law_right d__law_right
  g__law_right : mg "_law_right" = some (.ref f__law_right)
  f_law : Addr
  d_law : FuncData
  F_law : FnP K "law" st_law f_law d_law
  g_law : mg "law" = some (.ref f_law)
  n_abs : mg "abs" = none
  n_all : mg "all" = none
  n_bool : mg "bool" = none
  n_enumerate : mg "enumerate" = none
  n_int : mg "int" = none
  n_isinstance : mg "isinstance" = none
  n_len : mg "len" = none
  n_list : mg "list" = none
  n_max : mg "max" = none
  n_min : mg "min" = none
  n_range : mg "range" = none
  n_repr : mg "repr" = none
  n_set : mg "set" = none
  n_tuple : mg "tuple" = none
  c_GREAT : ∃ t, mg "GREAT" = some (.int 1000000000000000000000000000000000000000000000000000000000000 t)
  c_MAX_OPTIONS : ∃ t, mg "MAX_OPTIONS" = some (.int 9 t)
section
variable {P : Program} {w : World} {K : PySem.W.Frag} {mg : Str → Option Value} {base : Heap}
theorem sc__law_bag : FnScope ["script", "spot", "cell", "great"] ["script", "spot"] (defScope st__law_bag) := ⟨rfl, rfl, rfl, by decide +kernel, rfl, by decide +kernel, by decide +kernel⟩
theorem b__law_bag (Z : W K mg) : Binds K Z.d__law_bag ["script", "spot"] [] := Z.F__law_bag.bindsN fun _ _ _ _ _ _ us hl => match us, hl with | [_, _], _ => rfl
theorem ok__law_bag (Z : W K mg) : FnG P w K mg base CX0 1 Z.f__law_bag Z.d__law_bag ["script", "spot"] (spD ⟨K, mg, P, w⟩ F__law_bag) :=
  fnG_ok Z.F__law_bag sc__law_bag fun cdv A outer s H E hr gd =>
    (dss_cons (ds_set (i := 2) sc__law_bag.nd rfl (by first | exact Or.inl rfl | exact Or.inr rfl) (de_if (dt_cmp (od_ltA (ru hr)) (de_var (pv 1)) (de_callB cd_len rfl Z.n_len (by decide +kernel) (da_cons (de_var (pv 0)) da_nil)) (nomark _)) (de_callTy cd_int rfl Z.n_int (by decide +kernel) (da_cons (de_ix (de_var (pv 0)) (de_var (pv 1)) (fun _ _ => rfl)) da_nil)) (de_bin od_add (de_bin od_mul de_int (de_var (pv 1))) de_int)))
    (dss_cons (ds_set (i := 3) sc__law_bag.nd rfl (by first | exact Or.inl rfl | exact Or.inr rfl) (de_bin od_mod (de_callB (cd_max2 rfl) rfl Z.n_max (by decide +kernel) (da_cons de_int (da_cons (de_bin od_sub (de_callB cd_abs rfl Z.n_abs (by decide +kernel) (da_cons (de_var (pv 2)) da_nil)) (de_bin od_pow de_int de_int)) da_nil))) (de_bin od_mul (de_bin od_pow de_int de_int) (de_bin od_pow de_int de_int))))
    (dss_one (ds_retL (dn_lst (da_cons (de_var (pv 3)) (da_cons (de_bin od_add (de_bin od_add (de_bin od_add (de_bin od_mul (de_bin od_mod (de_callB cd_abs rfl Z.n_abs (by decide +kernel) (da_cons (de_var (pv 2)) da_nil)) de_int) de_int) (de_bin od_mul de_int (de_var (pv 1)))) (de_bin od_mul de_int (de_callTy cd_int rfl Z.n_int (by decide +kernel) (da_cons (de_cmp (od_ltA (ru hr)) (de_var (pv 2)) de_int (nomark _)) da_nil)))) de_int) (da_cons de_int da_nil))))))))
theorem sc_is_whole : FnScope ["value"] ["value"] (defScope st_is_whole) := ⟨rfl, rfl, rfl, by decide +kernel, rfl, by decide +kernel, by decide +kernel⟩
theorem b_is_whole (Z : W K mg) : Binds K Z.d_is_whole ["value"] [] := Z.F_is_whole.bindsN fun _ _ _ _ _ _ us hl => match us, hl with | [_], _ => rfl
theorem ok_is_whole (Z : W K mg) : FnG P w K mg base CX0 1 Z.f_is_whole Z.d_is_whole ["value"] (spD ⟨K, mg, P, w⟩ F_is_whole) :=
  fnG_ok Z.F_is_whole sc_is_whole fun cdv A outer s H E hr gd =>
    (dss_one (ds_ret (de_and (de_isi (by decide) rfl Z.n_isinstance (de_var (pv 0)) rfl Z.n_int (by decide +kernel) (by decide +kernel)) (de_and (de_not (de_isi (by decide) rfl Z.n_isinstance (de_var (pv 0)) rfl Z.n_bool (by decide +kernel) (by decide +kernel))) (de_one (de_chain (od_ltA (ru hr)) (od_ltA (ru hr)) (de_un ud_neg (de_gint rfl Z.c_GREAT)) (de_var (pv 0)) (de_gint rfl Z.c_GREAT)))))))
theorem sc_is_within : FnScope ["value", "low", "high"] ["value", "low", "high"] (defScope st_is_within) := ⟨rfl, rfl, rfl, by decide +kernel, rfl, by decide +kernel, by decide +kernel⟩
theorem b_is_within (Z : W K mg) : Binds K Z.d_is_within ["value", "low", "high"] [] := Z.F_is_within.bindsN fun _ _ _ _ _ _ us hl => match us, hl with | [_, _, _], _ => rfl
theorem ok_is_within (Z : W K mg) : FnG P w K mg base CX0 2 Z.f_is_within Z.d_is_within ["value", "low", "high"] (spD ⟨K, mg, P, w⟩ F_is_within) :=
  fnG_ok Z.F_is_within sc_is_within fun cdv A outer s H E hr gd =>
    (dss_one (ds_ret (de_and (user_call ((ok_is_whole Z).up (by decide)) hr gd rfl Z.g_is_whole Z.F_is_whole.kp (b_is_whole Z) (da_cons (de_var (pv 0)) da_nil)) (de_one (de_chain (od_leA (ru hr)) (od_leA (ru hr)) (de_var (pv 1)) (de_var (pv 0)) (de_var (pv 2)))))))
theorem sc_require_size : FnScope ["size"] ["size"] (defScope st_require_size) := ⟨rfl, rfl, rfl, by decide +kernel, rfl, by decide +kernel, by decide +kernel⟩
theorem b_require_size (Z : W K mg) : Binds K Z.d_require_size ["size"] [] := Z.F_require_size.bindsN fun _ _ _ _ _ _ us hl => match us, hl with | [_], _ => rfl
theorem ok_require_size (Z : W K mg) : FnG P w K mg base CX0 3 Z.f_require_size Z.d_require_size ["size"] (spD ⟨K, mg, P, w⟩ F_require_size) :=
  fnG_ok Z.F_require_size sc_require_size fun cdv A outer s H E hr gd =>
    (dss_one (ds_if (dt_not (dt_val (user_call ((ok_is_within Z).up (by decide)) hr gd rfl Z.g_is_within Z.F_is_within.kp (b_is_within Z) (da_cons (de_var (pv 0)) (da_cons de_int (da_cons (de_gint rfl Z.c_MAX_OPTIONS) da_nil))))))
    (dss_one ds_never)
    dss_nil))
theorem sc_is_option : FnScope ["size", "value"] ["size", "value"] (defScope st_is_option) := ⟨rfl, rfl, rfl, by decide +kernel, rfl, by decide +kernel, by decide +kernel⟩
theorem b_is_option (Z : W K mg) : Binds K Z.d_is_option ["size", "value"] [] := Z.F_is_option.bindsN fun _ _ _ _ _ _ us hl => match us, hl with | [_, _], _ => rfl
theorem ok_is_option (Z : W K mg) : FnG P w K mg base CX0 3 Z.f_is_option Z.d_is_option ["size", "value"] (spD ⟨K, mg, P, w⟩ F_is_option) :=
  fnG_ok Z.F_is_option sc_is_option fun cdv A outer s H E hr gd =>
    (dss_one (ds_ret (user_call ((ok_is_within Z).up (by decide)) hr gd rfl Z.g_is_within Z.F_is_within.kp (b_is_within Z) (da_cons (de_var (pv 1)) (da_cons de_int (da_cons (de_bin od_sub (de_var (pv 0)) de_int) da_nil))))))
theorem sc_is_row_of : FnScope ["size", "value", "one"] ["size", "value"] (defScope st_is_row_of) := ⟨rfl, rfl, rfl, by decide +kernel, rfl, by decide +kernel, by decide +kernel⟩
theorem b_is_row_of (Z : W K mg) : Binds K Z.d_is_row_of ["size", "value"] [] := Z.F_is_row_of.bindsN fun _ _ _ _ _ _ us hl => match us, hl with | [_, _], _ => rfl
theorem ok_is_row_of (Z : W K mg) : FnG P w K mg base CX0 4 Z.f_is_row_of Z.d_is_row_of ["size", "value"] (spD ⟨K, mg, P, w⟩ F_is_row_of) :=
  fnG_ok Z.F_is_row_of sc_is_row_of fun cdv A outer s H E hr gd =>
    (dss_cons (ds_if (dt_w (dw_or (dt_not (dt_val (de_isi (by decide) rfl Z.n_isinstance (de_var (pv 1)) rfl Z.n_tuple (by decide +kernel) (by decide +kernel)))) (dw_or (dt_cmp (od_ne (ru hr)) (de_callB cd_len rfl Z.n_len (by decide +kernel) (da_cons (de_var (pv 1)) da_nil)) (de_var (pv 0)) (nomark _)) (dw_or1 (dt_not (dt_val (de_callB (cd_all rfl) rfl Z.n_all (by decide +kernel) (da_cons (de_n (dn_lc rfl sc_is_row_of.nd (di_seq (de_var (pv 1))) (own := [("one", 2)]) (blkO rfl) (by decide) (fun s H C cl fp => (dg_name (pg_name (i := 2) sc_is_row_of.nd rfl (by first | exact Or.inl rfl | exact Or.inr rfl)))) (fun s H C cl fp => dts_nil) (fun s H C cl fp => (user_call ((ok_is_option Z).up (by decide)) hr gd rfl Z.g_is_option Z.F_is_option.kp (b_is_option Z) (da_cons (de_var (pv 0)) (da_cons (de_var (pv 2)) da_nil)))))) da_nil))))))))
    (dss_one (ds_ret de_bl))
    dss_nil)
    (dss_one (ds_ret (de_cmp (od_eq (ru hr)) (de_callB cd_lenS rfl Z.n_len (by decide +kernel) (da_cons (de_callTy (cd_setA rfl) rfl Z.n_set (by decide +kernel) (da_cons (de_var (pv 1)) da_nil)) da_nil)) (de_var (pv 0)) (nomark _)))))
theorem sc_require_axis : FnScope ["size", "axis"] ["size", "axis"] (defScope st_require_axis) := ⟨rfl, rfl, rfl, by decide +kernel, rfl, by decide +kernel, by decide +kernel⟩
theorem b_require_axis (Z : W K mg) : Binds K Z.d_require_axis ["size", "axis"] [] := Z.F_require_axis.bindsN fun _ _ _ _ _ _ us hl => match us, hl with | [_, _], _ => rfl
theorem ok_require_axis (Z : W K mg) : FnG P w K mg base CX0 5 Z.f_require_axis Z.d_require_axis ["size", "axis"] (spD ⟨K, mg, P, w⟩ F_require_axis) :=
  fnG_ok Z.F_require_axis sc_require_axis fun cdv A outer s H E hr gd =>
    (dss_cons (ds_expr (user_call ((ok_require_size Z).up (by decide)) hr gd rfl Z.g_require_size Z.F_require_size.kp (b_require_size Z) (da_cons (de_var (pv 0)) da_nil)))
    (dss_one (ds_if (dt_not (dt_val (user_call ((ok_is_row_of Z).up (by decide)) hr gd rfl Z.g_is_row_of Z.F_is_row_of.kp (b_is_row_of Z) (da_cons (de_var (pv 0)) (da_cons (de_var (pv 1)) da_nil)))))
    (dss_one ds_never)
    dss_nil)))
theorem sc_require_option : FnScope ["size", "value"] ["size", "value"] (defScope st_require_option) := ⟨rfl, rfl, rfl, by decide +kernel, rfl, by decide +kernel, by decide +kernel⟩
theorem b_require_option (Z : W K mg) : Binds K Z.d_require_option ["size", "value"] [] := Z.F_require_option.bindsN fun _ _ _ _ _ _ us hl => match us, hl with | [_, _], _ => rfl
theorem ok_require_option (Z : W K mg) : FnG P w K mg base CX0 4 Z.f_require_option Z.d_require_option ["size", "value"] (spD ⟨K, mg, P, w⟩ F_require_option) :=
  fnG_ok Z.F_require_option sc_require_option fun cdv A outer s H E hr gd =>
    (dss_one (ds_if (dt_not (dt_val (user_call ((ok_is_option Z).up (by decide)) hr gd rfl Z.g_is_option Z.F_is_option.kp (b_is_option Z) (da_cons (de_var (pv 0)) (da_cons (de_var (pv 1)) da_nil)))))
    (dss_one ds_never)
    dss_nil))
theorem sc_is_sure_in : FnScope ["axis", "peak", "one", "other"] ["axis", "peak", "one", "other"] (defScope st_is_sure_in) := ⟨rfl, rfl, rfl, by decide +kernel, rfl, by decide +kernel, by decide +kernel⟩
theorem b_is_sure_in (Z : W K mg) : Binds K Z.d_is_sure_in ["axis", "peak", "one", "other"] [] := Z.F_is_sure_in.bindsN fun _ _ _ _ _ _ us hl => match us, hl with | [_, _, _, _], _ => rfl
theorem ok_is_sure_in (Z : W K mg) : FnG P w K mg base CX0 1 Z.f_is_sure_in Z.d_is_sure_in ["axis", "peak", "one", "other"] (spD ⟨K, mg, P, w⟩ F_is_sure_in) :=
  fnG_ok Z.F_is_sure_in sc_is_sure_in fun cdv A outer s H E hr gd =>
    (dss_one (ds_ret (de_and (de_cmp (od_ne (ru hr)) (de_var (pv 2)) (de_var (pv 3)) (nomark _)) (de_one (de_or (de_chain (od_leA (ru hr)) (od_ltA (ru hr)) (de_var (pv 1)) (de_var (pv 2)) (de_var (pv 3))) (de_or (de_chain (od_ltA (ru hr)) (od_leA (ru hr)) (de_var (pv 3)) (de_var (pv 2)) (de_var (pv 1))) (de_one (de_cmp (od_eq (ru hr)) (de_var (pv 2)) (de_var (pv 1)) (nomark _)))))))))
theorem sc_sure_pairs : FnScope ["size", "axis", "option", "peak", "found", "one", "some", "other"] ["size", "axis", "option"] (defScope st_sure_pairs) := ⟨rfl, rfl, rfl, by decide +kernel, rfl, by decide +kernel, by decide +kernel⟩
theorem b_sure_pairs (Z : W K mg) : Binds K Z.d_sure_pairs ["size", "axis", "option"] [] := Z.F_sure_pairs.bindsN fun _ _ _ _ _ _ us hl => match us, hl with | [_, _, _], _ => rfl
theorem ok_sure_pairs (Z : W K mg) : FnG P w K mg base CX0 6 Z.f_sure_pairs Z.d_sure_pairs ["size", "axis", "option"] (spD ⟨K, mg, P, w⟩ F_sure_pairs) :=
  fnG_ok Z.F_sure_pairs sc_sure_pairs fun cdv A outer s H E hr gd =>
    (dss_cons (ds_expr (user_call ((ok_require_axis Z).up (by decide)) hr gd rfl Z.g_require_axis Z.F_require_axis.kp (b_require_axis Z) (da_cons (de_var (pv 0)) (da_cons (de_var (pv 1)) da_nil))))
    (dss_cons (ds_expr (user_call ((ok_require_option Z).up (by decide)) hr gd rfl Z.g_require_option Z.F_require_option.kp (b_require_option Z) (da_cons (de_var (pv 0)) (da_cons (de_var (pv 2)) da_nil))))
    (dss_cons (ds_parT (n := 2) rfl sc_sure_pairs.nd (.cons (i := 3) rfl (by first | exact Or.inl rfl | exact Or.inr rfl) (by first | exact Or.inl rfl | exact Or.inr rfl) rfl (.cons (i := 4) rfl (by first | exact Or.inl rfl | exact Or.inr rfl) (by first | exact Or.inl rfl | exact Or.inr rfl) rfl .nil)) (dps_v (de_index (ru5 hr) (de_var (pv 1)) (de_var (pv 2))) (dps_n (dn_lst da_nil) dps_nil)) rfl (by decide))
    (dss_cons (ds_for PassesOwn.never rfl (di_range1 rfl Z.n_range (da_cons (de_var (pv 0)) da_nil)) (dg_name (pg_name (i := 5) sc_sure_pairs.nd rfl (by first | exact Or.inl rfl | exact Or.inr rfl)))
    (dss_cons (ds_lcSet (ps_lcN (i := 6) rfl sc_sure_pairs.nd rfl rfl rfl (di_range1 rfl Z.n_range (da_cons (de_var (pv 0)) da_nil)) (own := [("other", 7)]) (blkO rfl) (by decide) (fun s H C cl fp => (dg_name (pg_name (i := 7) sc_sure_pairs.nd rfl (by first | exact Or.inl rfl | exact Or.inr rfl)))) (fun s H C cl fp => (dts_one (dt_val (user_call ((ok_is_sure_in Z).up (by decide)) hr gd rfl Z.g_is_sure_in Z.F_is_sure_in.kp (b_is_sure_in Z) (da_cons (de_var (pv 1)) (da_cons (de_var (pv 3)) (da_cons (de_index (ru5 hr) (de_var (pv 1)) (de_var (pv 5))) (da_cons (de_index (ru5 hr) (de_var (pv 1)) (de_var (pv 7))) da_nil)))))))) (fun s H C cl fp => (de_var (pv 7)))))
    (dss_one (ds_expr (de_mt F.plainAttrs_list F.slot_list_extend F.type_list_extend md_extend (pv 4) (da_cons (de_n (dn_lc rfl sc_sure_pairs.nd (di_seq (de_var (pv 6))) (own := [("other", 7)]) (blkO rfl) (by decide) (fun s H C cl fp => (dg_name (pg_name (i := 7) sc_sure_pairs.nd rfl (by first | exact Or.inl rfl | exact Or.inr rfl)))) (fun s H C cl fp => dts_nil) (fun s H C cl fp => (de_tup (da_cons (de_var (pv 5)) (da_cons (de_var (pv 7)) da_nil)))))) da_nil))))))
    (dss_one (ds_ret (de_callTy cd_tuple rfl Z.n_tuple (by decide +kernel) (da_cons (de_var (pv 4)) da_nil))))))))
theorem sc_is_axis : FnScope ["size", "value"] ["size", "value"] (defScope st_is_axis) := ⟨rfl, rfl, rfl, by decide +kernel, rfl, by decide +kernel, by decide +kernel⟩
theorem b_is_axis (Z : W K mg) : Binds K Z.d_is_axis ["size", "value"] [] := Z.F_is_axis.bindsN fun _ _ _ _ _ _ us hl => match us, hl with | [_, _], _ => rfl
theorem ok_is_axis (Z : W K mg) : FnG P w K mg base CX0 5 Z.f_is_axis Z.d_is_axis ["size", "value"] (spD ⟨K, mg, P, w⟩ F_is_axis) :=
  fnG_ok Z.F_is_axis sc_is_axis fun cdv A outer s H E hr gd =>
    (dss_cons (ds_expr (user_call ((ok_require_size Z).up (by decide)) hr gd rfl Z.g_require_size Z.F_require_size.kp (b_require_size Z) (da_cons (de_var (pv 0)) da_nil)))
    (dss_one (ds_ret (user_call ((ok_is_row_of Z).up (by decide)) hr gd rfl Z.g_is_row_of Z.F_is_row_of.kp (b_is_row_of Z) (da_cons (de_var (pv 0)) (da_cons (de_var (pv 1)) da_nil))))))
theorem sc_require_on : FnScope ["size", "axis", "ballot"] ["size", "axis", "ballot"] (defScope st_require_on) := ⟨rfl, rfl, rfl, by decide +kernel, rfl, by decide +kernel, by decide +kernel⟩
theorem b_require_on (Z : W K mg) : Binds K Z.d_require_on ["size", "axis", "ballot"] [] := Z.F_require_on.bindsN fun _ _ _ _ _ _ us hl => match us, hl with | [_, _, _], _ => rfl
theorem ok_require_on (Z : W K mg) : FnG P w K mg base CX0 6 Z.f_require_on Z.d_require_on ["size", "axis", "ballot"] (spD ⟨K, mg, P, w⟩ F_require_on) :=
  fnG_ok Z.F_require_on sc_require_on fun cdv A outer s H E hr gd =>
    (dss_cons (ds_expr (user_call ((ok_require_axis Z).up (by decide)) hr gd rfl Z.g_require_axis Z.F_require_axis.kp (b_require_axis Z) (da_cons (de_var (pv 0)) (da_cons (de_var (pv 1)) da_nil))))
    (dss_one (ds_if (dt_not (dt_val (user_call ((ok_is_row_of Z).up (by decide)) hr gd rfl Z.g_is_row_of Z.F_is_row_of.kp (b_is_row_of Z) (da_cons (de_var (pv 0)) (da_cons (de_var (pv 2)) da_nil)))))
    (dss_one ds_never)
    dss_nil)))
theorem sc_places_in : FnScope ["ballot", "found", "place", "option"] ["ballot"] (defScope st_places_in) := ⟨rfl, rfl, rfl, by decide +kernel, rfl, by decide +kernel, by decide +kernel⟩
theorem b_places_in (Z : W K mg) : Binds K Z.d_places_in ["ballot"] [] := Z.F_places_in.bindsN fun _ _ _ _ _ _ us hl => match us, hl with | [_], _ => rfl
theorem ok_places_in (Z : W K mg) : FnG P w K mg base CX0 1 Z.f_places_in Z.d_places_in ["ballot"] (spD ⟨K, mg, P, w⟩ F_places_in) :=
  fnG_ok Z.F_places_in sc_places_in fun cdv A outer s H E hr gd =>
    (dss_cons (ds_own (i := 1) sc_places_in.nd rfl (by first | exact Or.inl rfl | exact Or.inr rfl) (dn_rep (dn_lst (da_cons de_int da_nil)) (de_callB cd_len rfl Z.n_len (by decide +kernel) (da_cons (de_var (pv 0)) da_nil))))
    (dss_cons (ds_for PassesOwn.never rfl (di_enumA rfl Z.n_enumerate (da_cons (de_var (pv 0)) da_nil)) (dg_tup rfl (dgs_cons (dg_name (pg_name (i := 2) sc_places_in.nd rfl (by first | exact Or.inl rfl | exact Or.inr rfl))) (dgs_cons (dg_name (pg_name (i := 3) sc_places_in.nd rfl (by first | exact Or.inl rfl | exact Or.inr rfl))) dgs_nil)))
    (dss_one (ds_setIx (de_var (pv 2)) (pv 1) (de_var (pv 3)))))
    (dss_one (ds_ret (de_var (pv 1))))))
theorem sc_is_peaked_in : FnScope ["axis", "ballot", "places", "ranks", "at", "option"] ["axis", "ballot"] (defScope st_is_peaked_in) := ⟨rfl, rfl, rfl, by decide +kernel, rfl, by decide +kernel, by decide +kernel⟩
theorem b_is_peaked_in (Z : W K mg) : Binds K Z.d_is_peaked_in ["axis", "ballot"] [] := Z.F_is_peaked_in.bindsN fun _ _ _ _ _ _ us hl => match us, hl with | [_, _], _ => rfl
theorem ok_is_peaked_in (Z : W K mg) : FnG P w K mg base CX0 2 Z.f_is_peaked_in Z.d_is_peaked_in ["axis", "ballot"] (spD ⟨K, mg, P, w⟩ F_is_peaked_in) :=
  fnG_ok Z.F_is_peaked_in sc_is_peaked_in fun cdv A outer s H E hr gd =>
    (dss_cons (ds_set (i := 2) sc_is_peaked_in.nd rfl (by first | exact Or.inl rfl | exact Or.inr rfl) (user_call ((ok_places_in Z).up (by decide)) hr gd rfl Z.g_places_in Z.F_places_in.kp (b_places_in Z) (da_cons (de_var (pv 1)) da_nil)))
    (dss_cons (ds_lcSet (ps_lcN (i := 3) rfl sc_is_peaked_in.nd rfl rfl rfl (di_seq (de_var (pv 0))) (own := [("option", 5)]) (blkO rfl) (by decide) (fun s H C cl fp => (dg_name (pg_name (i := 5) sc_is_peaked_in.nd rfl (by first | exact Or.inl rfl | exact Or.inr rfl)))) (fun s H C cl fp => dts_nil) (fun s H C cl fp => (de_ix (de_var (pv 2)) (de_var (pv 5)) (fun _ _ => rfl)))))
    (dss_cons (ds_for PassesOwn.never rfl (di_range2 rfl Z.n_range (da_cons de_int (da_cons (de_bin od_sub (de_callB cd_len rfl Z.n_len (by decide +kernel) (da_cons (de_var (pv 3)) da_nil)) de_int) da_nil))) (dg_name (pg_name (i := 4) sc_is_peaked_in.nd rfl (by first | exact Or.inl rfl | exact Or.inr rfl)))
    (dss_one (ds_if (dt_w (dw_and (dt_cmp (od_gtA (ru hr)) (de_ix (de_var (pv 3)) (de_var (pv 4)) (fun _ _ => rfl)) (de_ix (de_var (pv 3)) (de_bin od_sub (de_var (pv 4)) de_int) (fun _ _ => rfl)) (nomark _)) (dw_and1 (dt_cmp (od_gtA (ru hr)) (de_ix (de_var (pv 3)) (de_var (pv 4)) (fun _ _ => rfl)) (de_ix (de_var (pv 3)) (de_bin od_add (de_var (pv 4)) de_int) (fun _ _ => rfl)) (nomark _)))))
    (dss_one (ds_ret de_bl))
    dss_nil)))
    (dss_one (ds_ret de_bl)))))
theorem sc_is_peaked : FnScope ["size", "axis", "ballot"] ["size", "axis", "ballot"] (defScope st_is_peaked) := ⟨rfl, rfl, rfl, by decide +kernel, rfl, by decide +kernel, by decide +kernel⟩
theorem b_is_peaked (Z : W K mg) : Binds K Z.d_is_peaked ["size", "axis", "ballot"] [] := Z.F_is_peaked.bindsN fun _ _ _ _ _ _ us hl => match us, hl with | [_, _, _], _ => rfl
theorem ok_is_peaked (Z : W K mg) : FnG P w K mg base CX0 7 Z.f_is_peaked Z.d_is_peaked ["size", "axis", "ballot"] (spD ⟨K, mg, P, w⟩ F_is_peaked) :=
  fnG_ok Z.F_is_peaked sc_is_peaked fun cdv A outer s H E hr gd =>
    (dss_cons (ds_expr (user_call ((ok_require_on Z).up (by decide)) hr gd rfl Z.g_require_on Z.F_require_on.kp (b_require_on Z) (da_cons (de_var (pv 0)) (da_cons (de_var (pv 1)) (da_cons (de_var (pv 2)) da_nil)))))
    (dss_one (ds_ret (user_call ((ok_is_peaked_in Z).up (by decide)) hr gd rfl Z.g_is_peaked_in Z.F_is_peaked_in.kp (b_is_peaked_in Z) (da_cons (de_var (pv 1)) (da_cons (de_var (pv 2)) da_nil))))))
theorem sc__law_draw : FnScope ["bag", "total", "found", "one", "two"] ["bag", "total"] (defScope st__law_draw) := ⟨rfl, rfl, rfl, by decide +kernel, rfl, by decide +kernel, by decide +kernel⟩
theorem b__law_draw (Z : W K mg) : Binds K Z.d__law_draw ["bag", "total"] [] := Z.F__law_draw.bindsN fun _ _ _ _ _ _ us hl => match us, hl with | [_, _], _ => rfl
theorem ok__law_draw (Z : W K mg) : FnG P w K mg base CX0 1 Z.f__law_draw Z.d__law_draw ["bag", "total"] (spD ⟨K, mg, P, w⟩ F__law_draw) :=
  fnG_ok Z.F__law_draw sc__law_draw fun cdv A outer s H E hr gd =>
    (dss_cons (ds_if (dt_cmp (od_gtA (ru hr)) (de_ix (de_var (pv 0)) de_int (fun _ _ => rfl)) de_int (nomark _))
    (dss_cons (ds_set (i := 2) sc__law_draw.nd rfl (by first | exact Or.inl rfl | exact Or.inr rfl) (de_bin od_mod (de_callTy cd_int rfl Z.n_int (by decide +kernel) (da_cons (de_ix (de_var (pv 0)) de_int (fun _ _ => rfl)) da_nil)) (de_var (pv 1))))
    (dss_cons (ds_setIx (de_bin od_div (de_ix (de_var (pv 0)) de_int (fun _ _ => rfl)) (de_var (pv 1))) (pv 0) de_int)
    (dss_one (ds_ret (de_var (pv 2))))))
    dss_nil)
    (dss_cons (ds_setIx (de_bin od_add (de_ix (de_var (pv 0)) de_int (fun _ _ => rfl)) de_int) (pv 0) de_int)
    (dss_cons (ds_set (i := 3) sc__law_draw.nd rfl (by first | exact Or.inl rfl | exact Or.inr rfl) (de_bin od_mod (de_callTy cd_int rfl Z.n_int (by decide +kernel) (da_cons (de_bin od_add (de_ix (de_var (pv 0)) de_int (fun _ _ => rfl)) (de_bin od_mul de_int (de_ix (de_var (pv 0)) de_int (fun _ _ => rfl)))) da_nil)) de_int))
    (dss_cons (ds_set (i := 4) sc__law_draw.nd rfl (by first | exact Or.inl rfl | exact Or.inr rfl) (de_bin od_add (de_bin od_mul (de_bin od_mod (de_callTy cd_int rfl Z.n_int (by decide +kernel) (da_cons (de_bin od_add (de_bin od_mul (de_var (pv 3)) (de_var (pv 3))) (de_bin od_mul de_int (de_ix (de_var (pv 0)) de_int (fun _ _ => rfl)))) da_nil)) de_int) de_int) (de_var (pv 3))))
    (dss_one (ds_ret (de_bin od_mod (de_callTy cd_int rfl Z.n_int (by decide +kernel) (da_cons (de_bin od_div (de_var (pv 4)) de_int) da_nil)) (de_var (pv 1)))))))))
theorem sc__law_mixed : FnScope ["bag", "items", "found", "at", "other"] ["bag", "items"] (defScope st__law_mixed) := ⟨rfl, rfl, rfl, by decide +kernel, rfl, by decide +kernel, by decide +kernel⟩
theorem b__law_mixed (Z : W K mg) : Binds K Z.d__law_mixed ["bag", "items"] [] := Z.F__law_mixed.bindsN fun _ _ _ _ _ _ us hl => match us, hl with | [_, _], _ => rfl
theorem ok__law_mixed (Z : W K mg) : FnG P w K mg base CX0 2 Z.f__law_mixed Z.d__law_mixed ["bag", "items"] (spD ⟨K, mg, P, w⟩ F__law_mixed) :=
  fnG_ok Z.F__law_mixed sc__law_mixed fun cdv A outer s H E hr gd =>
    (dss_cons (ds_own (i := 2) sc__law_mixed.nd rfl (by first | exact Or.inl rfl | exact Or.inr rfl) (dn_callTy cn_list rfl Z.n_list (by decide +kernel) (da_cons (de_var (pv 1)) da_nil)))
    (dss_cons (ds_for PassesOwn.never rfl (di_range3 rfl Z.n_range (da_cons (de_bin od_sub (de_callB cd_len rfl Z.n_len (by decide +kernel) (da_cons (de_var (pv 2)) da_nil)) de_int) (da_cons de_int (da_cons (de_un ud_neg de_int) da_nil)))) (dg_name (pg_name (i := 3) sc__law_mixed.nd rfl (by first | exact Or.inl rfl | exact Or.inr rfl)))
    (dss_cons (ds_set (i := 4) sc__law_mixed.nd rfl (by first | exact Or.inl rfl | exact Or.inr rfl) (user_call ((ok__law_draw Z).up (by decide)) hr gd rfl Z.g__law_draw Z.F__law_draw.kp (b__law_draw Z) (da_cons (de_var (pv 0)) (da_cons (de_bin od_add (de_var (pv 3)) de_int) da_nil))))
    (dss_one (ds_set2Ix rfl (de_tup (da_cons (de_ix (de_var (pv 2)) (de_var (pv 4)) (fun _ _ => rfl)) (da_cons (de_ix (de_var (pv 2)) (de_var (pv 3)) (fun _ _ => rfl)) da_nil))) (pv 2) (pv 2) (de_var (pv 3)) (de_var (pv 4))))))
    (dss_one (ds_ret (de_var (pv 2))))))
theorem sc__law_places : FnScope ["row", "found", "place", "option"] ["row"] (defScope st__law_places) := ⟨rfl, rfl, rfl, by decide +kernel, rfl, by decide +kernel, by decide +kernel⟩
theorem b__law_places (Z : W K mg) : Binds K Z.d__law_places ["row"] [] := Z.F__law_places.bindsN fun _ _ _ _ _ _ us hl => match us, hl with | [_], _ => rfl
theorem ok__law_places (Z : W K mg) : FnG P w K mg base CX0 1 Z.f__law_places Z.d__law_places ["row"] (spD ⟨K, mg, P, w⟩ F__law_places) :=
  fnG_ok Z.F__law_places sc__law_places fun cdv A outer s H E hr gd =>
    (dss_cons (ds_own (i := 1) sc__law_places.nd rfl (by first | exact Or.inl rfl | exact Or.inr rfl) (dn_rep (dn_lst (da_cons de_int da_nil)) (de_callB cd_len rfl Z.n_len (by decide +kernel) (da_cons (de_var (pv 0)) da_nil))))
    (dss_cons (ds_for PassesOwn.never rfl (di_enumA rfl Z.n_enumerate (da_cons (de_var (pv 0)) da_nil)) (dg_tup rfl (dgs_cons (dg_name (pg_name (i := 2) sc__law_places.nd rfl (by first | exact Or.inl rfl | exact Or.inr rfl))) (dgs_cons (dg_name (pg_name (i := 3) sc__law_places.nd rfl (by first | exact Or.inl rfl | exact Or.inr rfl))) dgs_nil)))
    (dss_one (ds_setIx (de_var (pv 2)) (pv 1) (de_var (pv 3)))))
    (dss_one (ds_ret (de_var (pv 1))))))
theorem sc__law_of_peak : FnScope ["axis", "low", "high", "found", "rows"] ["axis", "low", "high", "found"] (defScope st__law_of_peak) := ⟨rfl, rfl, rfl, by decide +kernel, rfl, by decide +kernel, by decide +kernel⟩
theorem b__law_of_peak (Z : W K mg) : Binds K Z.d__law_of_peak ["axis", "low", "high", "found"] [] := Z.F__law_of_peak.bindsN fun _ _ _ _ _ _ us hl => match us, hl with | [_, _, _, _], _ => rfl
theorem ok__law_of_peak (Z : W K mg) : ∀ fuel : Nat, FnG P w K mg base CX0 (1 + fuel) Z.f__law_of_peak Z.d__law_of_peak ["axis", "low", "high", "found"] (spD ⟨K, mg, P, w⟩ (F__law_of_peak fuel))
  | 0 => fnG_none fun _ => rfl
  | fuel + 1 => fnG_ok Z.F__law_of_peak sc__law_of_peak fun cdv A outer s H E hr gd =>
    (dss_cons (ds_if (dt_w (dw_and (dt_cmp (od_eq (ru hr)) (de_var (pv 1)) de_int (nomark _)) (dw_and1 (dt_cmp (od_eq (ru hr)) (de_var (pv 2)) (de_bin od_sub (de_callB cd_len rfl Z.n_len (by decide +kernel) (da_cons (de_var (pv 0)) da_nil)) de_int) (nomark _)))))
    (dss_one (ds_retL (dn_lst (da_cons (de_var (pv 3)) da_nil))))
    dss_nil)
    (dss_cons (ds_set (i := 4) sc__law_of_peak.nd rfl (by first | exact Or.inl rfl | exact Or.inr rfl) (de_if (dt_cmp (od_gtA (ru hr)) (de_var (pv 1)) de_int (nomark _)) (user_call (ok__law_of_peak Z fuel) hr gd rfl Z.g__law_of_peak Z.F__law_of_peak.kp (b__law_of_peak Z) (da_cons (de_var (pv 0)) (da_cons (de_bin od_sub (de_var (pv 1)) de_int) (da_cons (de_var (pv 2)) (da_cons (de_bin od_add (de_var (pv 3)) (de_tup (da_cons (de_ix (de_var (pv 0)) (de_bin od_sub (de_var (pv 1)) de_int) (fun _ _ => rfl)) da_nil))) da_nil))))) (de_n (dn_lst da_nil))))
    (dss_one (ds_retL (dn_bin on_cat (de_var (pv 4)) (de_if (dt_cmp (od_ltA (ru hr)) (de_var (pv 2)) (de_bin od_sub (de_callB cd_len rfl Z.n_len (by decide +kernel) (da_cons (de_var (pv 0)) da_nil)) de_int) (nomark _)) (user_call (ok__law_of_peak Z fuel) hr gd rfl Z.g__law_of_peak Z.F__law_of_peak.kp (b__law_of_peak Z) (da_cons (de_var (pv 0)) (da_cons (de_var (pv 1)) (da_cons (de_bin od_add (de_var (pv 2)) de_int) (da_cons (de_bin od_add (de_var (pv 3)) (de_tup (da_cons (de_ix (de_var (pv 0)) (de_bin od_add (de_var (pv 2)) de_int) (fun _ _ => rfl)) da_nil))) da_nil))))) (de_n (dn_lst da_nil))))))))
theorem sc_turned : FnScope ["size", "axis"] ["size", "axis"] (defScope st_turned) := ⟨rfl, rfl, rfl, by decide +kernel, rfl, by decide +kernel, by decide +kernel⟩
theorem b_turned (Z : W K mg) : Binds K Z.d_turned ["size", "axis"] [] := Z.F_turned.bindsN fun _ _ _ _ _ _ us hl => match us, hl with | [_, _], _ => rfl
theorem ok_turned (Z : W K mg) : FnG P w K mg base CX0 6 Z.f_turned Z.d_turned ["size", "axis"] (spD ⟨K, mg, P, w⟩ F_turned) :=
  fnG_ok Z.F_turned sc_turned fun cdv A outer s H E hr gd =>
    (dss_cons (ds_expr (user_call ((ok_require_axis Z).up (by decide)) hr gd rfl Z.g_require_axis Z.F_require_axis.kp (b_require_axis Z) (da_cons (de_var (pv 0)) (da_cons (de_var (pv 1)) da_nil))))
    (dss_one (ds_ret (de_rev (de_var (pv 1))))))
theorem sc__law_right : FnScope ["bag", "most", "size", "axis", "peak", "spot", "rows", "due", "one", "row", "near", "other", "value"] ["bag", "most"] (defScope st__law_right) := ⟨rfl, rfl, rfl, by decide +kernel, rfl, by decide +kernel, by decide +kernel⟩
theorem b__law_right (Z : W K mg) : Binds K Z.d__law_right ["bag", "most"] [] := Z.F__law_right.bindsN fun _ _ _ _ _ _ us hl => match us, hl with | [_, _], _ => rfl
theorem ok__law_right (Z : W K mg) : FnG P w K mg base CX0 14 Z.f__law_right Z.d__law_right ["bag", "most"] (spD ⟨K, mg, P, w⟩ F__law_right) :=
  fnG_ok Z.F__law_right sc__law_right fun cdv A outer s H E hr gd =>
    (dss_cons (ds_set (i := 2) sc__law_right.nd rfl (by first | exact Or.inl rfl | exact Or.inr rfl) (de_bin od_add de_int (user_call ((ok__law_draw Z).up (by decide)) hr gd rfl Z.g__law_draw Z.F__law_draw.kp (b__law_draw Z) (da_cons (de_var (pv 0)) (da_cons (de_var (pv 1)) da_nil)))))
    (dss_cons (ds_par2 rfl sc__law_right.nd (i := 3) (j := 4) rfl rfl (by decide) rfl rfl (dp_v (de_callTy cd_tuple rfl Z.n_tuple (by decide +kernel) (da_cons (user_call ((ok__law_mixed Z).up (by decide)) hr gd rfl Z.g__law_mixed Z.F__law_mixed.kp (b__law_mixed Z) (da_cons (de_var (pv 0)) (da_cons (de_n (dn_listRg rfl rfl Z.n_list (dr_1 rfl Z.n_range (de_var (pv 2))))) da_nil))) da_nil))) (dp_v (user_call ((ok__law_draw Z).up (by decide)) hr gd rfl Z.g__law_draw Z.F__law_draw.kp (b__law_draw Z) (da_cons (de_var (pv 0)) (da_cons (de_var (pv 2)) da_nil)))) rfl)
    (dss_cons (ds_set (i := 5) sc__law_right.nd rfl (by first | exact Or.inl rfl | exact Or.inr rfl) (de_index (ru5 hr) (de_var (pv 3)) (de_var (pv 4))))
    (dss_cons (ds_set (i := 6) sc__law_right.nd rfl (by first | exact Or.inl rfl | exact Or.inr rfl) (de_n (dn_lc rfl sc__law_right.nd (di_seq (user_call ((ok__law_of_peak Z 12).up (by decide)) hr gd rfl Z.g__law_of_peak Z.F__law_of_peak.kp (b__law_of_peak Z) (da_cons (de_var (pv 3)) (da_cons (de_var (pv 5)) (da_cons (de_var (pv 5)) (da_cons (de_tup (da_cons (de_var (pv 4)) da_nil)) da_nil)))))) (own := [("row", 9)]) (blkO rfl) (by decide) (fun s H C cl fp => (dg_name (pg_name (i := 9) sc__law_right.nd rfl (by first | exact Or.inl rfl | exact Or.inr rfl)))) (fun s H C cl fp => dts_nil) (fun s H C cl fp => (user_call ((ok__law_places Z).up (by decide)) hr gd rfl Z.g__law_places Z.F__law_places.kp (b__law_places Z) (da_cons (de_var (pv 9)) da_nil))))))
    (dss_cons (ds_own (i := 7) sc__law_right.nd rfl (by first | exact Or.inl rfl | exact Or.inr rfl) (dn_lst da_nil))
    (dss_cons (ds_for PassesOwn.never rfl (di_range1 rfl Z.n_range (da_cons (de_var (pv 2)) da_nil)) (dg_name (pg_name (i := 8) sc__law_right.nd rfl (by first | exact Or.inl rfl | exact Or.inr rfl)))
    (dss_one (ds_expr (de_mt F.plainAttrs_list F.slot_list_extend F.type_list_extend md_extend (pv 7) (da_cons (de_n (dn_lc rfl sc__law_right.nd (di_range1 rfl Z.n_range (da_cons (de_var (pv 2)) da_nil)) (own := [("other", 11)]) (blkO rfl) (by decide) (fun s H C cl fp => (dg_name (pg_name (i := 11) sc__law_right.nd rfl (by first | exact Or.inl rfl | exact Or.inr rfl)))) (fun s H C cl fp => (dts_one (dt_w (dw_and (dt_cmp (od_ne (ru hr)) (de_var (pv 8)) (de_var (pv 11)) (nomark _)) (dw_and1 (dt_cmp (od_eq (ru hr)) (de_n (dn_lc rfl sc__law_right.nd (di_seq (de_var (pv 6))) (own := [("row", 9)]) (blkO rfl) (by decide) (fun s H C cl fp => (dg_name (pg_name (i := 9) sc__law_right.nd rfl (by first | exact Or.inl rfl | exact Or.inr rfl)))) (fun s H C cl fp => (dts_one (dt_cmp (od_gtA (ru hr)) (de_ix (de_var (pv 9)) (de_var (pv 8)) (fun _ _ => rfl)) (de_ix (de_var (pv 9)) (de_var (pv 11)) (fun _ _ => rfl)) (nomark _)))) (fun s H C cl fp => (de_var (pv 9))))) (de_n (dn_lst da_nil)) (nomark _))))))) (fun s H C cl fp => (de_tup (da_cons (de_var (pv 8)) (da_cons (de_var (pv 11)) da_nil)))))) da_nil)))))
    (dss_cons (ds_if (dt_w (dw_or (dt_cmp (od_ne (ru hr)) (de_callB (cd_repr gd (ru hr)) rfl Z.n_repr (by decide +kernel) (da_cons (user_call ((ok_sure_pairs Z).up (by decide)) hr gd rfl Z.g_sure_pairs Z.F_sure_pairs.kp (b_sure_pairs Z) (da_cons (de_var (pv 2)) (da_cons (de_var (pv 3)) (da_cons (de_var (pv 4)) da_nil)))) da_nil)) (de_callB (cd_repr gd (ru hr)) rfl Z.n_repr (by decide +kernel) (da_cons (de_callTy cd_tuple rfl Z.n_tuple (by decide +kernel) (da_cons (de_var (pv 7)) da_nil)) da_nil)) (nomark _)) (dw_or1 (dt_cmp (od_ne (ru hr)) (de_callB (cd_repr gd (ru hr)) rfl Z.n_repr (by decide +kernel) (da_cons (user_call ((ok_sure_pairs Z).up (by decide)) hr gd rfl Z.g_sure_pairs Z.F_sure_pairs.kp (b_sure_pairs Z) (da_cons (de_var (pv 2)) (da_cons (user_call ((ok_turned Z).up (by decide)) hr gd rfl Z.g_turned Z.F_turned.kp (b_turned Z) (da_cons (de_var (pv 2)) (da_cons (de_var (pv 3)) da_nil))) (da_cons (de_var (pv 4)) da_nil)))) da_nil)) (de_callB (cd_repr gd (ru hr)) rfl Z.n_repr (by decide +kernel) (da_cons (de_callTy cd_tuple rfl Z.n_tuple (by decide +kernel) (da_cons (de_var (pv 7)) da_nil)) da_nil)) (nomark _)))))
    (dss_one (ds_ret de_bl))
    dss_nil)
    (dss_cons (ds_set (i := 9) sc__law_right.nd rfl (by first | exact Or.inl rfl | exact Or.inr rfl) (user_call ((ok__law_mixed Z).up (by decide)) hr gd rfl Z.g__law_mixed Z.F__law_mixed.kp (b__law_mixed Z) (da_cons (de_var (pv 0)) (da_cons (de_n (dn_listRg rfl rfl Z.n_list (dr_1 rfl Z.n_range (de_var (pv 2))))) da_nil))))
    (dss_cons (ds_set (i := 10) sc__law_right.nd rfl (by first | exact Or.inl rfl | exact Or.inr rfl) (de_n (dn_lst (da_cons (de_callTy cd_tuple rfl Z.n_tuple (by decide +kernel) (da_cons (de_var (pv 9)) da_nil)) (da_cons (de_var (pv 9)) (da_cons (de_callTy cd_tuple rfl Z.n_tuple (by decide +kernel) (da_cons (de_sl (de_var (pv 9)) (do_some de_int) do_none) da_nil)) (da_cons (de_bin od_add (de_callTy cd_tuple rfl Z.n_tuple (by decide +kernel) (da_cons (de_var (pv 9)) da_nil)) (de_tup (da_cons de_int da_nil))) (da_cons de_non (da_cons (de_tup da_nil) (da_cons (de_callTy cd_tuple rfl Z.n_tuple (by decide +kernel) (da_cons (de_n (dn_lc rfl sc__law_right.nd (di_seq (de_var (pv 9))) (own := [("one", 8)]) (blkO rfl) (by decide) (fun s H C cl fp => (dg_name (pg_name (i := 8) sc__law_right.nd rfl (by first | exact Or.inl rfl | exact Or.inr rfl)))) (fun s H C cl fp => dts_nil) (fun s H C cl fp => (de_callTy cd_bool rfl Z.n_bool (by decide +kernel) (da_cons (de_var (pv 8)) da_nil))))) da_nil)) (da_cons (de_bin od_add (de_tup (da_cons (de_var (pv 2)) da_nil)) (de_callTy cd_tuple rfl Z.n_tuple (by decide +kernel) (da_cons (de_sl (de_var (pv 9)) (do_some de_int) do_none) da_nil))) da_nil)))))))))))
    (dss_one (ds_ret (de_or (de_cmp (od_eq (ru hr)) (de_var (pv 2)) de_int (nomark _)) (de_one (de_cmp (od_eq (ru hr)) (de_callB (cd_repr gd (ru hr)) rfl Z.n_repr (by decide +kernel) (da_cons (de_n (dn_lc rfl sc__law_right.nd (di_seq (de_var (pv 10))) (own := [("value", 12)]) (blkO rfl) (by decide) (fun s H C cl fp => (dg_name (pg_name (i := 12) sc__law_right.nd rfl (by first | exact Or.inl rfl | exact Or.inr rfl)))) (fun s H C cl fp => dts_nil) (fun s H C cl fp => (user_call ((ok_is_axis Z).up (by decide)) hr gd rfl Z.g_is_axis Z.F_is_axis.kp (b_is_axis Z) (da_cons (de_var (pv 2)) (da_cons (de_var (pv 12)) da_nil)))))) da_nil)) (de_callB (cd_repr gd (ru hr)) rfl Z.n_repr (by decide +kernel) (da_cons (de_bin od_add (de_n (dn_lst (da_cons de_bl da_nil))) (de_n (dn_rep (dn_lst (da_cons de_bl da_nil)) de_int))) da_nil)) (nomark _)))))))))))))))
theorem sc_law : FnScope ["script", "at", "bag", "turn", "told"] ["script"] (defScope st_law) := ⟨rfl, rfl, rfl, by decide +kernel, rfl, by decide +kernel, by decide +kernel⟩
theorem b_law (Z : W K mg) : Binds K Z.d_law ["script"] [] := Z.F_law.bindsN fun _ _ _ _ _ _ us hl => match us, hl with | [_], _ => rfl
theorem ok_law (Z : W K mg) : FnG P w K mg base CX0 15 Z.f_law Z.d_law ["script"] (spD ⟨K, mg, P, w⟩ F_law) :=
  fnG_ok Z.F_law sc_law fun cdv A outer s H E hr gd =>
    (dss_cons (ds_for PassesOwn.never rfl (di_range1 rfl Z.n_range (da_cons (de_callB (cd_max2 rfl) rfl Z.n_max (by decide +kernel) (da_cons de_int (da_cons (de_callB (cd_min2 rfl) rfl Z.n_min (by decide +kernel) (da_cons de_int (da_cons (de_callB cd_len rfl Z.n_len (by decide +kernel) (da_cons (de_var (pv 0)) da_nil)) da_nil))) da_nil))) da_nil)) (dg_name (pg_name (i := 1) sc_law.nd rfl (by first | exact Or.inl rfl | exact Or.inr rfl)))
    (dss_cons (ds_own (i := 2) sc_law.nd rfl (by first | exact Or.inl rfl | exact Or.inr rfl) (user_callN ((ok__law_bag Z).up (by decide)) hr gd rfl Z.g__law_bag Z.F__law_bag.kp (b__law_bag Z) (da_cons (de_var (pv 0)) (da_cons (de_var (pv 1)) da_nil))))
    (dss_one (ds_for PassesOwn.never rfl (di_range1 rfl Z.n_range (da_cons de_int da_nil)) (dg_name (pg_name (i := 3) sc_law.nd rfl (by first | exact Or.inl rfl | exact Or.inr rfl)))
    (dss_one (ds_if (dt_w (dw_or (dt_not (dt_val (user_call ((ok__law_right Z).up (by decide)) hr gd rfl Z.g__law_right Z.F__law_right.kp (b__law_right Z) (da_cons (de_var (pv 2)) (da_cons de_int da_nil))))) (dw_or1 (dt_not (dt_val (user_call ((ok__law_right Z).up (by decide)) hr gd rfl Z.g__law_right Z.F__law_right.kp (b__law_right Z) (da_cons (de_var (pv 2)) (da_cons de_int da_nil))))))))
    (dss_one (ds_ret de_bl))
    dss_nil))))))
    (dss_cons (ds_set (i := 4) sc_law.nd rfl (by first | exact Or.inl rfl | exact Or.inr rfl) (de_n (dn_lst (da_cons (user_call ((ok_sure_pairs Z).up (by decide)) hr gd rfl Z.g_sure_pairs Z.F_sure_pairs.kp (b_sure_pairs Z) (da_cons de_int (da_cons (de_tup (da_cons de_int (da_cons de_int (da_cons de_int (da_cons de_int da_nil))))) (da_cons de_int da_nil)))) (da_cons (user_call ((ok_sure_pairs Z).up (by decide)) hr gd rfl Z.g_sure_pairs Z.F_sure_pairs.kp (b_sure_pairs Z) (da_cons de_int (da_cons (de_tup (da_cons de_int da_nil)) (da_cons de_int da_nil)))) (da_cons (user_call ((ok_is_axis Z).up (by decide)) hr gd rfl Z.g_is_axis Z.F_is_axis.kp (b_is_axis Z) (da_cons de_int (da_cons (de_tup (da_cons de_int da_nil)) da_nil))) (da_cons (user_call ((ok_is_axis Z).up (by decide)) hr gd rfl Z.g_is_axis Z.F_is_axis.kp (b_is_axis Z) (da_cons de_int (da_cons (de_tup (da_cons de_bl da_nil)) da_nil))) (da_cons (user_call ((ok_is_axis Z).up (by decide)) hr gd rfl Z.g_is_axis Z.F_is_axis.kp (b_is_axis Z) (da_cons de_int (da_cons (de_tup da_nil) da_nil))) (da_cons (user_call ((ok_is_peaked Z).up (by decide)) hr gd rfl Z.g_is_peaked Z.F_is_peaked.kp (b_is_peaked Z) (da_cons de_int (da_cons (de_tup (da_cons de_int da_nil)) (da_cons (de_tup (da_cons de_int da_nil)) da_nil)))) da_nil)))))))))
    (dss_one (ds_ret (de_cmp (od_eq (ru hr)) (de_callB (cd_repr gd (ru hr)) rfl Z.n_repr (by decide +kernel) (da_cons (de_var (pv 4)) da_nil)) (de_callB (cd_repr gd (ru hr)) rfl Z.n_repr (by decide +kernel) (da_cons (de_n (dn_lst (da_cons (de_tup (da_cons (de_tup (da_cons de_int (da_cons de_int da_nil))) (da_cons (de_tup (da_cons de_int (da_cons de_int da_nil))) (da_cons (de_tup (da_cons de_int (da_cons de_int da_nil))) (da_cons (de_tup (da_cons de_int (da_cons de_int da_nil))) da_nil))))) (da_cons (de_tup da_nil) (da_cons de_bl (da_cons de_bl (da_cons de_bl (da_cons de_bl da_nil)))))))) da_nil)) (nomark _))))))
end
def h__law_bag : He.DefD := ⟨("_law_bag", none), "_law_bag", "_law_bag", defArgs st__law_bag, defBody st__law_bag, defScope st__law_bag, [], []⟩
def h_is_whole : He.DefD := ⟨("is_whole", none), "is_whole", "is_whole", defArgs st_is_whole, defBody st_is_whole, defScope st_is_whole, [], []⟩
def h_is_within : He.DefD := ⟨("is_within", none), "is_within", "is_within", defArgs st_is_within, defBody st_is_within, defScope st_is_within, [], []⟩
def h_require_size : He.DefD := ⟨("require_size", none), "require_size", "require_size", defArgs st_require_size, defBody st_require_size, defScope st_require_size, [], []⟩
def h_is_option : He.DefD := ⟨("is_option", none), "is_option", "is_option", defArgs st_is_option, defBody st_is_option, defScope st_is_option, [], []⟩
def h_is_row_of : He.DefD := ⟨("is_row_of", none), "is_row_of", "is_row_of", defArgs st_is_row_of, defBody st_is_row_of, defScope st_is_row_of, [], []⟩
def h_require_axis : He.DefD := ⟨("require_axis", none), "require_axis", "require_axis", defArgs st_require_axis, defBody st_require_axis, defScope st_require_axis, [], []⟩
def h_require_option : He.DefD := ⟨("require_option", none), "require_option", "require_option", defArgs st_require_option, defBody st_require_option, defScope st_require_option, [], []⟩
def h_is_sure_in : He.DefD := ⟨("is_sure_in", none), "is_sure_in", "is_sure_in", defArgs st_is_sure_in, defBody st_is_sure_in, defScope st_is_sure_in, [], []⟩
def h_sure_pairs : He.DefD := ⟨("sure_pairs", none), "sure_pairs", "sure_pairs", defArgs st_sure_pairs, defBody st_sure_pairs, defScope st_sure_pairs, [], []⟩
def h_is_axis : He.DefD := ⟨("is_axis", none), "is_axis", "is_axis", defArgs st_is_axis, defBody st_is_axis, defScope st_is_axis, [], []⟩
def h_require_on : He.DefD := ⟨("require_on", none), "require_on", "require_on", defArgs st_require_on, defBody st_require_on, defScope st_require_on, [], []⟩
def h_places_in : He.DefD := ⟨("places_in", none), "places_in", "places_in", defArgs st_places_in, defBody st_places_in, defScope st_places_in, [], []⟩
def h_is_peaked_in : He.DefD := ⟨("is_peaked_in", none), "is_peaked_in", "is_peaked_in", defArgs st_is_peaked_in, defBody st_is_peaked_in, defScope st_is_peaked_in, [], []⟩
def h_is_peaked : He.DefD := ⟨("is_peaked", none), "is_peaked", "is_peaked", defArgs st_is_peaked, defBody st_is_peaked, defScope st_is_peaked, [], []⟩
def h__law_draw : He.DefD := ⟨("_law_draw", none), "_law_draw", "_law_draw", defArgs st__law_draw, defBody st__law_draw, defScope st__law_draw, [], []⟩
def h__law_mixed : He.DefD := ⟨("_law_mixed", none), "_law_mixed", "_law_mixed", defArgs st__law_mixed, defBody st__law_mixed, defScope st__law_mixed, [], []⟩
def h__law_places : He.DefD := ⟨("_law_places", none), "_law_places", "_law_places", defArgs st__law_places, defBody st__law_places, defScope st__law_places, [], []⟩
def h__law_of_peak : He.DefD := ⟨("_law_of_peak", none), "_law_of_peak", "_law_of_peak", defArgs st__law_of_peak, defBody st__law_of_peak, defScope st__law_of_peak, [], []⟩
def h_turned : He.DefD := ⟨("turned", none), "turned", "turned", defArgs st_turned, defBody st_turned, defScope st_turned, [], []⟩
def h__law_right : He.DefD := ⟨("_law_right", none), "_law_right", "_law_right", defArgs st__law_right, defBody st__law_right, defScope st__law_right, [], []⟩
def h_law : He.DefD := ⟨("law", none), "law", "law", defArgs st_law, defBody st_law, defScope st_law, [], []⟩
def fn : List He.DefD := [h__law_bag, h_is_whole, h_is_within, h_require_size, h_is_option, h_is_row_of, h_require_axis, h_require_option, h_is_sure_in, h_sure_pairs, h_is_axis, h_require_on, h_places_in, h_is_peaked_in, h_is_peaked, h__law_draw, h__law_mixed, h__law_places, h__law_of_peak, h_turned, h__law_right, h_law]
def fa : List He.Fa := [.glo "_law_bag", .glo "is_whole", .glo "is_within", .glo "require_size", .glo "is_option", .glo "is_row_of", .glo "require_axis", .glo "require_option", .glo "is_sure_in", .glo "sure_pairs", .glo "is_axis", .glo "require_on", .glo "places_in", .glo "is_peaked_in", .glo "is_peaked", .glo "_law_draw", .glo "_law_mixed", .glo "_law_places", .glo "_law_of_peak", .glo "turned", .glo "_law_right", .glo "law", .free "abs", .free "all", .free "bool", .free "enumerate", .free "int", .free "isinstance", .free "len", .free "list", .free "max", .free "min", .free "range", .free "repr", .free "set", .free "tuple", .int "GREAT" 1000000000000000000000000000000000000000000000000000000000000, .int "MAX_OPTIONS" 9]
abbrev R : PySem.W.OpenRow := PySem.W.OpenLaw.row PySem.Challenge.rw_oneaxis_k10_whole_sure_pairs_of_peaks
abbrev hk : PySem.W.Hook := He.hookD 4 fa fn
def ob (s : PySem.W.SharedT) : He.AlD := He.obsDG 4 fa fn (HandSHeadRun.getT s)
theorem ob_eq (s : PySem.W.SharedT) : ob s = hk.obs s.abs := He.obsDG_eq (HandSHeadRun.getT_eq s)
abbrev loose : List Str := (["AxisError", "InvalidBallot", "InvalidAxis", "InvalidNumber", "MAX_OPTIONS", "GREAT", "is_whole", "is_within", "is_option", "is_row_of", "require_size", "require_option", "places_in", "is_peaked_in", "is_sure_in", "require_axis", "require_on", "is_axis", "is_peaked", "sure_pairs", "turned", "_law_bag", "_law_draw", "_law_one_of", "_law_mixed", "_law_places", "_law_is_peaked", "_law_axes", "_law_has_dent", "_law_peaked"] : List Str) ++ (["_law_ballots", "_law_rows", "_law_of_peak", "_law_right"] : List Str)
theorem run (w : World) : HandSHeadRun.RunEq R (PySem.W.view R.prog [39]) hk ob 12000 loose w := by
  intro os
  kernel_rfl
theorem facts {K : PySem.W.Frag} {h : Heap} {mg : Str → Option Value} (X : K.In h) (G : h.Ns mainGlobals mg) (c : He.SaysD fa fn K) : Nonempty (W K mg) := by
  obtain ⟨d0, e0⟩ := c.def_ 0 (d := h__law_bag) rfl
  obtain ⟨d1, e1⟩ := c.def_ 1 (d := h_is_whole) rfl
  obtain ⟨d2, e2⟩ := c.def_ 2 (d := h_is_within) rfl
  obtain ⟨d3, e3⟩ := c.def_ 3 (d := h_require_size) rfl
  obtain ⟨d4, e4⟩ := c.def_ 4 (d := h_is_option) rfl
  obtain ⟨d5, e5⟩ := c.def_ 5 (d := h_is_row_of) rfl
  obtain ⟨d6, e6⟩ := c.def_ 6 (d := h_require_axis) rfl
  obtain ⟨d7, e7⟩ := c.def_ 7 (d := h_require_option) rfl
  obtain ⟨d8, e8⟩ := c.def_ 8 (d := h_is_sure_in) rfl
  obtain ⟨d9, e9⟩ := c.def_ 9 (d := h_sure_pairs) rfl
  obtain ⟨d10, e10⟩ := c.def_ 10 (d := h_is_axis) rfl
  obtain ⟨d11, e11⟩ := c.def_ 11 (d := h_require_on) rfl
  obtain ⟨d12, e12⟩ := c.def_ 12 (d := h_places_in) rfl
  obtain ⟨d13, e13⟩ := c.def_ 13 (d := h_is_peaked_in) rfl
  obtain ⟨d14, e14⟩ := c.def_ 14 (d := h_is_peaked) rfl
  obtain ⟨d15, e15⟩ := c.def_ 15 (d := h__law_draw) rfl
  obtain ⟨d16, e16⟩ := c.def_ 16 (d := h__law_mixed) rfl
  obtain ⟨d17, e17⟩ := c.def_ 17 (d := h__law_places) rfl
  obtain ⟨d18, e18⟩ := c.def_ 18 (d := h__law_of_peak) rfl
  obtain ⟨d19, e19⟩ := c.def_ 19 (d := h_turned) rfl
  obtain ⟨d20, e20⟩ := c.def_ 20 (d := h__law_right) rfl
  obtain ⟨d21, e21⟩ := c.def_ 21 (d := h_law) rfl
  exact ⟨⟨_, d0, e0, He.glo_ok X G (c.fact 0 (f := .glo "_law_bag") rfl), _, d1, e1, He.glo_ok X G (c.fact 1 (f := .glo "is_whole") rfl), _, d2, e2, He.glo_ok X G (c.fact 2 (f := .glo "is_within") rfl), _, d3, e3, He.glo_ok X G (c.fact 3 (f := .glo "require_size") rfl), _, d4, e4, He.glo_ok X G (c.fact 4 (f := .glo "is_option") rfl), _, d5, e5, He.glo_ok X G (c.fact 5 (f := .glo "is_row_of") rfl), _, d6, e6, He.glo_ok X G (c.fact 6 (f := .glo "require_axis") rfl), _, d7, e7, He.glo_ok X G (c.fact 7 (f := .glo "require_option") rfl), _, d8, e8, He.glo_ok X G (c.fact 8 (f := .glo "is_sure_in") rfl), _, d9, e9, He.glo_ok X G (c.fact 9 (f := .glo "sure_pairs") rfl), _, d10, e10, He.glo_ok X G (c.fact 10 (f := .glo "is_axis") rfl), _, d11, e11, He.glo_ok X G (c.fact 11 (f := .glo "require_on") rfl), _, d12, e12, He.glo_ok X G (c.fact 12 (f := .glo "places_in") rfl), _, d13, e13, He.glo_ok X G (c.fact 13 (f := .glo "is_peaked_in") rfl), _, d14, e14, He.glo_ok X G (c.fact 14 (f := .glo "is_peaked") rfl), _, d15, e15, He.glo_ok X G (c.fact 15 (f := .glo "_law_draw") rfl), _, d16, e16, He.glo_ok X G (c.fact 16 (f := .glo "_law_mixed") rfl), _, d17, e17, He.glo_ok X G (c.fact 17 (f := .glo "_law_places") rfl), _, d18, e18, He.glo_ok X G (c.fact 18 (f := .glo "_law_of_peak") rfl), _, d19, e19, He.glo_ok X G (c.fact 19 (f := .glo "turned") rfl), _, d20, e20, He.glo_ok X G (c.fact 20 (f := .glo "_law_right") rfl), _, d21, e21, He.glo_ok X G (c.fact 21 (f := .glo "law") rfl), He.free_ok X G (c.fact 22 (f := .free "abs") rfl), He.free_ok X G (c.fact 23 (f := .free "all") rfl), He.free_ok X G (c.fact 24 (f := .free "bool") rfl), He.free_ok X G (c.fact 25 (f := .free "enumerate") rfl), He.free_ok X G (c.fact 26 (f := .free "int") rfl), He.free_ok X G (c.fact 27 (f := .free "isinstance") rfl), He.free_ok X G (c.fact 28 (f := .free "len") rfl), He.free_ok X G (c.fact 29 (f := .free "list") rfl), He.free_ok X G (c.fact 30 (f := .free "max") rfl), He.free_ok X G (c.fact 31 (f := .free "min") rfl), He.free_ok X G (c.fact 32 (f := .free "range") rfl), He.free_ok X G (c.fact 33 (f := .free "repr") rfl), He.free_ok X G (c.fact 34 (f := .free "set") rfl), He.free_ok X G (c.fact 35 (f := .free "tuple") rfl), He.int_ok X G (c.fact 36 (f := .int "GREAT" 1000000000000000000000000000000000000000000000000000000000000) rfl), He.int_ok X G (c.fact 37 (f := .int "MAX_OPTIONS" 9) rfl)⟩⟩
end K10
namespace Tv
open PySem PySem.Spec PyProof.Rows L2 Dv
mutual
def wf : D → Prop
  | .tup xs => xs.length ≤ 1000000 ∧ wfs xs
  | .lst xs => xs.length ≤ 1000000 ∧ wfs xs
  | _ => True
def wfs : List D → Prop
  | [] => True
  | x :: r => wf x ∧ wfs r
end
abbrev wl (xs : List D) : Prop := xs.length ≤ 1000000 ∧ wfs xs
theorem wfs_iff : ∀ {xs : List D}, wfs xs ↔ ∀ x ∈ xs, wf x
  | [] => by simp [wfs]
  | x :: r => by simp [wfs, wfs_iff (xs := r)]
theorem wf_tup {xs : List D} : wf (.tup xs) ↔ wl xs := by rw [wf]
theorem wf_lst {xs : List D} : wf (.lst xs) ↔ wl xs := by rw [wf]
theorem wfs_sub {xs ys : List D} (h : wfs xs) (s : ∀ y ∈ ys, y ∈ xs) : wfs ys := wfs_iff.mpr fun y hy => wfs_iff.mp h y (s y hy)
theorem wfs_app {xs ys : List D} (a : wfs xs) (b : wfs ys) : wfs (xs ++ ys) := wfs_iff.mpr fun y hy => (List.mem_append.mp hy).elim (wfs_iff.mp a y) (wfs_iff.mp b y)
theorem wfs_cons {x : D} {xs : List D} (a : wf x) (b : wfs xs) : wfs (x :: xs) := wfs_iff.mpr fun y hy => (List.mem_cons.mp hy).elim (fun h => h ▸ a) (wfs_iff.mp b y)
theorem wfs_nil : wfs [] := wfs_iff.mpr fun _ h => nomatch h
def nobo : Option SV → Prop
  | some (.bo _) => False
  | _ => True
def wfS : SV → Prop
  | .im d => wf d
  | .ow xs => wl xs
  | .bo xs => wl xs
def noow : Option SV → Prop
  | none => True
  | some (.im d) => wf d
  | _ => False
inductive Kn where
  | a
  | i
  | k (s : Option SV)
def KnOk : Kn → Option SV → Prop
  | .a, x => nobo x
  | .i, x => noow x
  | .k none, x => x = none
  | .k (some s), x => x = some s ∧ wfS s
abbrev Env := List Kn
abbrev im (d : D) : Kn := .k (some (.im d))
abbrev ow (d : List D) : Kn := .k (some (.ow d))
abbrev bo (d : List D) : Kn := .k (some (.bo d))
abbrev un : Kn := .k none
theorem noow_nobo {x : Option SV} (h : noow x) : nobo x := by
  cases x with
  | none => trivial
  | some s => cases s with
    | bo xs => exact h.elim
    | _ => trivial
inductive Ag : Env → Rho → Prop
  | nil : Ag [] []
  | cons {q : Kn} {x : Option SV} {e : Env} {r : Rho} : KnOk q x → Ag e r → Ag (q :: e) (x :: r)
theorem Ag.len {e : Env} {ρ : Rho} (h : Ag e ρ) : ρ.length = e.length := by
  induction h with
  | nil => rfl
  | cons _ _ ih => simp [ih]
theorem Ag.at {e : Env} {ρ : Rho} (h : Ag e ρ) : ∀ {i : Nat} {q : Kn}, e[i]? = some q → ∃ x, ρ[i]? = some x ∧ KnOk q x := by
  induction h with
  | nil => intro i q h; simp at h
  | cons a b ih =>
    intro i q h
    cases i with
    | zero => simp at h; subst h; exact ⟨_, rfl, a⟩
    | succ i => simpa using ih (i := i) (q := q) (by simpa using h)
theorem Ag.get {e : Env} {ρ : Rho} {i : Nat} {s : SV} (h : Ag e ρ) (q : e[i]? = some (.k (some s))) : ρ[i]? = some (some s) ∧ wfS s := by
  obtain ⟨x, h1, h2, h3⟩ := h.at q
  subst h2
  exact ⟨h1, h3⟩
theorem Ag.put {q : Kn} {x : Option SV} (k : KnOk q x) {e : Env} {ρ : Rho} (h : Ag e ρ) : ∀ {i : Nat}, Ag (e.set i q) (ρ.set i x) := by
  induction h with
  | nil => intro i; exact .nil
  | cons a b ih =>
    intro i
    cases i with
    | zero => exact .cons k b
    | succ i => exact .cons a ih
theorem Ag.set {s : SV} {e : Env} {ρ : Rho} {i : Nat} (h : Ag e ρ) (w : wfS s) : Ag (e.set i (.k (some s))) (ρ.set i (some s)) := h.put (q := .k (some s)) ⟨rfl, w⟩
theorem Ag.unset {e : Env} {ρ : Rho} {i : Nat} (h : Ag e ρ) : Ag (e.set i un) (ρ.set i none) := h.put (q := un) (by exact rfl)
inductive Wk : Env → Env → Prop
  | nil : Wk [] []
  | same {a b : Env} {s : Kn} : Wk a b → Wk (s :: a) (s :: b)
  | toA {a b : Env} {s : Kn} : (∀ x, KnOk s x → nobo x) → Wk a b → Wk (s :: a) (.a :: b)
  | toI {a b : Env} {s : Kn} : (∀ x, KnOk s x → noow x) → Wk a b → Wk (s :: a) (.i :: b)
theorem Ag.wk {a b : Env} (w : Wk a b) : ∀ {ρ : Rho}, Ag a ρ → Ag b ρ := by
  induction w with
  | nil => exact id
  | same w ih => intro ρ h; cases h with | cons k h => exact .cons k (ih h)
  | toA n w ih => intro ρ h; cases h with | cons k h => exact .cons (n _ k) (ih h)
  | toI n w ih => intro ρ h; cases h with | cons k h => exact .cons (n _ k) (ih h)
theorem Wk.refl : ∀ e : Env, Wk e e
  | [] => .nil
  | _ :: e => .same (Wk.refl e)
theorem wa_u {a b : Env} (w : Wk a b) : Wk (un :: a) (.a :: b) := .toA (fun x h => by rw [show x = none from h]; trivial) w
theorem wa_i {a b : Env} (w : Wk a b) : Wk (.i :: a) (.a :: b) := .toA (fun x h => noow_nobo h) w
theorem wa_m {a b : Env} {d : D} (w : Wk a b) : Wk (im d :: a) (.a :: b) := .toA (fun x h => by rw [h.1]; trivial) w
theorem wa_o {a b : Env} {d : List D} (w : Wk a b) : Wk (ow d :: a) (.a :: b) := .toA (fun x h => by rw [h.1]; trivial) w
theorem wi_u {a b : Env} (w : Wk a b) : Wk (un :: a) (.i :: b) := .toI (fun x h => by rw [show x = none from h]; trivial) w
theorem wi_m {a b : Env} {d : D} (w : Wk a b) : Wk (im d :: a) (.i :: b) := .toI (fun x h => by rw [h.1]; exact h.2) w
def bosE : Env → Outs
  | [] => []
  | .k (some (.bo xs)) :: r => some xs :: bosE r
  | _ :: r => match bosE r with
    | [] => []
    | t => none :: t
theorem bos_nb {x : Option SV} (h : nobo x) (r : Rho) : bos (x :: r) = match bos r with
    | [] => []
    | t => none :: t := by
  cases x with
  | none => rfl
  | some s => cases s with
    | bo xs => exact h.elim
    | _ => rfl
theorem Ag.bos {e : Env} {ρ : Rho} (h : Ag e ρ) : Dv.bos ρ = bosE e := by
  induction h with
  | nil => rfl
  | @cons q x e r k h ih =>
    cases q with
    | a => rw [bos_nb k, ih]; rfl
    | i => rw [bos_nb (noow_nobo k), ih]; rfl
    | k s => cases s with
      | none => rw [show x = none from k, bos_nb (x := none) trivial, ih]; rfl
      | some s =>
        rw [k.1]
        cases s with
        | bo xs => show some xs :: Dv.bos r = _; rw [ih]; rfl
        | im d => rw [bos_nb (x := some (.im d)) trivial, ih]; rfl
        | ow d => rw [bos_nb (x := some (.ow d)) trivial, ih]; rfl
def Oj {α : Type} (P : α → Prop) (t : Option α) : Prop := ∀ v, t = some v → P v
theorem oj_bind {α β : Type} {P : α → Prop} {Q : β → Prop} {t : Option α} {k : α → Option β} (h : Oj P t) (g : ∀ x, P x → Oj Q (k x)) : Oj Q (t.bind k) := fun v e => by
  cases t with
  | none => cases e
  | some x => exact g x (h x rfl) v e
theorem oj_some {α : Type} {P : α → Prop} {x : α} (h : P x) : Oj P (some x) := fun v e => by cases e; exact h
theorem oj_ite {α : Type} {P : α → Prop} {c : Bool} {a b : Option α} (h : c = true → Oj P a) (g : c = false → Oj P b) : Oj P (if c then a else b) := fun v e => by
  cases c with
  | true => exact h rfl v e
  | false => exact g rfl v e
theorem Oj.imp {α : Type} {P Q : α → Prop} {t : Option α} (h : Oj P t) (i : ∀ x, P x → Q x) : Oj Q t := fun v e => i v (h v e)
def Pv (env : Env) (f : ES) (d : D) : Prop := ∀ ρ, Ag env ρ → (∃ r, f ρ = .ok r ρ ∧ look ρ r = some d) ∧ wf d
def Pe (env : Env) (f : ES) (d : D) : Prop := ∀ ρ, Ag env ρ → f ρ = .ok (.im d) ρ ∧ wf d
def Pb (env : Env) (g : M Bool) (b : Bool) : Prop := ∀ ρ, Ag env ρ → g ρ = .ok b ρ
def Pn (env : Env) (f : M (List D)) (xs : List D) : Prop := ∀ ρ, Ag env ρ → f ρ = .ok xs ρ ∧ wl xs
def Pas (env : Env) (f : M (List RV)) (ds : List D) : Prop := ∀ ρ, Ag env ρ → (∃ rs, f ρ = .ok rs ρ ∧ looks ρ rs = some ds) ∧ wfs ds
def Pai (env : Env) (f : M (List RV)) (ds : List D) : Prop := ∀ ρ, Ag env ρ → f ρ = .ok (ds.map .im) ρ ∧ wfs ds
def wfI : IV → Prop
  | .im d => wf d
  | .tw ds => wfs ds
def Pi (env : Env) (f : M (List IV)) (xs : List IV) : Prop := ∀ ρ, Ag env ρ → f ρ = .ok xs ρ ∧ xs.length ≤ 1000000 ∧ ∀ x ∈ xs, wfI x
def Po (env : Env) (f : M (Option Int)) (o : Option Int) : Prop := ∀ ρ, Ag env ρ → f ρ = .ok o ρ
def Pr (env : Env) (f : M (Int × Int)) (o : Int × Int) : Prop := ∀ ρ, Ag env ρ → f ρ = .ok o ρ
section
variable {env : Env} {fa fb fc : ES} {ga gb gc : M Bool} {x y z d : D} {a b c : Bool} {fs : M (List RV)} {ds : List D}
theorem Pe.v (h : Pe env fa x) : Pv env fa x := fun ρ g => ⟨⟨.im x, (h ρ g).1, rfl⟩, (h ρ g).2⟩
theorem pe_var {i : Nat} (h : env[i]? = some (Tv.im d)) : Pe env (eVar i) d := fun ρ g => by
  obtain ⟨e, w⟩ := g.get h
  exact ⟨by unfold eVar; rw [e], w⟩
theorem pv_ow {i : Nat} (h : env[i]? = some (Tv.ow ds)) : Pv env (eVar i) (.lst ds) := fun ρ g => by
  obtain ⟨e, w⟩ := g.get h
  exact ⟨⟨.al i, by unfold eVar; rw [e], by simp only [look, e]⟩, wf_lst.mpr w⟩
theorem pv_bo {i : Nat} (h : env[i]? = some (Tv.bo ds)) : Pv env (eVar i) (.lst ds) := fun ρ g => by
  obtain ⟨e, w⟩ := g.get h
  exact ⟨⟨.al i, by unfold eVar; rw [e], by simp only [look, e]⟩, wf_lst.mpr w⟩
theorem pe_c (h : wf d) : Pe env (eC d) d := fun ρ g => ⟨rfl, h⟩
theorem pe_bin {g : D → D → Option D} (ha : Pv env fa x) (hb : Pv env fb y) (h : g x y = some d) (w : wf d) : Pe env (eBin g fa fb) d := fun ρ q => by
  obtain ⟨⟨r, e1, l1⟩, _⟩ := ha ρ q
  obtain ⟨⟨r2, e2, l2⟩, _⟩ := hb ρ q
  exact ⟨by simp only [eBin, M.bind, e1, e2, val, l1, l2, h, M.opt, M.ret], w⟩
theorem pe_binW {g : D → D → Option D} (ha : Pv env fa x) (hb : Pv env fb y) (h : wf x → wf y → g x y = some d ∧ wf d) : Pe env (eBin g fa fb) d := fun ρ q => by
  obtain ⟨h1, h2⟩ := h (ha ρ q).2 (hb ρ q).2
  exact pe_bin ha hb h1 h2 ρ q
theorem pe_un {g : D → Option D} (ha : Pv env fa x) (h : g x = some d) (w : wf d) : Pe env (eUn g fa) d := fun ρ q => by
  obtain ⟨⟨r, e1, l1⟩, _⟩ := ha ρ q
  exact ⟨by simp only [eUn, M.bind, e1, val, l1, h, M.opt, M.ret], w⟩
theorem pe_unW {g : D → Option D} (ha : Pv env fa x) (h : wf x → g x = some d ∧ wf d) : Pe env (eUn g fa) d := fun ρ q => by
  obtain ⟨h1, h2⟩ := h (ha ρ q).2
  exact pe_un ha h1 h2 ρ q
theorem pb_val (ha : Pv env fa x) (h : truth x = some b) : Pb env (bVal fa) b := fun ρ q => by
  obtain ⟨⟨r, e1, l1⟩, _⟩ := ha ρ q
  simp only [bVal, M.bind, e1, val, l1, h, M.opt]
theorem pb_cmp {g : D → D → Option D} (ha : Pv env fa x) (hb : Pv env fb y) (h : g x y = some (.bl b)) : Pb env (bCmp g fa fb) b := fun ρ q => by
  simp only [bCmp, M.bind, (pe_bin (d := .bl b) ha hb h trivial ρ q).1, val, look, isBl, M.opt]
theorem pb_bl (ha : Pe env fa (.bl b)) : Pb env (bBl fa) b := fun ρ q => by
  simp only [bBl, M.bind, (ha ρ q).1, val, look, isBl, M.opt]
theorem pb_and (h1 : Pb env ga a) (h2 : a = true → Pb env gb b) : Pb env (bAnd ga gb) (a && b) := fun ρ q => by
  simp only [bAnd, M.bind, h1 ρ q]
  cases a with
  | true => exact h2 rfl ρ q
  | false => rfl
theorem pb_or (h1 : Pb env ga a) (h2 : a = false → Pb env gb b) : Pb env (bOr ga gb) (a || b) := fun ρ q => by
  simp only [bOr, M.bind, h1 ρ q]
  cases a with
  | false => exact h2 rfl ρ q
  | true => rfl
theorem pb_not (h1 : Pb env ga a) : Pb env (bNot ga) (!a) := fun ρ q => by
  simp only [bNot, M.bind, h1 ρ q, M.ret]
theorem pb_yes : Pb env bYes true := fun _ _ => rfl
theorem oj_and {t : Option Bool} (h1 : Pb env ga a) (h2 : a = true → Oj (Pb env gb) t) : Oj (Pb env (bAnd ga gb)) (if a then t else some false) := fun v e => by
  cases a with
  | true => exact fun ρ q => by simp only [bAnd, M.bind, h1 ρ q]; exact h2 rfl v e ρ q
  | false => cases e; exact fun ρ q => by simp only [bAnd, M.bind, h1 ρ q]; rfl
theorem oj_or {t : Option Bool} (h1 : Pb env ga a) (h2 : a = false → Oj (Pb env gb) t) : Oj (Pb env (bOr ga gb)) (if a then some true else t) := fun v e => by
  cases a with
  | false => exact fun ρ q => by simp only [bOr, M.bind, h1 ρ q]; exact h2 rfl v e ρ q
  | true => cases e; exact fun ρ q => by simp only [bOr, M.bind, h1 ρ q]; rfl
theorem pe_not (ha : Pv env fa x) (h : truth x = some b) : Pe env (eNot fa) (.bl (!b)) := fun ρ q => by
  obtain ⟨⟨r, e1, l1⟩, _⟩ := ha ρ q
  exact ⟨by simp only [eNot, M.bind, e1, val, l1, h, M.opt, M.ret], trivial⟩
theorem pe_and (ha : Pe env fa x) (h : truth x = some b) (hb : b = true → Pe env fb y) : Pe env (eAnd fa fb) (if b then y else x) := fun ρ q => by
  obtain ⟨e1, w⟩ := ha ρ q
  unfold eAnd
  simp only [M.bind, e1, val, look, h, M.opt]
  cases b with
  | true => exact hb rfl ρ q
  | false => exact ⟨rfl, w⟩
theorem pe_or (ha : Pe env fa x) (h : truth x = some b) (hb : b = false → Pe env fb y) : Pe env (eOr fa fb) (if b then x else y) := fun ρ q => by
  obtain ⟨e1, w⟩ := ha ρ q
  unfold eOr
  simp only [M.bind, e1, val, look, h, M.opt]
  cases b with
  | false => exact hb rfl ρ q
  | true => exact ⟨rfl, w⟩
theorem pe_andB (ha : Pe env fa (.bl a)) (hb : a = true → Pe env fb (.bl b)) : Pe env (eAnd fa fb) (.bl (a && b)) := by
  have h := pe_and ha rfl hb
  cases a <;> exact h
theorem pe_orB (ha : Pe env fa (.bl a)) (hb : a = false → Pe env fb (.bl b)) : Pe env (eOr fa fb) (.bl (a || b)) := by
  have h := pe_or ha rfl hb
  cases a <;> exact h
theorem oj_andB {t : Option Bool} (ha : Pe env fa (.bl a)) (hb : a = true → Oj (fun b => Pe env fb (.bl b)) t) : Oj (fun b => Pe env (eAnd fa fb) (.bl b)) (if a then t else some false) := fun v e => by
  cases a with
  | true => exact pe_and (y := .bl v) ha rfl fun _ => hb rfl v e
  | false => cases e; exact pe_and (y := .bl true) ha rfl fun z => nomatch z
theorem oj_orB {t : Option Bool} (ha : Pe env fa (.bl a)) (hb : a = false → Oj (fun b => Pe env fb (.bl b)) t) : Oj (fun b => Pe env (eOr fa fb) (.bl b)) (if a then some true else t) := fun v e => by
  cases a with
  | false => exact pe_or (y := .bl v) ha rfl fun _ => hb rfl v e
  | true => cases e; exact pe_or (y := .bl true) ha rfl fun z => nomatch z
theorem pe_if {α : Type} {em : α → D} {u v : α} (h : Pb env ga a) (h1 : a = true → Pe env fa (em u)) (h2 : a = false → Pe env fb (em v)) : Pe env (eIf ga fa fb) (em (if a then u else v)) := fun ρ q => by
  simp only [eIf, M.bind, h ρ q]
  cases a with
  | true => exact h1 rfl ρ q
  | false => exact h2 rfl ρ q
theorem oj_if {α : Type} {em : α → D} {u v : Option α} (h : Pb env ga a) (h1 : a = true → Oj (fun r => Pe env fa (em r)) u) (h2 : a = false → Oj (fun r => Pe env fb (em r)) v) : Oj (fun r => Pe env (eIf ga fa fb) (em r)) (if a then u else v) := fun r e ρ q => by
  simp only [eIf, M.bind, h ρ q]
  cases a with
  | true => exact h1 rfl r e ρ q
  | false => exact h2 rfl r e ρ q
theorem pe_chain {g g' : D → D → Option D} (ha : Pv env fa x) (hb : Pv env fb y) (h : g x y = some (.bl a)) (hc : Pv env fc z) (h' : g' y z = some (.bl b)) : Pe env (eChain g g' fa fb fc) (.bl (a && b)) := fun ρ q => by
  obtain ⟨⟨r, e1, l1⟩, _⟩ := ha ρ q
  obtain ⟨⟨r2, e2, l2⟩, _⟩ := hb ρ q
  obtain ⟨⟨r3, e3, l3⟩, _⟩ := hc ρ q
  refine ⟨?_, trivial⟩
  cases a <;> simp [eChain, M.bind, e1, e2, e3, val, l1, l2, l3, h, h', M.opt, M.ret, isBl]
theorem pas_nil : Pas env aNil [] := fun ρ q => ⟨⟨[], rfl, rfl⟩, wfs_nil⟩
theorem pas_cons (ha : Pv env fa x) (h : Pas env fs ds) : Pas env (aCons fa fs) (x :: ds) := fun ρ q => by
  obtain ⟨⟨r, e1, l1⟩, w1⟩ := ha ρ q
  obtain ⟨⟨rs, e2, l2⟩, w2⟩ := h ρ q
  exact ⟨⟨r :: rs, by simp only [aCons, M.bind, e1, e2, M.ret], by simp only [looks, l1, l2]⟩, wfs_cons w1 w2⟩
theorem pai_nil : Pai env aNil [] := fun ρ q => ⟨rfl, wfs_nil⟩
theorem pai_cons (ha : Pe env fa x) (h : Pai env fs ds) : Pai env (aCons fa fs) (x :: ds) := fun ρ q => by
  obtain ⟨e1, w1⟩ := ha ρ q
  obtain ⟨e2, w2⟩ := h ρ q
  exact ⟨by simp only [aCons, M.bind, e1, e2, M.ret, List.map_cons], wfs_cons w1 w2⟩
theorem wf_items {xs : List D} (w : wf d) (h : items d = some xs) : wfs xs := by
  cases d with
  | lst l => cases h; exact (wf_lst.mp w).2
  | tup l => cases h; exact (wf_tup.mp w).2
  | _ => cases h
theorem pai_star {xs : List D} (ha : Pv env fa x) (hi : items x = some xs) (h : Pai env fs ds) : Pai env (aStar fa fs) (xs ++ ds) := fun ρ q => by
  obtain ⟨⟨r, e1, l1⟩, w1⟩ := ha ρ q
  obtain ⟨e2, w2⟩ := h ρ q
  exact ⟨by simp only [aStar, M.bind, e1, e2, val, l1, hi, M.opt, M.ret, List.map_append], wfs_app (wf_items w1 hi) w2⟩
theorem imms_im : ∀ ds : List D, imms (ds.map .im) = some ds
  | [] => rfl
  | d :: ds => by simp only [List.map_cons, imms, imms_im ds]
theorem looks_im (ρ : Rho) : ∀ ds : List D, looks ρ (ds.map .im) = some ds
  | [] => rfl
  | d :: ds => by simp only [List.map_cons, looks, look, looks_im ρ ds]
theorem pe_tup (h : Pai env fs ds) (hf : ds.length ≤ 1000000) : Pe env (eTup fs) (.tup ds) := fun ρ q => by
  obtain ⟨e, w⟩ := h ρ q
  exact ⟨by simp only [eTup, M.bind, e, imms_im, M.opt, few, if_pos hf, M.ret], wf_tup.mpr ⟨hf, w⟩⟩
theorem pn_lst (h : Pai env fs ds) (hf : ds.length ≤ 1000000) : Pn env (nLst fs) ds := fun ρ q => by
  obtain ⟨e, w⟩ := h ρ q
  exact ⟨by simp only [nLst, M.bind, e, imms_im, M.opt, few, if_pos hf], hf, w⟩
theorem pe_n {f : M (List D)} (h : Pn env f ds) : Pe env (eN f) (.lst ds) := fun ρ q => by
  obtain ⟨e, w⟩ := h ρ q
  exact ⟨by simp only [eN, M.bind, e, M.ret], wf_lst.mpr w⟩
theorem pe_call {g : List D → Option D} (h : Pas env fs ds) (hg : g ds = some d) (w : wf d) : Pe env (eCall g fs) d := fun ρ q => by
  obtain ⟨⟨rs, e, l⟩, _⟩ := h ρ q
  exact ⟨by simp only [eCall, M.bind, e, vals, l, hg, M.opt, M.ret], w⟩
theorem pe_callW {g : List D → Option D} (h : Pas env fs ds) (hg : wfs ds → g ds = some d ∧ wf d) : Pe env (eCall g fs) d := fun ρ q => by
  obtain ⟨h1, h2⟩ := hg (h ρ q).2
  exact pe_call h h1 h2 ρ q
theorem pn_call {g : List D → Option (List D)} {es : List D} (h : Pas env fs ds) (hg : wfs ds → g ds = some es ∧ wl es) : Pn env (nCall g fs) es := fun ρ q => by
  obtain ⟨⟨rs, e, l⟩, w⟩ := h ρ q
  obtain ⟨h1, h2⟩ := hg w
  exact ⟨by simp only [nCall, M.bind, e, vals, l, h1, M.opt], h2⟩
theorem pn_bin {g : D → D → Option (List D)} {es : List D} (ha : Pv env fa x) (hb : Pv env fb y) (h : wf x → wf y → g x y = some es ∧ wl es) : Pn env (nBin g fa fb) es := fun ρ q => by
  obtain ⟨⟨r, e1, l1⟩, w1⟩ := ha ρ q
  obtain ⟨⟨r2, e2, l2⟩, w2⟩ := hb ρ q
  obtain ⟨h1, h2⟩ := h w1 w2
  exact ⟨by simp only [nBin, M.bind, e1, e2, val, l1, l2, h1, M.opt], h2⟩
theorem po_none : Po env oNone none := fun _ _ => rfl
theorem po_some {i : Int} (ha : Pv env fa (.int i)) : Po env (oSome fa) (some i) := fun ρ q => by
  obtain ⟨⟨r, e1, l1⟩, _⟩ := ha ρ q
  simp only [oSome, M.bind, e1, val, l1, Dv.isInt, M.opt, M.ret]
theorem wfs_cut {xs : List D} {lo hi : Option Int} (h : wfs xs) : wfs (Dv.cutD xs lo hi) := wfs_sub h fun y hy => List.mem_of_mem_drop (List.mem_of_mem_take hy)
theorem len_cut {xs : List D} {lo hi : Option Int} : (Dv.cutD xs lo hi).length ≤ xs.length := by
  unfold Dv.cutD
  rw [List.length_take, List.length_drop]
  omega
theorem wl_cut {xs : List D} {lo hi : Option Int} (h : wl xs) : wl (Dv.cutD xs lo hi) := ⟨Nat.le_trans len_cut h.1, wfs_cut h.2⟩
theorem pe_slT {fl fh : M (Option Int)} {lo hi : Option Int} {xs : List D} (ha : Pv env fa (.tup xs)) (hl : Po env fl lo) (hh : Po env fh hi) : Pe env (eSl fa fl fh) (.tup (Dv.cutD xs lo hi)) := fun ρ q => by
  obtain ⟨⟨r, e1, l1⟩, w⟩ := ha ρ q
  exact ⟨by simp only [eSl, M.bind, e1, val, l1, hl ρ q, hh ρ q, gSl, M.opt, M.ret], wf_tup.mpr (wl_cut (wf_tup.mp w))⟩
theorem pe_slL {fl fh : M (Option Int)} {lo hi : Option Int} {xs : List D} (ha : Pv env fa (.lst xs)) (hl : Po env fl lo) (hh : Po env fh hi) : Pe env (eSl fa fl fh) (.lst (Dv.cutD xs lo hi)) := fun ρ q => by
  obtain ⟨⟨r, e1, l1⟩, w⟩ := ha ρ q
  exact ⟨by simp only [eSl, M.bind, e1, val, l1, hl ρ q, hh ρ q, gSl, M.opt, M.ret], wf_lst.mpr (wl_cut (wf_lst.mp w))⟩
theorem pn_sl {fl fh : M (Option Int)} {lo hi : Option Int} {xs : List D} (ha : Pv env fa (.lst xs)) (hl : Po env fl lo) (hh : Po env fh hi) : Pn env (nSl fa fl fh) (Dv.cutD xs lo hi) := fun ρ q => by
  obtain ⟨⟨r, e1, l1⟩, w⟩ := ha ρ q
  exact ⟨by simp only [nSl, M.bind, e1, val, l1, hl ρ q, hh ρ q, M.opt], wl_cut (wf_lst.mp w)⟩
theorem pi_lst {xs : List D} (ha : Pe env fa (.lst xs)) : Pi env (iSeq fa) (xs.map .im) := fun ρ q => by
  obtain ⟨e, w⟩ := ha ρ q
  obtain ⟨w1, w2⟩ := wf_lst.mp w
  refine ⟨by simp only [iSeq, M.bind, e, imm]; rfl, by rw [List.length_map]; exact w1, fun x hx => ?_⟩
  obtain ⟨y, hy, rfl⟩ := List.mem_map.mp hx
  exact wfs_iff.mp w2 y hy
theorem pi_tup {xs : List D} (ha : Pe env fa (.tup xs)) : Pi env (iSeq fa) (xs.map .im) := fun ρ q => by
  obtain ⟨e, w⟩ := ha ρ q
  obtain ⟨w1, w2⟩ := wf_tup.mp w
  refine ⟨by simp only [iSeq, M.bind, e, imm]; rfl, by rw [List.length_map]; exact w1, fun x hx => ?_⟩
  obtain ⟨y, hy, rfl⟩ := List.mem_map.mp hx
  exact wfs_iff.mp w2 y hy
theorem pi_call {g : List D → Option (List IV)} {xs : List IV} (h : Pas env fs ds) (hg : g ds = some xs) (hl : xs.length ≤ 1000000) (w : ∀ x ∈ xs, wfI x) : Pi env (iCall g fs) xs := fun ρ q => by
  obtain ⟨⟨rs, e, l⟩, _⟩ := h ρ q
  exact ⟨by simp only [iCall, M.bind, e, vals, l, hg, M.opt], hl, w⟩
theorem pi_callI {g : List D → Option (List IV)} {xs : List IV} (h : Pai env fs ds) (hg : wfs ds → g ds = some xs ∧ xs.length ≤ 1000000 ∧ ∀ x ∈ xs, wfI x) : Pi env (iCallI g fs) xs := fun ρ q => by
  obtain ⟨e, w⟩ := h ρ q
  obtain ⟨h1, h2, h3⟩ := hg w
  exact ⟨by simp only [iCallI, M.bind, e, imms_im, M.opt, h1], h2, h3⟩
end
end Tv
namespace Tv
open PySem PySem.Spec PyProof.Rows L2 Dv
def nbE (env : Env) (i : Nat) : Bool := match env[i]? with
  | some (.k (some (.bo _))) => false
  | some _ => true
  | none => false
theorem nb_of {env : Env} {ρ : Rho} {i : Nat} (h : Ag env ρ) (q : nbE env i = true) : ∃ x, ρ[i]? = some x ∧ nobo x := by
  unfold nbE at q
  cases e : env[i]? with
  | none => rw [e] at q; cases q
  | some k =>
    obtain ⟨x, h1, h2⟩ := h.at e
    refine ⟨x, h1, ?_⟩
    rw [e] at q
    cases k with
    | a => exact h2
    | i => exact noow_nobo h2
    | k s => cases s with
      | none => rw [show x = none from h2]; trivial
      | some s =>
        rw [h2.1]
        cases s with
        | bo xs => cases q
        | _ => trivial
theorem setIm_go {ρ : Rho} {i : Nat} {x : Option SV} {d : D} (h : ρ[i]? = some x) (n : nobo x) : setIm i d ρ = .ok () (ρ.set i (some (.im d))) := by
  unfold setIm
  rw [h]
  cases x with
  | none => rfl
  | some s => cases s with
    | bo xs => exact n.elim
    | _ => rfl
theorem setOw_go {ρ : Rho} {i : Nat} {x : Option SV} {d : List D} (h : ρ[i]? = some x) (n : nobo x) : setOw i d ρ = .ok () (ρ.set i (some (.ow d))) := by
  unfold setOw
  rw [h]
  cases x with
  | none => rfl
  | some s => cases s with
    | bo xs => exact n.elim
    | _ => rfl
def Tg (env : Env) (g : IV → M Unit) (sl : List Nat) (x : IV) (env' : Env) : Prop := ∀ ρ, Ag env ρ → wfI x → ∃ ρ', g x ρ = .ok () ρ' ∧ Ag env' ρ' ∧ ρ'.length = ρ.length ∧ ∀ j, j ∉ sl → ρ'[j]? = ρ[j]?
def Tgs (env : Env) (g : List D → M Unit) (sl : List Nat) (x : List D) (env' : Env) : Prop := ∀ ρ, Ag env ρ → wfs x → ∃ ρ', g x ρ = .ok () ρ' ∧ Ag env' ρ' ∧ ρ'.length = ρ.length ∧ ∀ j, j ∉ sl → ρ'[j]? = ρ[j]?
section
variable {env env' env1 : Env} {g : IV → M Unit} {gs : List D → M Unit} {sl sl' : List Nat} {ds : List D} {d : D}
theorem tg_set {i : Nat} (h : nbE env i = true) : Tg env (gSet i) [i] (.im d) (env.set i (im d)) := fun ρ q w => by
  obtain ⟨x, h1, h2⟩ := nb_of q h
  exact ⟨_, setIm_go h1 h2, q.set w, by simp, fun j hj => by rw [List.getElem?_set_ne]; intro z; exact hj (z ▸ List.mem_cons_self)⟩
theorem tgs_nil : Tgs env gsNil [] [] env := fun ρ q w => ⟨ρ, rfl, q, rfl, fun _ _ => rfl⟩
theorem tgs_cons (h : Tg env g sl (.im d) env1) (t : Tgs env1 gs sl' ds env') : Tgs env (gsCons g gs) (sl ++ sl') (d :: ds) env' := fun ρ q w => by
  rw [wfs] at w
  obtain ⟨ρ1, e1, a1, l1, o1⟩ := h ρ q w.1
  obtain ⟨ρ2, e2, a2, l2, o2⟩ := t ρ1 a1 w.2
  refine ⟨ρ2, ?_, a2, l2.trans l1, fun j hj => ?_⟩
  · show M.bind (g (.im d)) (fun _ => gs ds) ρ = _
    simp only [M.bind, e1, e2]
  · rw [o2 j fun z => hj (List.mem_append_right _ z), o1 j fun z => hj (List.mem_append_left _ z)]
theorem tg_tw {n : Nat} (hn : ds.length = n) (t : Tgs env gs sl ds env') : Tg env (gTupD n gs) sl (.tw ds) env' := fun ρ q w => by
  obtain ⟨ρ2, e2, a2⟩ := t ρ q w
  exact ⟨ρ2, by simp only [gTupD, if_pos hn]; exact e2, a2⟩
theorem tg_tup {n : Nat} (hn : ds.length = n) (t : Tgs env gs sl ds env') : Tg env (gTupD n gs) sl (.im (.tup ds)) env' := fun ρ q w => by
  obtain ⟨ρ2, e2, a2⟩ := t ρ q (wf_tup.mp w).2
  exact ⟨ρ2, by simp only [gTupD, if_pos hn]; exact e2, a2⟩
end
def okE (vs : List Nat) (env : Env) : Bool := vs.all fun i => match env[i]? with
  | some .i => true
  | some (.k none) => true
  | some (.k (some (.im _))) => true
  | _ => false
def wipeE (env : Env) : List Nat → Env
  | [] => env
  | v :: vs => (wipeE env vs).set v un
theorem okE_ok {vs : List Nat} {env : Env} {ρ : Rho} (h : Ag env ρ) (q : okE vs env = true) : okw vs ρ = true := by
  unfold okw
  unfold okE at q
  rw [List.all_eq_true] at q ⊢
  intro i hi
  have := q i hi
  cases e : env[i]? with
  | none => rw [e] at this; cases this
  | some k =>
    rw [e] at this
    obtain ⟨x, h1, h2⟩ := h.at e
    rw [h1]
    cases k with
    | a => cases this
    | i => cases x with
      | none => rfl
      | some s => cases s with
        | im d => rfl
        | _ => exact h2.elim
    | k s => cases s with
      | none => rw [show x = none from h2]
      | some s => cases s with
        | im d => rw [h2.1]
        | _ => cases this
theorem Ag.wipe {env : Env} {ρ : Rho} (h : Ag env ρ) : ∀ vs, Ag (wipeE env vs) (wipeR ρ vs)
  | [] => h
  | v :: vs => (Ag.wipe h vs).unset
theorem wipeR_in {ρ : Rho} {i : Nat} : ∀ {vs : List Nat}, i ∈ vs → i < ρ.length → (wipeR ρ vs)[i]? = some none
  | [], h, _ => nomatch h
  | v :: vs, h, l => by
    unfold wipeR
    by_cases z : v = i
    · subst z; rw [List.getElem?_set_self (by rw [wipeR_len]; exact l)]
    · rw [List.getElem?_set_ne z]
      exact wipeR_in ((List.mem_cons.mp h).resolve_left (Ne.symm z)) l
theorem wipe_same {ρ ρ1 : Rho} {vs : List Nat} (l : ρ1.length = ρ.length) (h : ∀ j, j ∉ vs → ρ1[j]? = ρ[j]?) : wipeR ρ1 vs = wipeR ρ vs := by
  apply List.ext_getElem?
  intro i
  by_cases z : i ∈ vs
  · by_cases y : i < ρ.length
    · rw [wipeR_in z y, wipeR_in z (l ▸ y)]
    · rw [List.getElem?_eq_none (by rw [wipeR_len]; omega), List.getElem?_eq_none (by rw [wipeR_len]; omega)]
  · rw [wipeR_out z, wipeR_out z, h i z]
theorem wipe_wipe {ρ : Rho} {vs : List Nat} : wipeR (wipeR ρ vs) vs = wipeR ρ vs := wipe_same (wipeR_len ρ vs) fun j hj => wipeR_out hj
def lcQ {α β : Type} (p : α → Option Bool) (h : α → Option β) : List α → Option (List β)
  | [] => some []
  | x :: xs => (p x).bind fun b => if b then (h x).bind fun y => (lcQ p h xs).map (y :: ·) else lcQ p h xs
section
variable {env env' env1 : Env} {g : IV → M Unit} {gs : List D → M Unit} {sl sl' : List Nat} {ds : List D} {d : D} {α β : Type} {iv : α → IV} {xs : List α} {em : β → D} {vs : List Nat} {E : α → Env} {fi : M (List IV)} {gt : M Bool} {fe : ES}
theorem lc_go {ρ : Rho} {p : α → Option Bool} {h : α → Option β} (hsl : ∀ j ∈ sl, j ∈ vs) (hg : ∀ x, Tg (wipeE env vs) g sl (iv x) (E x)) (hp : ∀ x, Oj (Pb (E x) gt) (p x)) (he : ∀ x, Oj (fun y => Pe (E x) fe (em y)) (h x)) (q : Ag env ρ) :
    ∀ (xs : List α) (acc : List D) (ys : List β), (∀ x ∈ xs, wfI (iv x)) → acc.length + xs.length ≤ 1000000 → lcQ p h xs = some ys → lcLoop vs g gt fe (xs.map iv) acc (wipeR ρ vs) = .ok (acc ++ ys.map em) (wipeR ρ vs) ∧ wfs (ys.map em) ∧ ys.length ≤ xs.length
  | [], acc, ys, _, _, e => by cases e; simp [lcLoop, M.ret, wfs_nil]
  | x :: xs, acc, ys, w, l, e => by
    unfold lcQ at e
    cases ep : p x with
    | none => rw [ep] at e; cases e
    | some b =>
      rw [ep] at e
      simp only [Option.bind_some] at e
      have ih := fun acc ys l e => lc_go hsl hg hp he q xs acc ys (fun y hy => w y (List.mem_cons_of_mem _ hy)) l e
      obtain ⟨ρ1, e1, a1, l1, o1⟩ := hg x (wipeR ρ vs) (q.wipe vs) (w x List.mem_cons_self)
      have e2 := hp x b ep ρ1 a1
      have ew : wipeR ρ1 vs = wipeR ρ vs := (wipe_same l1 fun j hj => o1 j fun z => hj (hsl j z)).trans wipe_wipe
      rw [List.length_cons] at l
      rw [List.map_cons]
      unfold lcLoop
      simp only [M.bind, e1, e2]
      cases b with
      | false =>
        simp only [M.bind, wipeM, ew]
        rw [if_neg (by simp)] at e
        obtain ⟨h1, h2, h3⟩ := ih acc ys (by omega) e
        exact ⟨h1, h2, by rw [List.length_cons]; omega⟩
      | true =>
        rw [if_pos rfl] at e
        cases eh : h x with
        | none => rw [eh] at e; cases e
        | some y =>
          rw [eh] at e
          simp only [Option.bind_some] at e
          cases er : lcQ p h xs with
          | none => rw [er] at e; cases e
          | some zs =>
            rw [er] at e
            cases e
            obtain ⟨e3, w3⟩ := he x y eh ρ1 a1
            have r : acc.length < 1000000 := by omega
            obtain ⟨h1, h2, h3⟩ := ih (acc ++ [em y]) zs (by simp; omega) er
            simp only [M.bind, e3, imm, M.opt, room, if_pos r, wipeM, ew]
            refine ⟨?_, ?_, by simp only [List.length_cons]; omega⟩
            · rw [h1]; simp
            · rw [List.map_cons]; exact wfs_cons w3 h2
theorem oj_lc {p : α → Option Bool} {h : α → Option β} (hi : Pi env fi (xs.map iv)) (hok : okE vs env = true) (hsl : ∀ j ∈ sl, j ∈ vs) (hg : ∀ x, Tg (wipeE env vs) g sl (iv x) (E x)) (hp : ∀ x, Oj (Pb (E x) gt) (p x))
    (he : ∀ x, Oj (fun y => Pe (E x) fe (em y)) (h x)) : Oj (fun ys => Pn env (nLc vs fi g gt fe) (ys.map em)) (lcQ p h xs) := fun ys e ρ q => by
  obtain ⟨e1, l1, w1⟩ := hi ρ q
  rw [List.length_map] at l1
  obtain ⟨h1, h2, h3⟩ := lc_go hsl hg hp he q xs [] ys (fun x hx => w1 _ (List.mem_map_of_mem hx)) (by simpa using l1) e
  refine ⟨?_, by rw [List.length_map]; omega, h2⟩
  unfold nLc
  simp only [M.bind, e1, okE_ok q hok, h1, List.nil_append, putB_wipe]
theorem lcQ_pure {p : α → Bool} {h : α → β} : ∀ xs : List α, lcQ (fun x => some (p x)) (fun x => some (h x)) xs = some ((xs.filter p).map h)
  | [] => rfl
  | x :: xs => by
    unfold lcQ
    simp only [Option.bind_some, lcQ_pure xs]
    cases e : p x <;> simp [e]
theorem lcQ_map {h : α → β} (xs : List α) : lcQ (fun _ => some true) (fun x => some (h x)) xs = some (xs.map h) := by
  have := lcQ_pure (p := fun _ => true) (h := h) xs
  rw [List.filter_eq_self.mpr fun _ _ => rfl] at this
  exact this
theorem pn_lc {p : α → Bool} {h : α → β} (hi : Pi env fi (xs.map iv)) (hok : okE vs env = true) (hsl : ∀ j ∈ sl, j ∈ vs) (hg : ∀ x, Tg (wipeE env vs) g sl (iv x) (E x)) (hp : ∀ x, Pb (E x) gt (p x))
    (he : ∀ x, Pe (E x) fe (em (h x))) : Pn env (nLc vs fi g gt fe) (((xs.filter p).map h).map em) := oj_lc hi hok hsl hg (fun x => oj_some (hp x)) (fun x => oj_some (he x)) _ (lcQ_pure xs)
theorem pn_lc0 {h : α → β} (hi : Pi env fi (xs.map iv)) (hok : okE vs env = true) (hsl : ∀ j ∈ sl, j ∈ vs) (hg : ∀ x, Tg (wipeE env vs) g sl (iv x) (E x))
    (he : ∀ x, Pe (E x) fe (em (h x))) : Pn env (nLc vs fi g bYes fe) ((xs.map h).map em) := oj_lc hi hok hsl hg (fun x => oj_some (pb_yes)) (fun x => oj_some (he x)) _ (lcQ_map xs)
def lc2Q {α γ β : Type} (p : α → Option Bool) (ys : α → Option (List γ)) (p1 : α → γ → Option Bool) (h : α → γ → Option β) : List α → Option (List β)
  | [] => some []
  | x :: xs => (p x).bind fun b => if b then (ys x).bind fun l => (lcQ (p1 x) (h x) l).bind fun r => (lc2Q p ys p1 h xs).map (r ++ ·) else lc2Q p ys p1 h xs
def fewQ (xs : List α) : Option (List α) := if xs.length ≤ 1000000 then some xs else none
theorem fewQ_some {xs ys : List α} (h : fewQ xs = some ys) : ys = xs ∧ xs.length ≤ 1000000 := by
  unfold fewQ at h
  split at h
  · cases h; exact ⟨rfl, by assumption⟩
  · cases h
end
theorem lc_in {α β : Type} {iv : α → IV} {em : β → D} {sl vs : List Nat} {g : IV → M Unit} {gt : M Bool} {fe : ES} {envw : Env} {E : α → Env} {ρ : Rho} {p : α → Option Bool} {h : α → Option β} (hsl : ∀ j ∈ sl, j ∈ vs) (hw : wipeR ρ vs = ρ) (hg : ∀ x, Tg envw g sl (iv x) (E x))
    (hp : ∀ x, Oj (Pb (E x) gt) (p x)) (he : ∀ x, Oj (fun y => Pe (E x) fe (em y)) (h x)) (q : Ag envw ρ) :
    ∀ (xs : List α) (acc : List D) (ys : List β), (∀ x ∈ xs, wfI (iv x)) → acc.length + ys.length ≤ 1000000 → lcQ p h xs = some ys → lcLoop vs g gt fe (xs.map iv) acc ρ = .ok (acc ++ ys.map em) ρ ∧ wfs (ys.map em)
  | [], acc, ys, _, _, e => by cases e; simp [lcLoop, M.ret, wfs_nil]
  | x :: xs, acc, ys, w, l, e => by
    unfold lcQ at e
    cases ep : p x with
    | none => rw [ep] at e; cases e
    | some b =>
      rw [ep] at e
      simp only [Option.bind_some] at e
      have ih := fun acc ys l e => lc_in (em := em) hsl hw hg hp he q xs acc ys (fun y hy => w y (List.mem_cons_of_mem _ hy)) l e
      obtain ⟨ρ1, e1, a1, l1, o1⟩ := hg x ρ q (w x List.mem_cons_self)
      have e2 := hp x b ep ρ1 a1
      have ew : wipeR ρ1 vs = ρ := (wipe_same l1 fun j hj => o1 j fun z => hj (hsl j z)).trans hw
      rw [List.map_cons]
      unfold lcLoop
      simp only [M.bind, e1, e2]
      cases b with
      | false =>
        simp only [M.bind, wipeM, ew]
        rw [if_neg (by simp)] at e
        exact ih acc ys (by omega) e
      | true =>
        rw [if_pos rfl] at e
        cases eh : h x with
        | none => rw [eh] at e; cases e
        | some y =>
          rw [eh] at e
          simp only [Option.bind_some] at e
          cases er : lcQ p h xs with
          | none => rw [er] at e; cases e
          | some zs =>
            rw [er] at e
            cases e
            obtain ⟨e3, w3⟩ := he x y eh ρ1 a1
            rw [List.length_cons] at l
            have r : acc.length < 1000000 := by omega
            obtain ⟨h1, h2⟩ := ih (acc ++ [em y]) zs (by simp; omega) er
            simp only [M.bind, e3, imm, M.opt, room, if_pos r, wipeM, ew]
            exact ⟨by rw [h1]; simp, by rw [List.map_cons]; exact wfs_cons w3 h2⟩
section
variable {env : Env} {α γ β : Type} {iv : α → IV} {jv : γ → IV} {xs : List α} {em : β → D} {vs vs1 sl sl1 : List Nat} {E : α → Env} {E1 : α → γ → Env} {fi fi1 : M (List IV)} {g g1 : IV → M Unit} {gt gt1 : M Bool} {fe : ES}
theorem wipe_sub {ρ ρ1 : Rho} (h : wipeR ρ1 vs = wipeR ρ vs) : ∀ j, j ∉ vs → ρ1[j]? = ρ[j]? := fun j hj => by
  have := congrArg (fun l => l[j]?) h
  simpa [wipeR_out hj] using this
theorem lc2_go {ρ : Rho} {p : α → Option Bool} {ys : α → Option (List γ)} {p1 : α → γ → Option Bool} {h : α → γ → Option β} (hv : ∀ j ∈ vs1, j ∈ vs) (hsl : ∀ j ∈ sl, j ∈ vs) (hsl1 : ∀ j ∈ sl1, j ∈ vs1) (hg : ∀ x, Tg (wipeE env vs) g sl (iv x) (E x)) (hp : ∀ x, Oj (Pb (E x) gt) (p x))
    (hy : ∀ x, Oj (fun l => Pi (E x) fi1 (l.map jv)) (ys x)) (hg1 : ∀ x y, Tg (wipeE (E x) vs1) g1 sl1 (jv y) (E1 x y)) (hp1 : ∀ x y, Oj (Pb (E1 x y) gt1) (p1 x y)) (he : ∀ x y, Oj (fun z => Pe (E1 x y) fe (em z)) (h x y)) (q : Ag env ρ) :
    ∀ (xs : List α) (acc : List D) (zs : List β), (∀ x ∈ xs, wfI (iv x)) → acc.length + zs.length ≤ 1000000 → lc2Q p ys p1 h xs = some zs → lc2Loop vs vs1 g gt fi1 g1 gt1 fe (xs.map iv) acc (wipeR ρ vs) = .ok (acc ++ zs.map em) (wipeR ρ vs) ∧ wfs (zs.map em)
  | [], acc, ys, _, _, e => by cases e; simp [lc2Loop, M.ret, wfs_nil]
  | x :: xs, acc, zs, w, l, e => by
    unfold lc2Q at e
    cases ep : p x with
    | none => rw [ep] at e; cases e
    | some b =>
      rw [ep] at e
      simp only [Option.bind_some] at e
      have ih := fun acc zs l e => lc2_go hv hsl hsl1 hg hp hy hg1 hp1 he q xs acc zs (fun y hy => w y (List.mem_cons_of_mem _ hy)) l e
      obtain ⟨ρ1, e1, a1, l1, o1⟩ := hg x (wipeR ρ vs) (q.wipe vs) (w x List.mem_cons_self)
      have e2 := hp x b ep ρ1 a1
      have ew : wipeR ρ1 vs = wipeR ρ vs := (wipe_same l1 fun j hj => o1 j fun z => hj (hsl j z)).trans wipe_wipe
      rw [List.map_cons]
      unfold lc2Loop
      simp only [M.bind, e1, e2]
      cases b with
      | false =>
        simp only [M.bind, wipeM, ew]
        rw [if_neg (by simp)] at e
        exact ih acc zs l e
      | true =>
        rw [if_pos rfl] at e
        cases ey : ys x with
        | none => rw [ey] at e; cases e
        | some ls =>
          rw [ey] at e
          simp only [Option.bind_some] at e
          cases er : lcQ (p1 x) (h x) ls with
          | none => rw [er] at e; cases e
          | some r =>
            rw [er] at e
            simp only [Option.bind_some] at e
            cases et : lc2Q p ys p1 h xs with
            | none => rw [et] at e; cases e
            | some t =>
              rw [et] at e
              cases e
              rw [List.length_append] at l
              obtain ⟨e3, l3, w3⟩ := hy x ls ey ρ1 a1
              obtain ⟨h1, h2⟩ := lc_in hsl1 (wipe_wipe (ρ := ρ1) (vs := vs1)) (hg1 x) (hp1 x) (he x) (a1.wipe vs1) ls acc r (fun y hy => w3 _ (List.mem_map_of_mem hy)) (by omega) er
              have ew1 : wipeR (wipeR ρ1 vs1) vs = wipeR ρ vs := by
                rw [← ew]
                exact wipe_same (wipeR_len ρ1 vs1) fun j hj => wipeR_out fun z => hj (hv j z)
              obtain ⟨h3, h4⟩ := ih (acc ++ r.map em) t (by simp; omega) et
              simp only [M.bind, e3, wipeM, h1, ew1]
              exact ⟨by rw [h3]; simp, by rw [List.map_append]; exact wfs_app h2 h4⟩
theorem oj_lc2 {p : α → Option Bool} {ys : α → Option (List γ)} {p1 : α → γ → Option Bool} {h : α → γ → Option β} (hi : Pi env fi (xs.map iv)) (hok : okE vs env = true) (hv : ∀ j ∈ vs1, j ∈ vs) (hsl : ∀ j ∈ sl, j ∈ vs) (hsl1 : ∀ j ∈ sl1, j ∈ vs1) (hg : ∀ x, Tg (wipeE env vs) g sl (iv x) (E x)) (hp : ∀ x, Oj (Pb (E x) gt) (p x))
    (hy : ∀ x, Oj (fun l => Pi (E x) fi1 (l.map jv)) (ys x)) (hg1 : ∀ x y, Tg (wipeE (E x) vs1) g1 sl1 (jv y) (E1 x y)) (hp1 : ∀ x y, Oj (Pb (E1 x y) gt1) (p1 x y)) (he : ∀ x y, Oj (fun z => Pe (E1 x y) fe (em z)) (h x y)) :
    Oj (fun zs => Pn env (nLc2 vs vs1 fi g gt fi1 g1 gt1 fe) (zs.map em)) ((lc2Q p ys p1 h xs).bind fewQ) := fun zs e ρ q => by
  cases e0 : lc2Q p ys p1 h xs with
  | none => rw [e0] at e; cases e
  | some zs' =>
    rw [e0] at e
    obtain ⟨rfl, hl⟩ := fewQ_some e
    obtain ⟨e1, l1, w1⟩ := hi ρ q
    obtain ⟨h1, h2⟩ := lc2_go hv hsl hsl1 hg hp hy hg1 hp1 he q xs [] _ (fun x hx => w1 _ (List.mem_map_of_mem hx)) (by simpa using hl) e0
    refine ⟨?_, by rw [List.length_map]; exact hl, h2⟩
    unfold nLc2
    simp only [M.bind, e1, okE_ok q hok, h1, List.nil_append, putB_wipe]
end
section
variable {env : Env} {fa : ES} {fs : M (List RV)} {ds xs : List D} {d : D} {F : FD}
def wfSVs (l : List SV) : Prop := ∀ s ∈ l, wfS s
theorem toSVs_im (ρ : Rho) : ∀ ds : List D, toSVs ρ (ds.map .im) = some (ds.map .im)
  | [] => rfl
  | d :: ds => by simp only [List.map_cons, toSVs, toSV, toSVs_im ρ ds]
theorem apart_im : ∀ ds : List D, apart (ds.map .im) = true
  | [] => rfl
  | d :: ds => by simp only [List.map_cons, apart, apart_im ds]
theorem allIm_im : ∀ ds : List D, allIm (ds.map .im) = true
  | [] => rfl
  | d :: ds => by simp only [List.map_cons, allIm, allIm_im ds]
theorem uCall_im {ρ : Rho} {fr : FR} (h : F (ds.map .im) = some (fr, [])) : uCall F (ds.map .im) ρ = .ok fr ρ := by
  unfold uCall
  simp only [apart_im, toSVs_im, h, putBack_im (allIm_im ds)]
theorem pe_user (h : Pai env fs ds) (hf : wfs ds → F (ds.map .im) = some (.im d, []) ∧ wf d) : Pe env (eUser F fs) d := fun ρ q => by
  obtain ⟨e, w⟩ := h ρ q
  obtain ⟨h1, h2⟩ := hf w
  exact ⟨by simp only [eUser, M.bind, e, uCall_im h1, M.ret], h2⟩
theorem pe_userN (h : Pai env fs ds) (hf : wfs ds → F (ds.map .im) = some (.nw xs, []) ∧ wl xs) : Pe env (eUser F fs) (.lst xs) := fun ρ q => by
  obtain ⟨e, w⟩ := h ρ q
  obtain ⟨h1, h2⟩ := hf w
  exact ⟨by simp only [eUser, M.bind, e, uCall_im h1, M.ret], wf_lst.mpr h2⟩
theorem pn_user (h : Pai env fs ds) (hf : wfs ds → F (ds.map .im) = some (.nw xs, []) ∧ wl xs) : Pn env (nUser F fs) xs := fun ρ q => by
  obtain ⟨e, w⟩ := h ρ q
  obtain ⟨h1, h2⟩ := hf w
  exact ⟨by simp only [nUser, M.bind, e, allIm_im, uCall_im h1, M.ret], h2⟩
variable {α : Type} {em : α → D} {el : α → List D} {t : Option α}
theorem oj_user (h : Pai env fs ds) (hf : wfs ds → Oj (fun r => F (ds.map .im) = some (.im (em r), []) ∧ wf (em r)) t) : Oj (fun r => Pe env (eUser F fs) (em r)) t := fun r e ρ q => pe_user h (fun w => hf w r e) ρ q
theorem oj_userN (h : Pai env fs ds) (hf : wfs ds → Oj (fun r => F (ds.map .im) = some (.nw (el r), []) ∧ wl (el r)) t) : Oj (fun r => Pe env (eUser F fs) (.lst (el r))) t := fun r e ρ q => pe_userN h (fun w => hf w r e) ρ q
theorem on_user (h : Pai env fs ds) (hf : wfs ds → Oj (fun r => F (ds.map .im) = some (.nw (el r), []) ∧ wl (el r)) t) : Oj (fun r => Pn env (nUser F fs) (el r)) t := fun r e ρ q => pn_user h (fun w => hf w r e) ρ q
end
def wfF : Fl → Prop
  | .rt d => wf d
  | .rn xs => wl xs
  | _ => True
def Gs (env : Env) (s : SS) (P : Fl → Prop) (env' : Env) : Prop := ∀ ρ, Ag env ρ → ∃ fl ρ', s ρ = .ok fl ρ' ∧ P fl ∧ wfF fl ∧ Ag env' ρ'
def Go {R : Type} (env : Env) (s : SS) (T : Option R) (P : R → Fl → Prop) (E : R → Env) : Prop := Oj (fun r => Gs env s (P r) (E r)) T
section
variable {R : Type} {env env' : Env} {fa : ES} {rest A B s s1 s2 : SS} {T T1 T2 : Option R} {P : R → Fl → Prop} {E : R → Env} {d : D} {xs : List D} {f : M (List D)} {i : Nat} {gb : M Bool} {b : Bool} {r : R}
theorem go_bind {α : Type} {Q : α → Prop} {t : Option α} {k : α → Option R} (h : Oj Q t) (g : ∀ x, Q x → Go env s (k x) P E) : Go env s (t.bind k) P E := oj_bind h g
theorem seq_nx {ρ ρ1 : Rho} (h : s1 ρ = .ok .nx ρ1) : sSeq s1 s2 ρ = s2 ρ1 := by
  unfold sSeq
  simp only [M.bind, h]
theorem gs_seq {s' : SS} {P : Fl → Prop} {E : Env} (h : ∀ ρ, Ag env ρ → ∃ ρ1, s1 ρ = .ok .nx ρ1 ∧ Ag env' ρ1) (g : Gs env' s2 P E) : Gs env (sSeq s1 s2) P E := fun ρ q => by
  obtain ⟨ρ1, e1, a1⟩ := h ρ q
  rw [seq_nx e1]
  exact g ρ1 a1
theorem go_seq (h : ∀ ρ, Ag env ρ → ∃ ρ1, s1 ρ = .ok .nx ρ1 ∧ Ag env' ρ1) (g : Go env' s2 T P E) : Go env (sSeq s1 s2) T P E := fun r e => gs_seq (s' := s2) h (g r e)
theorem seq_nil {ρ : Rho} : sSeq s sNil ρ = s ρ := by
  unfold sSeq
  simp only [M.bind]
  cases s ρ with
  | ok fl ρ' => cases fl <;> rfl
  | _ => rfl
theorem go_last (g : Go env (sSeq s sNil) T P E) : Go env s T P E := fun r e ρ q => by
  have := g r e ρ q
  rw [seq_nil] at this
  exact this
theorem go_nil (h : P r .nx) (w : Wk env (E r)) : Go env sNil (some r) P E := oj_some fun ρ q => ⟨.nx, ρ, rfl, h, trivial, q.wk w⟩
theorem go_sn (g : Go env rest T P E) : Go env (sSeq sNil rest) T P E := go_seq (fun ρ q => ⟨ρ, rfl, q⟩) g
theorem go_pass (g : Go env rest T P E) : Go env (sSeq sPass rest) T P E := go_seq (fun ρ q => ⟨ρ, rfl, q⟩) g
theorem seq_assoc {ρ : Rho} : sSeq (sSeq s1 s2) s ρ = sSeq s1 (sSeq s2 s) ρ := by
  simp only [sSeq, M.bind]
  cases s1 ρ with
  | ok fl ρ' => cases fl <;> rfl
  | _ => rfl
theorem go_assoc (g : Go env (sSeq s1 (sSeq s2 rest)) T P E) : Go env (sSeq (sSeq s1 s2) rest) T P E := fun r e ρ q => by
  have := g r e ρ q
  rw [← seq_assoc] at this
  exact this
theorem go_wk (w : Wk env env') (g : Go env' s T P E) : Go env s T P E := fun r e ρ q => g r e ρ (q.wk w)
theorem go_set (h : Pe env fa d) (n : nbE env i = true) (g : Go (env.set i (im d)) rest T P E) : Go env (sSeq (sSet i fa) rest) T P E := go_seq (fun ρ q => by
  obtain ⟨e, w⟩ := h ρ q
  obtain ⟨x, h1, h2⟩ := nb_of q n
  exact ⟨_, by simp only [sSet, M.bind, e, imm, setIm_go h1 h2, M.ret], q.set w⟩) g
theorem go_setL (h : Pn env f xs) (n : nbE env i = true) (g : Go (env.set i (im (.lst xs))) rest T P E) : Go env (sSeq (sSetL i f) rest) T P E := go_seq (fun ρ q => by
  obtain ⟨e, w⟩ := h ρ q
  obtain ⟨x, h1, h2⟩ := nb_of q n
  exact ⟨_, by simp only [sSetL, M.bind, e, setIm_go h1 h2, M.ret], q.set (wf_lst.mpr w)⟩) g
theorem go_own (h : Pn env f xs) (n : nbE env i = true) (g : Go (env.set i (ow xs)) rest T P E) : Go env (sSeq (sOwn i f) rest) T P E := go_seq (fun ρ q => by
  obtain ⟨e, w⟩ := h ρ q
  obtain ⟨x, h1, h2⟩ := nb_of q n
  exact ⟨_, by simp only [sOwn, M.bind, e, setOw_go h1 h2, M.ret], q.set w⟩) g
theorem go_expr (h : Pe env fa d) (g : Go env rest T P E) : Go env (sSeq (sExpr fa) rest) T P E := go_seq (fun ρ q => ⟨ρ, by simp only [sExpr, M.bind, (h ρ q).1, M.ret], q⟩) g
theorem seq_out {fl : Fl} {ρ ρ1 : Rho} (h : s1 ρ = .ok fl ρ1) (n : fl ≠ .nx) : sSeq s1 s2 ρ = .ok fl ρ1 := by
  unfold sSeq
  simp only [M.bind, h]
  cases fl with
  | nx => exact absurd rfl n
  | _ => rfl
theorem go_out {fl : Fl} (h : ∀ ρ, Ag env ρ → s1 ρ = .ok fl ρ ∧ wfF fl) (n : fl ≠ .nx) (p : P r fl) (w : Wk env (E r)) : Go env (sSeq s1 rest) (some r) P E := oj_some fun ρ q => by
  obtain ⟨h1, h2⟩ := h ρ q
  exact ⟨fl, ρ, seq_out h1 n, p, h2, q.wk w⟩
theorem go_ret (h : Pe env fa d) (p : P r (.rt d)) (w : Wk env (E r)) : Go env (sSeq (sRet fa) rest) (some r) P E := go_out (fl := .rt d) (fun ρ q => by
  obtain ⟨e, w⟩ := h ρ q
  exact ⟨by simp only [sRet, M.bind, e], w⟩) (fun z => nomatch z) p w
theorem go_retO (h : env[i]? = some (ow xs)) (p : P r (.rn xs)) (w : Wk env (E r)) : Go env (sSeq (sRet (eVar i)) rest) (some r) P E := go_out (fl := .rn xs) (fun ρ q => by
  obtain ⟨e, w⟩ := q.get h
  exact ⟨by simp only [sRet, M.bind, eVar, e], w⟩) (fun z => nomatch z) p w
theorem go_retL (h : Pn env f xs) (p : P r (.rn xs)) (w : Wk env (E r)) : Go env (sSeq (sRetL f) rest) (some r) P E := go_out (fl := .rn xs) (fun ρ q => by
  obtain ⟨e, w⟩ := h ρ q
  exact ⟨by simp only [sRetL, M.bind, e, M.ret], w⟩) (fun z => nomatch z) p w
theorem go_retN (p : P r (.rt .non)) (w : Wk env (E r)) : Go env (sSeq sRetN rest) (some r) P E := go_out (fl := .rt .non) (fun ρ q => ⟨rfl, trivial⟩) (fun z => nomatch z) p w
theorem go_cont (p : P r .ct) (w : Wk env (E r)) : Go env (sSeq sCont rest) (some r) P E := go_out (fl := .ct) (fun ρ q => ⟨rfl, trivial⟩) (fun z => nomatch z) p w
theorem go_brk (p : P r .bk) (w : Wk env (E r)) : Go env (sSeq sBreak rest) (some r) P E := go_out (fl := .bk) (fun ρ q => ⟨rfl, trivial⟩) (fun z => nomatch z) p w
theorem go_never : Go env s none P E := fun r e => nomatch e
theorem go_if (h : Pb env gb b) (h1 : b = true → Go env (sSeq A rest) T1 P E) (h2 : b = false → Go env (sSeq B rest) T2 P E) : Go env (sSeq (sIf gb A B) rest) (if b then T1 else T2) P E := oj_ite (fun z r e ρ q => by
    subst z
    obtain ⟨fl, ρ', e1, r1⟩ := h1 rfl r e ρ q
    refine ⟨fl, ρ', ?_, r1⟩
    rw [← e1]
    simp only [sSeq, sIf, M.bind, h ρ q]) (fun z r e ρ q => by
    subst z
    obtain ⟨fl, ρ', e1, r1⟩ := h2 rfl r e ρ q
    refine ⟨fl, ρ', ?_, r1⟩
    rw [← e1]
    simp only [sSeq, sIf, M.bind, h ρ q])
theorem go_ifJ {α : Type} {t1 t2 : Option α} {EJ : α → Env} {k : α → Option R} (h : Pb env gb b) (h1 : b = true → Go env A t1 (fun _ fl => fl = .nx) EJ) (h2 : b = false → Go env B t2 (fun _ fl => fl = .nx) EJ) (g : ∀ x, Go (EJ x) rest (k x) P E) :
    Go env (sSeq (sIf gb A B) rest) ((if b then t1 else t2).bind k) P E := oj_bind (P := fun x => ∀ ρ, Ag env ρ → ∃ ρ1, sIf gb A B ρ = .ok .nx ρ1 ∧ Ag (EJ x) ρ1) (oj_ite (fun z x e ρ q => by
    subst z
    obtain ⟨fl, ρ', e1, rfl, _, a⟩ := h1 rfl x e ρ q
    exact ⟨ρ', by simp only [sIf, M.bind, h ρ q, e1], a⟩) (fun z x e ρ q => by
    subst z
    obtain ⟨fl, ρ', e1, rfl, _, a⟩ := h2 rfl x e ρ q
    exact ⟨ρ', by simp only [sIf, M.bind, h ρ q, e1], a⟩)) fun x hx => go_seq hx (g x)
theorem go_free {l : List Nat} (h : env[i]? = some (ow xs)) (g : Go (env.set i (im (.lst xs))) (sSeq (sFree l s) rest) T P E) : Go env (sSeq (sFree (i :: l) s) rest) T P E := fun r e ρ q => by
  obtain ⟨e1, w⟩ := q.get h
  obtain ⟨fl, ρ', e2, r2⟩ := g r e (ρ.set i (some (.im (.lst xs)))) (q.set (s := .im (.lst xs)) (wf_lst.mpr w))
  refine ⟨fl, ρ', ?_, r2⟩
  rw [← e2]
  simp only [sSeq, M.bind, sFree, freeR, e1]
theorem go_free0 {l : List Nat} (h : okE [i] env = true) (g : Go env (sSeq (sFree l s) rest) T P E) : Go env (sSeq (sFree (i :: l) s) rest) T P E := fun r e ρ q => by
  obtain ⟨fl, ρ', e2, r2⟩ := g r e ρ q
  refine ⟨fl, ρ', ?_, r2⟩
  rw [← e2]
  have ok := okE_ok q h
  have : freeR i ρ = ρ := by
    unfold freeR
    unfold okw at ok
    simp only [List.all_cons, List.all_nil, Bool.and_true] at ok
    split
    · rename_i hx; rw [hx] at ok; cases ok
    · rfl
  simp only [sSeq, M.bind, sFree, this]
theorem go_freeN (g : Go env (sSeq s rest) T P E) : Go env (sSeq (sFree [] s) rest) T P E := g
def foldQ {σ α : Type} (f : σ → α → Option σ) : List α → σ → Option σ
  | [], s => some s
  | x :: xs, s => (f s x).bind (foldQ f xs)
theorem for_go {σ α : Type} {iv : α → IV} {E : σ → Env} {E1 : σ → α → Env} {tb : σ → α → Option σ} {g : IV → M Unit} {sl : List Nat} {body : SS} (hg : ∀ s x, Tg (E s) g sl (iv x) (E1 s x))
    (hb : ∀ s x, Go (E1 s x) body (tb s x) (fun _ fl => fl = .nx ∨ fl = .ct) E) : ∀ (xs : List α) (s s' : σ) (ρ : Rho), (∀ x ∈ xs, wfI (iv x)) → foldQ tb xs s = some s' → Ag (E s) ρ → ∃ ρ', forL g body (xs.map iv) ρ = .ok .nx ρ' ∧ Ag (E s') ρ'
  | [], s, s', ρ, _, e, q => by cases e; exact ⟨ρ, rfl, q⟩
  | x :: xs, s, s', ρ, w, e, q => by
    unfold foldQ at e
    cases e1 : tb s x with
    | none => rw [e1] at e; cases e
    | some s1 =>
      rw [e1] at e
      obtain ⟨ρ1, h1, a1, _⟩ := hg s x ρ q (w x List.mem_cons_self)
      obtain ⟨fl, ρ2, h2, hf, _, a2⟩ := hb s x s1 e1 ρ1 a1
      obtain ⟨ρ3, h3, a3⟩ := for_go hg hb xs s1 s' ρ2 (fun y hy => w y (List.mem_cons_of_mem _ hy)) e a2
      refine ⟨ρ3, ?_, a3⟩
      rw [List.map_cons]
      unfold forL
      simp only [M.bind, h1, h2]
      rcases hf with rfl | rfl <;> exact h3
theorem go_for {σ α : Type} {iv : α → IV} {E' : σ → Env} {E1 : σ → α → Env} {tb : σ → α → Option σ} {k : σ → Option R} {g : IV → M Unit} {sl : List Nat} {body : SS} {fi : M (List IV)} {xs : List α} {s0 : σ} (hi : Pi env fi (xs.map iv)) (w0 : Wk env (E' s0)) (hg : ∀ s x, Tg (E' s) g sl (iv x) (E1 s x))
    (hb : ∀ s x, Go (E1 s x) body (tb s x) (fun _ fl => fl = .nx ∨ fl = .ct) E') (hr : ∀ s, Go (E' s) rest (k s) P E) : Go env (sSeq (sFor fi g body) rest) ((foldQ tb xs s0).bind k) P E := oj_bind (P := fun s => ∀ ρ, Ag env ρ → ∃ ρ1, sFor fi g body ρ = .ok .nx ρ1 ∧ Ag (E' s) ρ1) (fun s e ρ q => by
    obtain ⟨e1, _, w1⟩ := hi ρ q
    obtain ⟨ρ', h1, h2⟩ := for_go hg hb xs s0 s ρ (fun x hx => w1 _ (List.mem_map_of_mem hx)) e (q.wk w0)
    exact ⟨ρ', by simp only [sFor, M.bind, e1, h1], h2⟩) fun s hs => go_seq hs (hr s)
theorem foldQ_pure {σ α : Type} (f : σ → α → σ) : ∀ (xs : List α) (s : σ), foldQ (fun s x => some (f s x)) xs s = some (xs.foldl f s)
  | [], s => rfl
  | x :: xs, s => by
    unfold foldQ
    exact foldQ_pure f xs (f s x)
inductive Step (σ R : Type) where
  | go (s : σ)
  | brk (s : σ)
  | out (r : R)
def foldR {σ α R : Type} (f : σ → α → Option (Step σ R)) : List α → σ → Option (Step σ R)
  | [], s => some (.go s)
  | x :: xs, s => (f s x).bind fun t => match t with
    | .go s => foldR f xs s
    | t => some t
def stepP {σ R : Type} (P : R → Fl → Prop) : Step σ R → Fl → Prop
  | .go _, fl => fl = .nx ∨ fl = .ct
  | .brk _, fl => fl = .bk
  | .out r, fl => P r fl ∧ ((∃ d, fl = .rt d) ∨ ∃ xs, fl = .rn xs)
def stepE {σ R : Type} (E' : σ → Env) (E : R → Env) : Step σ R → Env
  | .go s => E' s
  | .brk s => E' s
  | .out r => E r
def stepK {σ R : Type} (k : σ → Option R) : Step σ R → Option R
  | .go s => k s
  | .brk s => k s
  | .out r => some r
theorem forR_go {σ α : Type} {iv : α → IV} {E' : σ → Env} {E1 : σ → α → Env} {tb : σ → α → Option (Step σ R)} {g : IV → M Unit} {sl : List Nat} {body : SS} (hg : ∀ s x, Tg (E' s) g sl (iv x) (E1 s x))
    (hb : ∀ s x, Go (E1 s x) body (tb s x) (stepP P) (stepE E' E)) : ∀ (xs : List α) (s : σ) (t : Step σ R) (ρ : Rho), (∀ x ∈ xs, wfI (iv x)) → foldR tb xs s = some t → Ag (E' s) ρ → ∃ fl ρ', forL g body (xs.map iv) ρ = .ok fl ρ' ∧ Ag (stepE E' E t) ρ' ∧ wfF fl ∧ (match t with
      | .out r => P r fl ∧ fl ≠ .nx
      | _ => fl = .nx)
  | [], s, s', ρ, _, e, q => by cases e; exact ⟨_, ρ, rfl, q, trivial, rfl⟩
  | x :: xs, s, t, ρ, w, e, q => by
    unfold foldR at e
    cases e1 : tb s x with
    | none => rw [e1] at e; cases e
    | some u =>
      rw [e1] at e
      simp only [Option.bind_some] at e
      obtain ⟨ρ1, h1, a1, _⟩ := hg s x ρ q (w x List.mem_cons_self)
      obtain ⟨fl, ρ2, h2, hf, wfl, a2⟩ := hb s x u e1 ρ1 a1
      rw [List.map_cons]
      unfold forL
      simp only [M.bind, h1, h2]
      cases u with
      | go s1 =>
        obtain ⟨fl3, ρ3, h3, a3⟩ := forR_go hg hb xs s1 t ρ2 (fun y hy => w y (List.mem_cons_of_mem _ hy)) e a2
        refine ⟨fl3, ρ3, ?_, a3⟩
        rcases hf with rfl | rfl <;> exact h3
      | brk s1 =>
        cases e
        rw [show fl = .bk from hf]
        exact ⟨.nx, ρ2, rfl, a2, trivial, rfl⟩
      | out r =>
        cases e
        obtain ⟨p, ⟨d, rfl⟩ | ⟨ys, rfl⟩⟩ := hf
        · exact ⟨_, ρ2, rfl, a2, wfl, p, fun z => nomatch z⟩
        · exact ⟨_, ρ2, rfl, a2, wfl, p, fun z => nomatch z⟩
theorem after_loop {σ : Type} {E' : σ → Env} {k : σ → Option R} {t : Step σ R} {l : SS} (ht : ∀ ρ, Ag env ρ → ∃ fl ρ', l ρ = .ok fl ρ' ∧ Ag (stepE E' E t) ρ' ∧ wfF fl ∧ (match t with
      | .out r => P r fl ∧ fl ≠ .nx
      | _ => fl = .nx)) (hr : ∀ s, Go (E' s) rest (k s) P E) : Go env (sSeq l rest) (stepK k t) P E := by
  cases t with
  | go s =>
    refine go_seq (env' := E' s) (fun ρ q => ?_) (hr s)
    obtain ⟨fl, ρ', h1, h2, _, h3⟩ := ht ρ q
    rw [show fl = .nx from h3] at h1
    exact ⟨ρ', h1, h2⟩
  | brk s =>
    refine go_seq (env' := E' s) (fun ρ q => ?_) (hr s)
    obtain ⟨fl, ρ', h1, h2, _, h3⟩ := ht ρ q
    rw [show fl = .nx from h3] at h1
    exact ⟨ρ', h1, h2⟩
  | out r =>
    refine oj_some fun ρ q => ?_
    obtain ⟨fl, ρ', h1, h2, w, p, n⟩ := ht ρ q
    exact ⟨fl, ρ', seq_out h1 n, p, w, h2⟩
theorem go_forR {σ α : Type} {iv : α → IV} {E' : σ → Env} {E1 : σ → α → Env} {tb : σ → α → Option (Step σ R)} {k : σ → Option R} {g : IV → M Unit} {sl : List Nat} {body : SS} {fi : M (List IV)} {xs : List α} {s0 : σ} (hi : Pi env fi (xs.map iv)) (w0 : Wk env (E' s0)) (hg : ∀ s x, Tg (E' s) g sl (iv x) (E1 s x))
    (hb : ∀ s x, Go (E1 s x) body (tb s x) (stepP P) (stepE E' E)) (hr : ∀ s, Go (E' s) rest (k s) P E) : Go env (sSeq (sFor fi g body) rest) ((foldR tb xs s0).bind (stepK k)) P E := oj_bind (P := fun t => ∀ ρ, Ag env ρ → ∃ fl ρ', sFor fi g body ρ = .ok fl ρ' ∧ Ag (stepE E' E t) ρ' ∧ wfF fl ∧ (match t with
      | .out r => P r fl ∧ fl ≠ .nx
      | _ => fl = .nx)) (fun t e ρ q => by
    obtain ⟨e1, _, w1⟩ := hi ρ q
    obtain ⟨fl, ρ', h1, h2⟩ := forR_go hg hb xs s0 t ρ (fun x hx => w1 _ (List.mem_map_of_mem hx)) e (q.wk w0)
    exact ⟨fl, ρ', by simp only [sFor, M.bind, e1, h1], h2⟩) fun t ht => after_loop ht hr
def whileR {σ : Type} (c : σ → Option Bool) (f : σ → Option (Step σ R)) : Nat → σ → Option (Step σ R)
  | 0, _ => none
  | n + 1, s => (c s).bind fun b => if b then (f s).bind fun t => (match t with
    | .go s => whileR c f n s
    | t => some t) else some (.go s)
theorem whileR_go {σ : Type} {E' : σ → Env} {c : σ → Option Bool} {tb : σ → Option (Step σ R)} {g : M Bool} {body : SS} (hc : ∀ s, Oj (Pb (E' s) g) (c s)) (hb : ∀ s, Go (E' s) body (tb s) (stepP P) (stepE E' E)) : ∀ (n : Nat) (s : σ) (t : Step σ R) (ρ : Rho), whileR c tb n s = some t → Ag (E' s) ρ →
    ∃ fl ρ', sWhile g body n ρ = .ok fl ρ' ∧ Ag (stepE E' E t) ρ' ∧ wfF fl ∧ (match t with
      | .out r => P r fl ∧ fl ≠ .nx
      | _ => fl = .nx)
  | 0, s, s', ρ, e, q => by cases e
  | n + 1, s, t, ρ, e, q => by
    unfold whileR at e
    cases e0 : c s with
    | none => rw [e0] at e; cases e
    | some b =>
      rw [e0] at e
      simp only [Option.bind_some] at e
      have h0 := hc s b e0 ρ q
      unfold sWhile
      simp only [M.bind, h0]
      cases b with
      | false =>
        rw [if_neg (by simp)] at e
        cases e
        exact ⟨.nx, ρ, rfl, q, trivial, rfl⟩
      | true =>
        rw [if_pos rfl] at e
        cases e1 : tb s with
        | none => rw [e1] at e; cases e
        | some u =>
          rw [e1] at e
          simp only [Option.bind_some] at e
          obtain ⟨fl, ρ2, h2, hf, wfl, a2⟩ := hb s u e1 ρ q
          simp only [M.bind, h2]
          cases u with
          | go s1 =>
            obtain ⟨fl3, ρ3, h3, a3⟩ := whileR_go hc hb n s1 t ρ2 e a2
            refine ⟨fl3, ρ3, ?_, a3⟩
            rcases hf with rfl | rfl <;> exact h3
          | brk s1 =>
            cases e
            rw [show fl = .bk from hf]
            exact ⟨.nx, ρ2, rfl, a2, trivial, rfl⟩
          | out r =>
            cases e
            obtain ⟨p, ⟨d, rfl⟩ | ⟨ys, rfl⟩⟩ := hf
            · exact ⟨_, ρ2, rfl, a2, wfl, p, fun z => nomatch z⟩
            · exact ⟨_, ρ2, rfl, a2, wfl, p, fun z => nomatch z⟩
theorem go_while {σ : Type} {E' : σ → Env} {c : σ → Option Bool} {tb : σ → Option (Step σ R)} {k : σ → Option R} {g : M Bool} {body : SS} {n : Nat} {s0 : σ} (w0 : Wk env (E' s0)) (hc : ∀ s, Oj (Pb (E' s) g) (c s))
    (hb : ∀ s, Go (E' s) body (tb s) (stepP P) (stepE E' E)) (hr : ∀ s, Go (E' s) rest (k s) P E) : Go env (sSeq (sWhile g body n) rest) ((whileR c tb n s0).bind (stepK k)) P E := oj_bind (P := fun t => ∀ ρ, Ag env ρ → ∃ fl ρ', sWhile g body n ρ = .ok fl ρ' ∧ Ag (stepE E' E t) ρ' ∧ wfF fl ∧ (match t with
      | .out r => P r fl ∧ fl ≠ .nx
      | _ => fl = .nx)) (fun t e ρ q => whileR_go hc hb n s0 t ρ e (q.wk w0)) fun t ht => after_loop ht hr
end
end Tv
namespace Tv
open PySem PySem.Spec PyProof.Rows L2 Dv
abbrev mI : Int → D := D.int
abbrev mB : Bool → D := D.bl
abbrev mS : Str → D := D.str
abbrev mU : Unit → D := fun _ => .non
abbrev mD : D → D := fun d => d
abbrev mT {α : Type} (em : α → D) : List α → D := fun xs => .tup (xs.map em)
abbrev mL {α : Type} (em : α → D) : List α → D := fun xs => .lst (xs.map em)
abbrev mP {α β : Type} (ea : α → D) (eb : β → D) : α × β → D := fun p => .tup [ea p.1, eb p.2]
abbrev mP3 {α β γ : Type} (ea : α → D) (eb : β → D) (ec : γ → D) : α × β × γ → D := fun p => .tup [ea p.1, eb p.2.1, ec p.2.2]
abbrev mP4 {α β γ δ : Type} (ea : α → D) (eb : β → D) (ec : γ → D) (ed : δ → D) : α × β × γ × δ → D := fun p => .tup [ea p.1, eb p.2.1, ec p.2.2.1, ed p.2.2.2]
def mO {α : Type} (em : α → D) : Option α → D
  | none => .non
  | some x => em x
abbrev mSet : List Int → D := fun ns => .set (ns.map .int)
structure EqD {α : Type} (em : α → D) (n : Nat) : Prop where
  pl : ∀ m x, n ≤ m → pl m (em x) = true
  eq : ∀ x y, eqb (em x) (em y) = true ↔ x = y
theorem eqI : EqD mI 0 := ⟨fun m x _ => by cases m <;> simp [Dv.pl], fun x y => by simp [eqb]⟩
theorem eqB : EqD mB 0 := ⟨fun m x _ => by cases m <;> simp [Dv.pl], fun x y => by simp [eqb]⟩
theorem eqU : EqD mU 0 := ⟨fun m x _ => by cases m <;> simp [Dv.pl], fun x y => by simp [eqb]⟩
theorem pls_map {α : Type} {em : α → D} {n m : Nat} (h : EqD em n) (hm : n ≤ m) : ∀ xs : List α, pls m (xs.map em) = true
  | [] => by rw [List.map_nil, pls.eq_def]
  | x :: xs => by
    rw [List.map_cons, pls.eq_def]
    simp only [Bool.and_eq_true]
    exact ⟨h.pl m x hm, pls_map h hm xs⟩
theorem eqbs_map {α : Type} {em : α → D} {n : Nat} (h : EqD em n) : ∀ xs ys : List α, eqbs (xs.map em) (ys.map em) = true ↔ xs = ys
  | [], [] => by simp [eqbs]
  | [], y :: ys => by simp [eqbs]
  | x :: xs, [] => by simp [eqbs]
  | x :: xs, y :: ys => by
    rw [List.map_cons, List.map_cons, eqbs, Bool.and_eq_true, h.eq, eqbs_map h xs ys]
    simp
theorem eqT {α : Type} {em : α → D} {n : Nat} (h : EqD em n) : EqD (mT em) (n + 1) := ⟨fun m x hm => by
  obtain ⟨k, rfl⟩ : ∃ k, m = k + 1 := ⟨m - 1, by omega⟩
  rw [pl.eq_def]
  exact pls_map h (by omega) x, fun x y => by rw [eqb]; exact eqbs_map h x y⟩
theorem eqL {α : Type} {em : α → D} {n : Nat} (h : EqD em n) : EqD (mL em) (n + 1) := ⟨fun m x hm => by
  obtain ⟨k, rfl⟩ : ∃ k, m = k + 1 := ⟨m - 1, by omega⟩
  rw [pl.eq_def]
  exact pls_map h (by omega) x, fun x y => by rw [eqb]; exact eqbs_map h x y⟩
theorem eqP {α β : Type} {ea : α → D} {eb : β → D} {n k : Nat} (h : EqD ea n) (g : EqD eb k) : EqD (mP ea eb) (n + k + 1) := ⟨fun m x hm => by
  obtain ⟨j, rfl⟩ : ∃ j, m = j + 1 := ⟨m - 1, by omega⟩
  rw [pl.eq_def]
  simp only [pls, h.pl j x.1 (by omega), g.pl j x.2 (by omega), Bool.and_true], fun x y => by
  rw [eqb]
  simp only [eqbs, Bool.and_true, Bool.and_eq_true, h.eq, g.eq]
  exact Prod.ext_iff.symm⟩
theorem eqP3 {α β γ : Type} {ea : α → D} {eb : β → D} {ec : γ → D} {n k l : Nat} (h : EqD ea n) (g : EqD eb k) (f : EqD ec l) : EqD (mP3 ea eb ec) (n + k + l + 1) := ⟨fun m x hm => by
  obtain ⟨j, rfl⟩ : ∃ j, m = j + 1 := ⟨m - 1, by omega⟩
  rw [pl.eq_def]
  simp only [pls, h.pl j x.1 (by omega), g.pl j x.2.1 (by omega), f.pl j x.2.2 (by omega), Bool.and_true], fun x y => by
  rw [eqb]
  simp only [eqbs, Bool.and_true, Bool.and_eq_true, h.eq, g.eq, f.eq]
  constructor
  · rintro ⟨a, b, c⟩
    exact Prod.ext a (Prod.ext b c)
  · rintro rfl
    exact ⟨rfl, rfl, rfl⟩⟩
theorem gEq_pl {x y : D} (h1 : pl 50 x = true) (h2 : pl 50 y = true) : gEq x y = some (.bl (eqb x y)) := by
  unfold gEq
  cases e : twoS x y with
  | none => simp only [gEqP, h1, h2, Bool.and_self]
  | some b =>
    obtain ⟨a, c, rfl, rfl, rfl⟩ := twoS_ok e
    simp only [eqb]
theorem gNe_pl {x y : D} (h1 : pl 50 x = true) (h2 : pl 50 y = true) : gNe x y = some (.bl (!eqb x y)) := by
  unfold gNe
  cases e : twoS x y with
  | none => simp only [gNeP, h1, h2, Bool.and_self]
  | some b =>
    obtain ⟨a, c, rfl, rfl, rfl⟩ := twoS_ok e
    simp only [eqb]
section
variable {α β : Type} {em : α → D} {n : Nat}
theorem EqD.dec [DecidableEq α] (h : EqD em n) (x y : α) : eqb (em x) (em y) = decide (x = y) := by
  by_cases z : x = y
  · rw [(h.eq x y).mpr z, decide_eq_true z]
  · rw [decide_eq_false z]
    cases e : eqb (em x) (em y) with
    | false => rfl
    | true => exact absurd ((h.eq x y).mp e) z
theorem g_eq [DecidableEq α] (h : EqD em n) (hn : n ≤ 50) (x y : α) : gEq (em x) (em y) = some (.bl (decide (x = y))) := by
  rw [gEq_pl (h.pl 50 x hn) (h.pl 50 y hn), h.dec]
theorem g_ne [DecidableEq α] (h : EqD em n) (hn : n ≤ 50) (x y : α) : gNe (em x) (em y) = some (.bl (!decide (x = y))) := by
  rw [gNe_pl (h.pl 50 x hn) (h.pl 50 y hn), h.dec]
theorem any_map [DecidableEq α] (h : EqD em n) (x : α) : ∀ xs : List α, ((xs.map em).any fun z => eqb z (em x)) = decide (x ∈ xs)
  | [] => by simp
  | y :: ys => by
    rw [List.map_cons, List.any_cons, any_map h x ys, h.dec]
    by_cases z : y = x
    · simp [z]
    · simp [z, Ne.symm z]
theorem g_inT [DecidableEq α] (h : EqD em n) (hn : n ≤ 49) (x : α) (xs : List α) : gIn (em x) (mT em xs) = some (.bl (decide (x ∈ xs))) := by
  have := (eqT h).pl 50 xs (by omega)
  simp only [gIn, h.pl 50 x (by omega), this, Bool.and_self, any_map h]
theorem g_inL [DecidableEq α] (h : EqD em n) (hn : n ≤ 49) (x : α) (xs : List α) : gIn (em x) (mL em xs) = some (.bl (decide (x ∈ xs))) := by
  have := (eqL h).pl 50 xs (by omega)
  simp only [gIn, h.pl 50 x (by omega), this, Bool.and_self, any_map h]
theorem g_ninT [DecidableEq α] (h : EqD em n) (hn : n ≤ 49) (x : α) (xs : List α) : gNotIn (em x) (mT em xs) = some (.bl (!decide (x ∈ xs))) := by
  have := (eqT h).pl 50 xs (by omega)
  simp only [gNotIn, h.pl 50 x (by omega), this, Bool.and_self, any_map h]
theorem g_ninL [DecidableEq α] (h : EqD em n) (hn : n ≤ 49) (x : α) (xs : List α) : gNotIn (em x) (mL em xs) = some (.bl (!decide (x ∈ xs))) := by
  have := (eqL h).pl 50 xs (by omega)
  simp only [gNotIn, h.pl 50 x (by omega), this, Bool.and_self, any_map h]
theorem g_add (i j : Int) : gAdd (.int i) (.int j) = some (.int (i + j)) := rfl
theorem g_sub (i j : Int) : gSub (.int i) (.int j) = some (.int (i - j)) := rfl
theorem g_neg (i : Int) : gNeg (.int i) = some (.int (-i)) := rfl
theorem g_inv (i : Int) : gInv (.int i) = some (.int (Builtin.bitNot i)) := rfl
theorem g_lt (i j : Int) : gLtA (.int i) (.int j) = some (.bl (decide (i < j))) := rfl
theorem g_le (i j : Int) : gLeA (.int i) (.int j) = some (.bl (decide (i ≤ j))) := rfl
theorem g_gt (i j : Int) : gGtA (.int i) (.int j) = some (.bl (decide (j < i))) := rfl
theorem g_ge (i j : Int) : gGeA (.int i) (.int j) = some (.bl (decide (j ≤ i))) := rfl
theorem g_ltR (a b : List Int) : gLtA (mT mI a) (mT mI b) = some (.bl (ltI a b)) := by simp only [gLtA, gRow, asInts_map]
theorem g_leR (a b : List Int) : gLeA (mT mI a) (mT mI b) = some (.bl (!ltI b a)) := by simp only [gLeA, gRow, asInts_map]
theorem g_gtR (a b : List Int) : gGtA (mT mI a) (mT mI b) = some (.bl (ltI b a)) := by simp only [gGtA, gRow, asInts_map]
theorem g_geR (a b : List Int) : gGeA (mT mI a) (mT mI b) = some (.bl (!ltI a b)) := by simp only [gGeA, gRow, asInts_map]
abbrev pR (p : Int × Int) : List Int := [p.1, p.2]
theorem g_ltP (a b : Int × Int) : gLtA (mP mI mI a) (mP mI mI b) = some (.bl (ltI (pR a) (pR b))) := g_ltR (pR a) (pR b)
theorem g_leP (a b : Int × Int) : gLeA (mP mI mI a) (mP mI mI b) = some (.bl (!ltI (pR b) (pR a))) := g_leR (pR a) (pR b)
theorem g_gtP (a b : Int × Int) : gGtA (mP mI mI a) (mP mI mI b) = some (.bl (ltI (pR b) (pR a))) := g_gtR (pR a) (pR b)
theorem g_geP (a b : Int × Int) : gGeA (mP mI mI a) (mP mI mI b) = some (.bl (!ltI (pR a) (pR b))) := g_geR (pR a) (pR b)
theorem g_and (i j : Int) : gAnd (.int i) (.int j) = some (.int (Builtin.bitAnd i j)) := rfl
theorem g_or (i j : Int) : gOr (.int i) (.int j) = some (.int (Builtin.bitOr i j)) := rfl
theorem g_xor (i j : Int) : gXor (.int i) (.int j) = some (.int (Builtin.bitXor i j)) := rfl
def gateQ (c : Bool) (x : α) : Option α := if c then some x else none
theorem gate_ok {c : Bool} {x y : α} (h : gateQ c x = some y) : c = true ∧ y = x := by
  cases c with
  | true => cases h; exact ⟨rfl, rfl⟩
  | false => cases h
abbrev mulQ (i j : Int) : Option Int := gateQ (cMul i j) (i * j)
abbrev divQ (i j : Int) : Option Int := gateQ (cDiv i j) (i / j)
abbrev modQ (i j : Int) : Option Int := gateQ (decide (0 < j)) (i % j)
abbrev powQ (i j : Int) : Option Int := gateQ (cPowW i j) (i ^ j.toNat)
abbrev shlQ (i j : Int) : Option Int := gateQ (cPow i j) (i * 2 ^ j.toNat)
abbrev shrQ (i j : Int) : Option Int := gateQ (decide (0 ≤ j)) (i / 2 ^ j.toNat)
abbrev mulSQ (i j : Int) : Option Int := gateQ (cMulS i j) (i * j)
end
section
variable {env : Env} {fa fb fc : ES} {i j : Int}
theorem gI_gate {c : Int → Int → Bool} {f : Int → Int → Int} (ha : Pv env fa (.int i)) (hb : Pv env fb (.int j)) : Oj (fun r => Pe env (eBin (gI c fun i j => .int (f i j)) fa fb) (mI r)) (gateQ (c i j) (f i j)) := fun r e => by
  obtain ⟨h, rfl⟩ := gate_ok e
  exact pe_bin ha hb (by simp only [gI, h]; rfl) trivial
theorem gI_lit {c : Int → Int → Bool} {f : Int → Int → Int} (ha : Pv env fa (.int i)) (hb : Pv env fb (.int j)) (h : c i j = true) : Pe env (eBin (gI c fun i j => .int (f i j)) fa fb) (mI (f i j)) := pe_bin ha hb (by simp only [gI, h]; rfl) trivial
theorem c_mulL (h : i.natAbs < 2 ^ 64) : cMul i j = true := by
  unfold cMul
  simp [h]
theorem c_mulR (h : j.natAbs < 2 ^ 64) : cMul i j = true := by
  unfold cMul
  simp [h]
theorem pe_mulL (ha : Pv env fa (.int i)) (hb : Pv env fb (.int j)) (h : i.natAbs < 2 ^ 64) : Pe env (eBin gMul fa fb) (mI (i * j)) := gI_lit (c := cMul) (f := fun i j => i * j) ha hb (c_mulL h)
theorem pe_mulR (ha : Pv env fa (.int i)) (hb : Pv env fb (.int j)) (h : j.natAbs < 2 ^ 64) : Pe env (eBin gMul fa fb) (mI (i * j)) := gI_lit (c := cMul) (f := fun i j => i * j) ha hb (c_mulR h)
theorem oe_mul (ha : Pv env fa (.int i)) (hb : Pv env fb (.int j)) : Oj (fun r => Pe env (eBin gMul fa fb) (mI r)) (mulQ i j) := gI_gate (c := cMul) (f := fun i j => i * j) ha hb
theorem oe_div (ha : Pv env fa (.int i)) (hb : Pv env fb (.int j)) : Oj (fun r => Pe env (eBin gDiv fa fb) (mI r)) (divQ i j) := gI_gate (c := cDiv) (f := fun i j => i / j) ha hb
theorem oe_mod (ha : Pv env fa (.int i)) (hb : Pv env fb (.int j)) : Oj (fun r => Pe env (eBin gMod fa fb) (mI r)) (modQ i j) := gI_gate (c := fun _ j => decide (0 < j)) (f := fun i j => i % j) ha hb
theorem oe_pow (ha : Pv env fa (.int i)) (hb : Pv env fb (.int j)) : Oj (fun r => Pe env (eBin gPow fa fb) (mI r)) (powQ i j) := gI_gate (c := cPowW) (f := fun i j => i ^ j.toNat) ha hb
theorem oe_shl (ha : Pv env fa (.int i)) (hb : Pv env fb (.int j)) : Oj (fun r => Pe env (eBin gShl fa fb) (mI r)) (shlQ i j) := gI_gate (c := cPow) (f := fun i j => i * 2 ^ j.toNat) ha hb
theorem oe_shr (ha : Pv env fa (.int i)) (hb : Pv env fb (.int j)) : Oj (fun r => Pe env (eBin gShr fa fb) (mI r)) (shrQ i j) := gI_gate (c := fun _ j => decide (0 ≤ j)) (f := fun i j => i / 2 ^ j.toNat) ha hb
theorem pe_div (ha : Pv env fa (.int i)) (hb : Pv env fb (.int j)) (h : cDiv i j = true) : Pe env (eBin gDiv fa fb) (mI (i / j)) := gI_lit (c := cDiv) (f := fun i j => i / j) ha hb h
theorem c_div (h : 0 < j) (h2 : j.natAbs < 2 ^ 64) : cDiv i j = true := by
  unfold cDiv
  simp only [Bool.and_eq_true]
  exact ⟨decide_eq_true h, decide_eq_true (Nat.lt_of_lt_of_le h2 (Nat.pow_le_pow_right (by decide) (by decide)))⟩
theorem pe_mod (ha : Pv env fa (.int i)) (hb : Pv env fb (.int j)) (h : 0 < j) : Pe env (eBin gMod fa fb) (mI (i % j)) := gI_lit (c := fun _ j => decide (0 < j)) (f := fun i j => i % j) ha hb (decide_eq_true h)
end
section
variable {α β : Type} {em : α → D} {env : Env} {fa fb : ES} {fs : M (List RV)} {xs ys : List α}
theorem g_lenT (xs : List α) : gLen [mT em xs] = some (.int (xs.length : Int)) := by simp [gLen]
theorem g_lenL (xs : List α) : gLen [mL em xs] = some (.int (xs.length : Int)) := by simp [gLen]
theorem g_abs (i : Int) : gAbs [.int i] = some (.int (if i < 0 then -i else i)) := by rfl
theorem g_max2 (i j : Int) : gMax2 [.int i, .int j] = some (.int (if j > i then j else i)) := by rfl
theorem g_min2 (i j : Int) : gMin2 [.int i, .int j] = some (.int (if j < i then j else i)) := by rfl
theorem g_int (i : Int) : gInt [.int i] = some (.int i) := by rfl
theorem g_intB (b : Bool) : gInt [.bl b] = some (.int (if b then 1 else 0)) := by rfl
theorem g_sum (xs : List Int) : gSum [mL mI xs] = some (.int xs.sum) := by
  unfold gSum
  simp only [asInts_map]
theorem g_all (xs : List Bool) : gAll [mL mB xs] = some (.bl (xs.all id)) := by
  unfold gAll
  simp only [bls_map]
theorem g_any (xs : List Bool) : gAny [mL mB xs] = some (.bl (xs.any id)) := by
  unfold gAny
  simp only [bls_map]
def maxQ : List Int → Option Int
  | [] => none
  | a :: r => some (maxI a r)
def minQ : List Int → Option Int
  | [] => none
  | a :: r => some (minI a r)
theorem seqI_L (xs : List Int) : seqI [mL mI xs] = some xs := asInts_map xs
theorem seqI_T (xs : List Int) : seqI [mT mI xs] = some xs := asInts_map xs
theorem oe_maxG {d : D} {xs : List Int} (h : Pas env fs [d]) (e1 : seqI [d] = some xs) : Oj (fun r => Pe env (eCall gMaxA fs) (mI r)) (maxQ xs) := fun r e => by
  cases xs with
  | nil => cases e
  | cons a l => cases e; exact pe_call h (by unfold gMaxA; simp only [e1]) trivial
theorem oe_minG {d : D} {xs : List Int} (h : Pas env fs [d]) (e1 : seqI [d] = some xs) : Oj (fun r => Pe env (eCall gMinA fs) (mI r)) (minQ xs) := fun r e => by
  cases xs with
  | nil => cases e
  | cons a l => cases e; exact pe_call h (by unfold gMinA; simp only [e1]) trivial
theorem oe_maxL {xs : List Int} (h : Pas env fs [mL mI xs]) : Oj (fun r => Pe env (eCall gMaxA fs) (mI r)) (maxQ xs) := oe_maxG h (seqI_L xs)
theorem oe_maxT {xs : List Int} (h : Pas env fs [mT mI xs]) : Oj (fun r => Pe env (eCall gMaxA fs) (mI r)) (maxQ xs) := oe_maxG h (seqI_T xs)
theorem oe_minL {xs : List Int} (h : Pas env fs [mL mI xs]) : Oj (fun r => Pe env (eCall gMinA fs) (mI r)) (minQ xs) := oe_minG h (seqI_L xs)
theorem oe_minT {xs : List Int} (h : Pas env fs [mT mI xs]) : Oj (fun r => Pe env (eCall gMinA fs) (mI r)) (minQ xs) := oe_minG h (seqI_T xs)
abbrev setIQ (xs : List Int) : Option (List Int) := gateQ (decide (xs.length ≤ 1000)) (sortU xs)
theorem oe_setL {xs : List Int} (h : Pas env fs [mL mI xs]) : Oj (fun r => Pe env (eCall gSetA fs) (mSet r)) (setIQ xs) := fun r e => by
  obtain ⟨h1, rfl⟩ := gate_ok e
  exact pe_call h (by simp only [gSetA, asInts_map, if_pos (of_decide_eq_true h1)]) trivial
theorem oe_setT {xs : List Int} (h : Pas env fs [mT mI xs]) : Oj (fun r => Pe env (eCall gSetA fs) (mSet r)) (setIQ xs) := fun r e => by
  obtain ⟨h1, rfl⟩ := gate_ok e
  exact pe_call h (by simp only [gSetA, asInts_map, if_pos (of_decide_eq_true h1)]) trivial
abbrev srtSQ (ns : List Int) : Option (List Int) := gateQ (decide (ns.length < 64)) ns
theorem wfs1 {d : D} (h : wfs [d]) : wf d := wfs_iff.mp h d (by simp)
theorem pe_tupleL (h : Pas env fs [mL em xs]) : Pe env (eCall gTuple fs) (mT em xs) := pe_callW h fun w => ⟨rfl, wf_tup.mpr (wf_lst.mp (wfs1 w))⟩
theorem pe_tupleT (h : Pas env fs [mT em xs]) : Pe env (eCall gTuple fs) (mT em xs) := pe_callW h fun w => ⟨rfl, wfs1 w⟩
theorem pn_listL (h : Pas env fs [mL em xs]) : Pn env (nCall gList fs) (xs.map em) := pn_call h fun w => ⟨rfl, wf_lst.mp (wfs1 w)⟩
theorem pn_listT (h : Pas env fs [mT em xs]) : Pn env (nCall gList fs) (xs.map em) := pn_call h fun w => ⟨rfl, wf_tup.mp (wfs1 w)⟩
theorem wfs_ints (l : List Int) : wfs (l.map mI) := wfs_iff.mpr fun x hx => by
  obtain ⟨i, _, rfl⟩ := List.mem_map.mp hx
  trivial
theorem insI_len (i : Int) : ∀ l, (insI i l).length = l.length + 1
  | [] => rfl
  | j :: r => by
    unfold insI
    split
    · rfl
    · simp [insI_len i r]
theorem sortI_len : ∀ l : List Int, (sortI l).length = l.length
  | [] => rfl
  | i :: r => by
    show (insI i (sortI r)).length = _
    rw [insI_len, sortI_len r]; rfl
theorem pn_sortedT {xs : List Int} (h : Pas env fs [mT mI xs]) : Pn env (nCall gSortedA fs) ((sortI xs).map mI) := pn_call h fun w => ⟨by show gSortedTI [mT mI xs] = _; unfold gSortedTI; simp only [asInts_map], by rw [List.length_map, sortI_len, ← List.length_map (f := mI)]; exact (wf_tup.mp (wfs1 w)).1, wfs_ints _⟩
theorem pn_sortedL {xs : List Int} (h : Pas env fs [mL mI xs]) : Pn env (nCall gSortedA fs) ((sortI xs).map mI) := pn_call h fun w => ⟨by unfold gSortedA; simp only [asInts_map], by rw [List.length_map, sortI_len, ← List.length_map (f := mI)]; exact (wf_lst.mp (wfs1 w)).1, wfs_ints _⟩
theorem on_sortedS {ns : List Int} (h : Pas env fs [mSet ns]) : Oj (fun r => Pn env (nCall gSortedS fs) (r.map mI)) (srtSQ ns) := fun r e => by
  obtain ⟨h1, rfl⟩ := gate_ok e
  have h1 := of_decide_eq_true h1
  exact pn_call h fun w => ⟨by simp only [gSortedS, List.length_map, if_pos h1], by rw [List.length_map]; omega, wfs_ints _⟩
abbrev repQ (xs : List α) (k : Int) : Option (List α) := gateQ (rangeOk k && decide (xs.length * k.toNat ≤ 1000000)) (List.replicate k.toNat xs).flatten
abbrev srtRQ (rows : List (List Int)) : Option (List (List Int)) := gateQ (rows.all fun r => !r.isEmpty) (sortR rows)
theorem asInts_rows : ∀ (rows : List (List Int)), rows ≠ [] → asInts (rows.map (mT mI)) = none
  | [], h => absurd rfl h
  | r :: rows, _ => rfl
theorem srtR_fact {rows : List (List Int)} (h : (rows.all fun r => !r.isEmpty) = true) (w : wfs [mL (mT mI) rows]) : gSortedA [mL (mT mI) rows] = some ((sortR rows).map (mT mI)) ∧ wl ((sortR rows).map (mT mI)) := by
  have h1 : ∀ b ∈ rows, b ≠ [] := fun b hb => by simpa using (List.all_eq_true.mp h) b hb
  obtain ⟨w1, w2⟩ := wf_lst.mp (wfs1 w)
  refine ⟨?_, by rw [List.length_map, (sortR_perm rows).length_eq]; simpa using w1, wfs_sub w2 fun y hy => ?_⟩
  · cases rows with
    | nil => rfl
    | cons b rows =>
      unfold gSortedA
      simp only [asInts_rows (b :: rows) (by simp)]
      rw [show asRows ((b :: rows).map (mT mI)) = some (b :: rows) from asRows_rows h1]
      rfl
  · obtain ⟨b, hb, rfl⟩ := List.mem_map.mp hy
    exact List.mem_map_of_mem ((sortR_perm rows).mem_iff.mp hb)
theorem on_sortedR {rows : List (List Int)} (h : Pas env fs [mL (mT mI) rows]) : Oj (fun r => Pn env (nCall gSortedA fs) (r.map (mT mI))) (srtRQ rows) := fun r e => by
  obtain ⟨h1, rfl⟩ := gate_ok e
  exact pn_call h (srtR_fact h1)
theorem srtI_fact {xs : List Int} (w : wfs [mL mI xs]) : gSortedA [mL mI xs] = some ((sortI xs).map mI) ∧ wl ((sortI xs).map mI) := ⟨by unfold gSortedA; simp only [asInts_map], by rw [List.length_map, sortI_len, ← List.length_map (f := mI)]; exact (wf_lst.mp (wfs1 w)).1, wfs_ints _⟩
theorem atI_map (xs : List α) (i : Int) : atI (xs.map em) i = (atI xs i).map em := by
  unfold atI
  rw [List.length_map]
  cases ixN xs.length i with
  | none => rfl
  | some k => simp
theorem atI_mem {xs : List α} {i : Int} {x : α} (h : atI xs i = some x) : x ∈ xs := by
  unfold atI at h
  cases e : ixN xs.length i with
  | none => rw [e] at h; cases h
  | some j => rw [e] at h; exact List.mem_of_getElem? h
abbrev ixQ (xs : List α) (i : Int) : Option α := atI xs i
theorem oe_ixT {i : Int} (ha : Pv env fa (mT em xs)) (hb : Pv env fb (.int i)) : Oj (fun r => Pe env (eBin gIx fa fb) (em r)) (ixQ xs i) := fun r e => pe_binW ha hb fun w _ => by
  refine ⟨by simp only [gIx, atI_map, e, Option.map_some], wfs_iff.mp (wf_tup.mp w).2 _ (List.mem_map_of_mem (atI_mem e))⟩
theorem oe_ixL {i : Int} (ha : Pv env fa (mL em xs)) (hb : Pv env fb (.int i)) : Oj (fun r => Pe env (eBin gIx fa fb) (em r)) (ixQ xs i) := fun r e => pe_binW ha hb fun w _ => by
  refine ⟨by simp only [gIx, atI_map, e, Option.map_some], wfs_iff.mp (wf_lst.mp w).2 _ (List.mem_map_of_mem (atI_mem e))⟩
def cut (xs : List α) (lo hi : Option Int) : List α := (xs.drop (HT.sIx xs.length 0 lo)).take (HT.sIx xs.length xs.length hi - HT.sIx xs.length 0 lo)
theorem cut_map (xs : List α) (lo hi : Option Int) : Dv.cutD (xs.map em) lo hi = (cut xs lo hi).map em := by
  unfold Dv.cutD cut
  rw [List.length_map, List.map_take, List.map_drop]
theorem pe_cutT {fl fh : M (Option Int)} {lo hi : Option Int} (ha : Pv env fa (mT em xs)) (hl : Po env fl lo) (hh : Po env fh hi) : Pe env (eSl fa fl fh) (mT em (cut xs lo hi)) := by
  have := pe_slT ha hl hh
  rw [cut_map] at this
  exact this
theorem pe_cutL {fl fh : M (Option Int)} {lo hi : Option Int} (ha : Pv env fa (mL em xs)) (hl : Po env fl lo) (hh : Po env fh hi) : Pe env (eSl fa fl fh) (mL em (cut xs lo hi)) := by
  have := pe_slL ha hl hh
  rw [cut_map] at this
  exact this
theorem pn_cutL {fl fh : M (Option Int)} {lo hi : Option Int} (ha : Pv env fa (mL em xs)) (hl : Po env fl lo) (hh : Po env fh hi) : Pn env (nSl fa fl fh) ((cut xs lo hi).map em) := by
  have := pn_sl ha hl hh
  rw [cut_map] at this
  exact this
theorem pe_revT (ha : Pv env fa (mT em xs)) : Pe env (eUn gRev fa) (mT em xs.reverse) := pe_unW ha fun w => ⟨by simp only [gRev]; rw [← List.map_reverse], wf_tup.mpr ⟨by simpa using (wf_tup.mp w).1, wfs_sub (wf_tup.mp w).2 fun y hy => by simpa using hy⟩⟩
theorem pe_revL (ha : Pv env fa (mL em xs)) : Pe env (eUn gRev fa) (mL em xs.reverse) := pe_unW ha fun w => ⟨by simp only [gRev]; rw [← List.map_reverse], wf_lst.mpr ⟨by simpa using (wf_lst.mp w).1, wfs_sub (wf_lst.mp w).2 fun y hy => by simpa using hy⟩⟩
abbrev catQ (xs ys : List α) : Option (List α) := gateQ (decide (xs.length + ys.length ≤ 1000000)) (xs ++ ys)
theorem oe_catT (ha : Pv env fa (mT em xs)) (hb : Pv env fb (mT em ys)) : Oj (fun r => Pe env (eBin gAdd fa fb) (mT em r)) (catQ xs ys) := fun r e => by
  obtain ⟨h, rfl⟩ := gate_ok e
  have h := of_decide_eq_true h
  exact pe_binW ha hb fun w1 w2 => ⟨by simp only [gAdd, List.length_map, if_pos h]; rw [← List.map_append], wf_tup.mpr ⟨by simpa using h, by rw [List.map_append]; exact wfs_app (wf_tup.mp w1).2 (wf_tup.mp w2).2⟩⟩
theorem oe_catL (ha : Pv env fa (mL em xs)) (hb : Pv env fb (mL em ys)) : Oj (fun r => Pe env (eBin gAdd fa fb) (mL em r)) (catQ xs ys) := fun r e => by
  obtain ⟨h, rfl⟩ := gate_ok e
  have h := of_decide_eq_true h
  exact pe_binW ha hb fun w1 w2 => ⟨by simp only [gAdd, List.length_map, if_pos h]; rw [← List.map_append], wf_lst.mpr ⟨by simpa using h, by rw [List.map_append]; exact wfs_app (wf_lst.mp w1).2 (wf_lst.mp w2).2⟩⟩
theorem on_cat (ha : Pv env fa (mL em xs)) (hb : Pv env fb (mL em ys)) : Oj (fun r => Pn env (nBin nCat fa fb) (r.map em)) (catQ xs ys) := fun r e => by
  obtain ⟨h, rfl⟩ := gate_ok e
  have h := of_decide_eq_true h
  exact pn_bin ha hb fun w1 w2 => ⟨by simp only [nCat, List.length_map, if_pos h, List.map_append], by simpa using h, by rw [List.map_append]; exact wfs_app (wf_lst.mp w1).2 (wf_lst.mp w2).2⟩
theorem oe_few (h : Pai env fs (xs.map em)) : Oj (fun r => Pe env (eTup fs) (mT em r)) (fewQ xs) := fun r e => by
  obtain ⟨rfl, hl⟩ := fewQ_some e
  exact pe_tup h (by rw [List.length_map]; exact hl)
theorem on_few (h : Pai env fs (xs.map em)) : Oj (fun r => Pn env (nLst fs) (r.map em)) (fewQ xs) := fun r e => by
  obtain ⟨rfl, hl⟩ := fewQ_some e
  exact pn_lst h (by rw [List.length_map]; exact hl)
theorem ta_nil : Pai env aNil (([] : List α).map em) := pai_nil
theorem ta_cons {x : α} (ha : Pe env fa (em x)) (h : Pai env fs (xs.map em)) : Pai env (aCons fa fs) ((x :: xs).map em) := pai_cons ha h
theorem ta_starT (ha : Pv env fa (mT em ys)) (h : Pai env fs (xs.map em)) : Pai env (aStar fa fs) ((ys ++ xs).map em) := by
  rw [List.map_append]
  exact pai_star ha rfl h
theorem ta_starL (ha : Pv env fa (mL em ys)) (h : Pai env fs (xs.map em)) : Pai env (aStar fa fs) ((ys ++ xs).map em) := by
  rw [List.map_append]
  exact pai_star ha rfl h
def idxQ [DecidableEq α] (xs : List α) (x : α) : Option Int := if x ∈ xs then some (xs.idxOf x : Int) else none
theorem pe_idx {x y : D} {r : D} (ha : Pv env fa x) (hb : Pv env fb y) (h : gIndex2 x x y = some r) (w : wf r) : Pe env (eIdx fa fb) r := fun ρ q => by
  obtain ⟨⟨r1, e1, l1⟩, _⟩ := ha ρ q
  obtain ⟨⟨r2, e2, l2⟩, _⟩ := hb ρ q
  exact ⟨by simp only [eIdx, M.bind, e1, e2, val, l1, l2, h, M.opt, M.ret], w⟩
theorem oe_idxT {xs : List Int} {x : Int} (ha : Pv env fa (mT mI xs)) (hb : Pv env fb (.int x)) : Oj (fun r => Pe env (eIdx fa fb) (mI r)) (idxQ xs x) := fun r e => by
  unfold idxQ at e
  split at e
  · rename_i h
    cases e
    exact pe_idx ha hb (by simp only [gIndex2, gIndex, asInts_map, if_pos h]) trivial
  · cases e
theorem place_map {n : Nat} [DecidableEq α] (h : EqD em n) (x : α) : ∀ xs : List α, x ∈ xs → place (em x) (xs.map em) = some (xs.idxOf x)
  | [], m => nomatch m
  | y :: ys, m => by
    rw [List.map_cons, place, h.dec]
    by_cases z : y = x
    · simp [z]
    · rw [if_neg (by simpa using z), place_map h x ys ((List.mem_cons.mp m).resolve_left (Ne.symm z))]
      simp [List.idxOf_cons, beq_false_of_ne z]
theorem oe_idxL {n : Nat} [DecidableEq α] {x : α} (h : EqD em n) (hn : n ≤ 49) (ha : Pv env fa (mL em xs)) (hb : Pv env fb (em x)) : Oj (fun r => Pe env (eIdx fa fb) (mI r)) (idxQ xs x) := fun r e => by
  unfold idxQ at e
  split at e
  · rename_i hm
    cases e
    exact pe_idx ha hb (by simp only [gIndex2, gIndex, (eqL h).pl 50 xs (by omega), h.pl 50 x (by omega), place_map h x xs hm, Bool.and_self]) trivial
  · cases e
def rngOk (a b : Int) : Bool := rangeOk a && rangeOk b && decide ((b - a).toNat ≤ 1000000)
abbrev rngQ (a b : Int) : Option (List Int) := gateQ (rngOk a b) (rgF a b)
theorem rngOk_ok {a b : Int} (h : rngOk a b = true) : rangeOk a = true ∧ rangeOk b = true ∧ (b - a).toNat ≤ 1000000 := by
  unfold rngOk at h
  simp only [Bool.and_eq_true, decide_eq_true_eq] at h
  exact ⟨h.1.1, h.1.2, h.2⟩
theorem rgF_len (a b : Int) : (rgF a b).length = (b - a).toNat := by simp [rgF]
abbrev iI : Int → IV := fun i => .im (.int i)
theorem pi_rng1 {b : Int} (h : Pas env fs [.int b]) (ok : rngOk 0 b = true) : Pi env (iCall rng1 fs) ((rgF 0 b).map iI) := by
  obtain ⟨h1, h2, h3⟩ := rngOk_ok ok
  refine pi_call h ?_ (by rw [List.length_map, rgF_len]; exact h3) (fun x hx => by obtain ⟨i, _, rfl⟩ := List.mem_map.mp hx; trivial)
  simp only [rng1, if_pos h2, rgF, List.map_map, Int.sub_zero]
  congr 2
  funext i
  simp
theorem pi_rng2 {a b : Int} (h : Pas env fs [.int a, .int b]) (ok : rngOk a b = true) : Pi env (iCall rng2 fs) ((rgF a b).map iI) := by
  obtain ⟨h1, h2, h3⟩ := rngOk_ok ok
  refine pi_call h ?_ (by rw [List.length_map, rgF_len]; exact h3) (fun x hx => by obtain ⟨i, _, rfl⟩ := List.mem_map.mp hx; trivial)
  have : (rangeOk a && rangeOk b) = true := by rw [h1, h2]; rfl
  simp only [rng2, if_pos this, rgF, List.map_map]
  rfl
theorem oi_rng1 {b : Int} (h : Pas env fs [.int b]) : Oj (fun r => Pi env (iCall rng1 fs) (r.map iI)) (rngQ 0 b) := fun r e => by
  obtain ⟨h1, rfl⟩ := gate_ok e
  exact pi_rng1 h h1
theorem oi_rng2 {a b : Int} (h : Pas env fs [.int a, .int b]) : Oj (fun r => Pi env (iCall rng2 fs) (r.map iI)) (rngQ a b) := fun r e => by
  obtain ⟨h1, rfl⟩ := gate_ok e
  exact pi_rng2 h h1
theorem pr_one {b : Int} (h : Pv env fa (.int b)) : Pr env (rOne fa) (0, b) := fun ρ q => by
  obtain ⟨⟨r, e, l⟩, _⟩ := h ρ q
  simp only [rOne, M.bind, e, val, l, Dv.isInt, M.opt, M.ret]
theorem pr_two {a b : Int} (h : Pv env fa (.int a)) (g : Pv env fb (.int b)) : Pr env (rTwo fa fb) (a, b) := fun ρ q => by
  obtain ⟨⟨r, e, l⟩, _⟩ := h ρ q
  obtain ⟨⟨r2, e2, l2⟩, _⟩ := g ρ q
  simp only [rTwo, M.bind, e, e2, val, l, l2, Dv.isInt, M.opt, M.ret]
theorem rgD_F (a b : Int) : rgD a b = (rgF a b).map mI := by simp only [rgD, rgF, List.map_map]; rfl
theorem rgC_go {a b : Int} (ok : rngOk a b = true) : rgC (a, b) = some ((rgF a b).map mI) := by
  rw [← rgD_F]
  unfold rgC
  rw [show rgOk (a, b).1 (a, b).2 = true from ok]
theorem wl_rg {a b : Int} (ok : rngOk a b = true) : wl ((rgF a b).map mI) := ⟨by rw [List.length_map, rgF_len]; exact (rngOk_ok ok).2.2, wfs_ints _⟩
theorem on_rg {f : M (Int × Int)} {a b : Int} (h : Pr env f (a, b)) : Oj (fun r => Pn env (nLstRg f) (r.map mI)) (rngQ a b) := fun r e ρ q => by
  obtain ⟨h1, rfl⟩ := gate_ok e
  exact ⟨nLstRg_ok (h ρ q) (rgC_go h1), wl_rg h1⟩
theorem oe_tupRg {f : M (Int × Int)} {a b : Int} (h : Pr env f (a, b)) : Oj (fun r => Pe env (eTupRg f) (mT mI r)) (rngQ a b) := fun r e ρ q => by
  obtain ⟨h1, rfl⟩ := gate_ok e
  refine ⟨?_, wf_tup.mpr (wl_rg h1)⟩
  unfold eTupRg
  simp only [M.bind, h ρ q, rgC_go h1, M.opt, M.ret]
theorem on_rep {f : M (List D)} {k : Int} (h : Pn env f (xs.map em)) (hb : Pv env fb (.int k)) : Oj (fun r => Pn env (nRep f fb) (r.map em)) (gateQ (rangeOk k && decide (xs.length * k.toNat ≤ 1000000)) (List.replicate k.toNat xs).flatten) := fun r e ρ q => by
  obtain ⟨h1, rfl⟩ := gate_ok e
  obtain ⟨e1, w⟩ := h ρ q
  obtain ⟨⟨r2, e2, l2⟩, _⟩ := hb ρ q
  have h2 := of_decide_eq_true (Bool.and_eq_true_iff.mp h1).2
  refine ⟨?_, ?_, ?_⟩
  · simp only [nRep, M.bind, e1, e2, val, l2, Dv.isInt, M.opt, List.length_map, if_pos h1]
    congr 1
    rw [List.map_flatten, List.map_replicate]
  · rw [List.length_map, List.length_flatten, List.map_replicate, List.sum_replicate_nat, Nat.mul_comm]; exact h2
  · refine wfs_iff.mpr fun x hx => ?_
    obtain ⟨y, hy, rfl⟩ := List.mem_map.mp hx
    obtain ⟨l, hl, hy⟩ := List.mem_flatten.mp hy
    rw [List.eq_of_mem_replicate hl] at hy
    exact wfs_iff.mp w.2 _ (List.mem_map_of_mem hy)
abbrev iM (em : α → D) : α → IV := fun x => .im (em x)
theorem ti_T (ha : Pe env fa (mT em xs)) : Pi env (iSeq fa) (xs.map (iM em)) := by
  have := pi_tup ha
  rw [List.map_map] at this
  exact this
theorem ti_L (ha : Pe env fa (mL em xs)) : Pi env (iSeq fa) (xs.map (iM em)) := by
  have := pi_lst ha
  rw [List.map_map] at this
  exact this
abbrev iZ (ea : α → D) (eb : β → D) : α × β → IV := fun p => .tw [ea p.1, eb p.2]
theorem zip_map2 {ea : α → D} {eb : β → D} : ∀ (xs : List α) (ys : List β), ((xs.map ea).zip (ys.map eb)).map (fun p => IV.tw [p.1, p.2]) = (xs.zip ys).map (iZ ea eb)
  | [], _ => by simp
  | _ :: _, [] => by simp
  | x :: xs, y :: ys => by simp [zip_map2 xs ys]
theorem zip_len (xs : List α) (ys : List β) : (xs.zip ys).length ≤ xs.length := by rw [List.length_zip]; omega
theorem zip_wf {ea : α → D} {eb : β → D} {xs : List α} {ys : List β} (h1 : wfs (xs.map ea)) (h2 : wfs (ys.map eb)) : ∀ x ∈ (xs.zip ys).map (iZ ea eb), wfI x := fun x hx => by
  obtain ⟨p, hp, rfl⟩ := List.mem_map.mp hx
  have := List.of_mem_zip (a := p.1) (b := p.2) hp
  exact wfs_cons (wfs_iff.mp h1 _ (List.mem_map_of_mem this.1)) (wfs_cons (wfs_iff.mp h2 _ (List.mem_map_of_mem this.2)) wfs_nil)
theorem ti_zipT {eb : β → D} {ys : List β} (h : Pai env fs [mT em xs, mT eb ys]) : Pi env (iCallI gZip fs) ((xs.zip ys).map (iZ em eb)) := pi_callI h fun w => by
  rw [wfs, wfs] at w
  obtain ⟨a1, a2⟩ := wf_tup.mp w.1
  obtain ⟨b1, b2⟩ := wf_tup.mp w.2.1
  refine ⟨by simp only [gZip, zip_map2], ?_, zip_wf a2 b2⟩
  rw [List.length_map] at *
  exact Nat.le_trans (zip_len xs ys) a1
theorem ti_zipL {eb : β → D} {ys : List β} (h : Pai env fs [mL em xs, mL eb ys]) : Pi env (iCallI gZip fs) ((xs.zip ys).map (iZ em eb)) := pi_callI h fun w => by
  rw [wfs, wfs] at w
  obtain ⟨a1, a2⟩ := wf_lst.mp w.1
  obtain ⟨b1, b2⟩ := wf_lst.mp w.2.1
  refine ⟨by simp only [gZip, zip_map2], ?_, zip_wf a2 b2⟩
  rw [List.length_map] at *
  exact Nat.le_trans (zip_len xs ys) a1
def enumI (xs : List α) : List (Int × α) := xs.zipIdx.map fun p => ((p.2 : Int), p.1)
theorem ti_enumL (h : Pai env fs [mL em xs]) : Pi env (iCallI gEnum fs) ((enumI xs).map (iZ mI em)) := pi_callI h fun w => by
  obtain ⟨a1, a2⟩ := wf_lst.mp (wfs1 w)
  refine ⟨?_, ?_, fun x hx => ?_⟩
  · simp only [gEnum, enumI, List.map_map, List.zipIdx_map]
    rfl
  · simp only [enumI, List.length_map, List.length_zipIdx] at a1 ⊢; exact a1
  · obtain ⟨p, hp, rfl⟩ := List.mem_map.mp hx
    obtain ⟨q, hq, rfl⟩ := List.mem_map.mp hp
    have := List.fst_mem_of_mem_zipIdx hq
    exact wfs_cons trivial (wfs_cons (wfs_iff.mp a2 _ (List.mem_map_of_mem this)) wfs_nil)
end
end Tv
namespace Tv
open PySem PySem.Spec PyProof.Rows L2 Dv
section
variable {R α β : Type} {env env' : Env} {fa fb : ES} {rest : SS} {T : Option R} {P : R → Fl → Prop} {E : R → Env} {d x : D} {xs : List α} {em : α → D} {fs : M (List RV)} {i j : Nat}
theorem t_bl (b : Bool) : truth (mB b) = some b := rfl
theorem t_int (i : Int) : truth (mI i) = some (i != 0) := rfl
theorem t_T (xs : List α) : truth (mT em xs) = some (!xs.isEmpty) := by cases xs <;> rfl
theorem t_L (xs : List α) : truth (mL em xs) = some (!xs.isEmpty) := by cases xs <;> rfl
def okR (d : D) : Bool := pl 50 d && decide (cost d ≤ 16000000)
theorem oe_repr (h : Pas env fs [d]) : Oj (fun r => Pe env (eCall gRepr fs) (mS r)) (gateQ (okR d) (shownD d)) := fun r e => by
  obtain ⟨h1, rfl⟩ := gate_ok e
  unfold okR at h1
  exact pe_call h (by simp only [gRepr, if_pos h1]) trivial
def samQ [DecidableEq α] (em : α → D) (x y : α) : Option Bool := if x = y then gateQ (okR (em x)) true else none
theorem sam_ok [DecidableEq α] {x y : α} {b : Bool} (h : samQ em x y = some b) : b = true ∧ x = y ∧ okR (em x) = true := by
  unfold samQ at h
  split at h
  · obtain ⟨h1, h2⟩ := gate_ok h; exact ⟨h2, by assumption, h1⟩
  · cases h
theorem g_eqS (x : Str) : gEq (.str x) (.str x) = some (.bl true) := by simp [gEq, twoS]
theorem g_neS (x : Str) : gNe (.str x) (.str x) = some (.bl false) := by simp [gNe, twoS]
variable [DecidableEq α] {fr fr' : M (List RV)} {u v : α}
theorem okR_repr (h : Pas env fs [d]) (o : okR d = true) : Pe env (eCall gRepr fs) (mS (shownD d)) := oe_repr h _ (by rw [o]; rfl)
theorem oe_sam (h : Pas env fr [em u]) (g : Pas env fr' [em v]) : Oj (fun b => Pe env (eBin gEq (eCall gRepr fr) (eCall gRepr fr')) (mB b)) (samQ em u v) := fun b e => by
  obtain ⟨rfl, rfl, o⟩ := sam_ok e
  exact pe_bin (okR_repr h o).v (okR_repr g o).v (g_eqS _) trivial
theorem oe_difn (h : Pas env fr [em u]) (g : Pas env fr' [em v]) : Oj (fun b => Pe env (eBin gNe (eCall gRepr fr) (eCall gRepr fr')) (mB (!b))) (samQ em u v) := fun b e => by
  obtain ⟨rfl, rfl, o⟩ := sam_ok e
  exact pe_bin (okR_repr h o).v (okR_repr g o).v (g_neS _) trivial
theorem ob_sam (h : Pas env fr [em u]) (g : Pas env fr' [em v]) : Oj (Pb env (bCmp gEq (eCall gRepr fr) (eCall gRepr fr'))) (samQ em u v) := fun b e => by
  obtain ⟨rfl, rfl, o⟩ := sam_ok e
  exact pb_cmp (okR_repr h o).v (okR_repr g o).v (g_eqS _)
theorem ob_dif (h : Pas env fr [em u]) (g : Pas env fr' [em v]) : Oj (fun b => Pb env (bCmp gNe (eCall gRepr fr) (eCall gRepr fr')) (!b)) (samQ em u v) := fun b e => by
  obtain ⟨rfl, rfl, o⟩ := sam_ok e
  exact pb_cmp (okR_repr h o).v (okR_repr g o).v (g_neS _)
theorem lAt_ow {ρ : Rho} {xs : List D} (q : Ag env ρ) (h : env[i]? = some (ow xs)) : lAt ρ i = some xs ∧ ∀ ys, wl ys → lPut ρ i ys = ρ.set i (some (.ow ys)) := by
  obtain ⟨e, w⟩ := q.get h
  exact ⟨by unfold lAt; rw [e], fun ys _ => by unfold lPut; rw [e]⟩
theorem lAt_bo {ρ : Rho} {xs : List D} (q : Ag env ρ) (h : env[i]? = some (bo xs)) : lAt ρ i = some xs ∧ ∀ ys, wl ys → lPut ρ i ys = ρ.set i (some (.bo ys)) := by
  obtain ⟨e, w⟩ := q.get h
  exact ⟨by unfold lAt; rw [e], fun ys _ => by unfold lPut; rw [e]⟩
theorem go_mt {ch : Ch} {xs ys : List D} {ds : List D} {r : D} (h : env[i]? = some (ow xs)) (ha : Pai env fs ds) (hc : wl xs → wfs ds → ch xs ds = some (r, ys) ∧ wl ys) (g : Go (env.set i (ow ys)) rest T P E) : Go env (sSeq (sExpr (eMt i ch fs)) rest) T P E := go_seq (fun ρ q => by
  obtain ⟨e, w⟩ := q.get h
  obtain ⟨e2, w2⟩ := ha ρ q
  obtain ⟨h1, h2⟩ := hc w w2
  obtain ⟨l1, l2⟩ := lAt_ow q h
  exact ⟨_, by simp only [sExpr, eMt, M.bind, l1, e2, imms_im, h1, l2 ys h2, M.ret], q.set h2⟩) g
def pushQ (xs : List β) (x : β) : Option (List β) := gateQ (decide (xs.length < 1000000)) (xs ++ [x])
theorem go_append {x : β} {xs : List β} {em : β → D} {k : List β → Option R} (h : env[i]? = some (ow (xs.map em))) (ha : Pe env fa (em x)) (g : ∀ ys, Go (env.set i (ow (ys.map em))) rest (k ys) P E) : Go env (sSeq (sExpr (eMt i cAppend (aCons fa aNil))) rest) ((pushQ xs x).bind k) P E := fun r e => by
  cases e1 : pushQ xs x with
  | none => rw [e1] at e; cases e
  | some ys =>
    rw [e1] at e
    obtain ⟨h1, rfl⟩ := gate_ok e1
    have h1 := of_decide_eq_true h1
    refine go_mt (r := .non) h (pai_cons ha pai_nil) (fun w1 w2 => ?_) (g _) r e
    refine ⟨by simp only [cAppend, List.length_map, if_pos h1, List.map_append, List.map_cons, List.map_nil], ?_, ?_⟩
    · simp only [List.map_append, List.length_append, List.length_map, List.length_cons, List.length_nil]; omega
    · rw [List.map_append]; exact wfs_app w1.2 w2
theorem go_extend {xs ys : List β} {em : β → D} {k : List β → Option R} (h : env[i]? = some (ow (xs.map em))) (ha : Pe env fa (mL em ys)) (g : ∀ zs, Go (env.set i (ow (zs.map em))) rest (k zs) P E) : Go env (sSeq (sExpr (eMt i cExtend (aCons fa aNil))) rest) ((catQ xs ys).bind k) P E := fun r e => by
  cases e1 : catQ xs ys with
  | none => rw [e1] at e; cases e
  | some zs =>
    rw [e1] at e
    obtain ⟨h1, rfl⟩ := gate_ok e1
    have h1 := of_decide_eq_true h1
    refine go_mt (r := .non) h (pai_cons ha pai_nil) (fun w1 w2 => ?_) (g _) r e
    refine ⟨by simp only [cExtend, List.length_map, if_pos h1]; rw [← List.map_append], ?_, ?_⟩
    · simp only [List.length_map, List.length_append]; exact h1
    · rw [List.map_append]; exact wfs_app w1.2 (wf_lst.mp (wfs1 w2)).2
def setQ (xs : List β) (k : Int) (x : β) : Option (List β) := (ixN xs.length k).map fun j => xs.set j x
theorem go_setIx {xs : List β} {x : β} {em : β → D} {t : Int} {k : List β → Option R} (h : env[i]? = some (ow (xs.map em))) (ha : Pe env fa (em x)) (hb : Pv env fb (.int t)) (g : ∀ zs, Go (env.set i (ow (zs.map em))) rest (k zs) P E) : Go env (sSeq (sSetIx i fa fb) rest) ((setQ xs t x).bind k) P E := fun r e => by
  cases e1 : setQ xs t x with
  | none => rw [e1] at e; cases e
  | some zs =>
    rw [e1] at e
    unfold setQ at e1
    cases e2 : ixN xs.length t with
    | none => rw [e2] at e1; cases e1
    | some j =>
      rw [e2] at e1
      cases e1
      refine go_seq (fun ρ q => ?_) (g _) r e
      obtain ⟨e3, w⟩ := q.get h
      obtain ⟨e4, w4⟩ := ha ρ q
      obtain ⟨⟨r5, e5, l5⟩, _⟩ := hb ρ q
      obtain ⟨l1, l2⟩ := lAt_ow q h
      have ww : wl ((xs.set j x).map em) := by
        refine ⟨by simpa using w.1, wfs_iff.mpr fun y hy => ?_⟩
        obtain ⟨z, hz, rfl⟩ := List.mem_map.mp hy
        rcases List.mem_or_eq_of_mem_set hz with hz | rfl
        · exact wfs_iff.mp w.2 _ (List.mem_map_of_mem hz)
        · exact w4
      refine ⟨_, ?_, q.set ww⟩
      simp only [sSetIx, M.bind, e4, imm, eVar, e3, e5, val, l5, Dv.isInt, M.opt, l1, List.length_map, e2]
      rw [← List.map_set, l2 _ ww]
theorem go_aug {g : D → D → Option D} {y z : D} (h : env[i]? = some (im x)) (ha : Pv env fa y) (hg : g x y = some z) (w : wf z) (k : Go (env.set i (im z)) rest T P E) : Go env (sSeq (sAug i g fa) rest) T P E := go_seq (fun ρ q => by
  obtain ⟨e, _⟩ := q.get h
  obtain ⟨⟨r, e1, l1⟩, _⟩ := ha ρ q
  refine ⟨_, ?_, q.set (s := .im z) w⟩
  unfold sAug
  rw [e]
  simp only [M.bind, e1, val, l1, hg, M.opt, setIm_go e trivial, M.ret]) k
theorem go_augG {c : Int → Int → Bool} {f : Int → Int → Int} {u v : Int} {k : Int → Option R} (h : env[i]? = some (im (.int u))) (ha : Pv env fa (.int v)) (g : ∀ z, Go (env.set i (im (.int z))) rest (k z) P E) : Go env (sSeq (sAug i (gI c fun i j => .int (f i j)) fa) rest) ((gateQ (c u v) (f u v)).bind k) P E := fun r e => by
  cases e1 : gateQ (c u v) (f u v) with
  | none => rw [e1] at e; cases e
  | some z =>
    rw [e1] at e
    obtain ⟨h1, rfl⟩ := gate_ok e1
    exact go_aug (z := .int (f u v)) h ha (by simp only [gI, h1]; rfl) trivial (g _) r e
theorem go_augM {u v : Int} {k : Int → Option R} (h : env[i]? = some (im (.int u))) (ha : Pv env fa (.int v)) (g : ∀ z, Go (env.set i (im (.int z))) rest (k z) P E) : Go env (sSeq (sAug i gMulS fa) rest) ((mulSQ u v).bind k) P E := go_augG (c := cMulS) (f := fun i j => i * j) h ha g
theorem go_asg {g : IV → M Unit} {sl : List Nat} (h : Pe env fa d) (t : Tg env g sl (.im d) env') (k : Go env' rest T P E) : Go env (sSeq (sAsg fa g) rest) T P E := go_seq (fun ρ q => by
  obtain ⟨e, w⟩ := h ρ q
  obtain ⟨ρ', e2, a, _⟩ := t ρ q w
  exact ⟨ρ', by simp only [sAsg, M.bind, e, imm, e2, M.ret], a⟩) k
inductive Pp (env : Env) : M PV → Kn → Prop
  | v {fa : ES} {d : D} : Pe env fa d → Pp env (pV fa) (im d)
  | n {f : M (List D)} {xs : List D} : Pn env f xs → Pp env (pN f) (ow xs)
theorem pp_go {f : M PV} {k : Kn} (h : Pp env f k) : ∀ ρ, Ag env ρ → ∃ x, f ρ = .ok x ρ ∧ ∀ (i : Nat) (env1 : Env) (ρ1 : Rho), Ag env1 ρ1 → nbE env1 i = true → ∃ ρ2, putP i x ρ1 = .ok () ρ2 ∧ Ag (env1.set i k) ρ2 := fun ρ q => by
  cases h with
  | @v fa d h =>
    obtain ⟨e, w⟩ := h ρ q
    refine ⟨.v (.im d), by simp only [pV, M.bind, e, M.ret], fun i env1 ρ1 q1 n => ?_⟩
    obtain ⟨x, h1, h2⟩ := nb_of q1 n
    exact ⟨_, by simp only [putP, M.bind, imm, setIm_go h1 h2], q1.set w⟩
  | @n f xs h =>
    obtain ⟨e, w⟩ := h ρ q
    refine ⟨.f xs, by simp only [pN, M.bind, e, M.ret], fun i env1 ρ1 q1 n => ?_⟩
    obtain ⟨x, h1, h2⟩ := nb_of q1 n
    exact ⟨_, by simp only [putP, setOw_go h1 h2], q1.set w⟩
theorem go_par2 {f g : M PV} {k1 k2 : Kn} (h1 : Pp env f k1) (h2 : Pp env g k2) (n1 : nbE env i = true) (n2 : nbE (env.set i k1) j = true) (k : Go ((env.set i k1).set j k2) rest T P E) : Go env (sSeq (sPar2 i j f g) rest) T P E := go_seq (fun ρ q => by
  obtain ⟨x, e1, p1⟩ := pp_go h1 ρ q
  obtain ⟨y, e2, p2⟩ := pp_go h2 ρ q
  obtain ⟨ρ1, e3, a1⟩ := p1 i env ρ q n1
  obtain ⟨ρ2, e4, a2⟩ := p2 j _ ρ1 a1 n2
  exact ⟨ρ2, by simp only [sPar2, M.bind, e1, e2, e3, e4, M.ret], a2⟩) k
end
def entryE (m : Nat) (svs : List SV) : Env := svs.map (fun s => .k (some s)) ++ List.replicate (m - svs.length) un
theorem ag_un : ∀ n, Ag (List.replicate n un) (List.replicate n none)
  | 0 => .nil
  | n + 1 => .cons (by exact rfl) (ag_un n)
theorem ag_entry {m : Nat} : ∀ {svs : List SV} {n : Nat}, (∀ s ∈ svs, wfS s) → Ag (svs.map (fun s => .k (some s)) ++ List.replicate n un) (svs.map some ++ List.replicate n none)
  | [], n, _ => ag_un n
  | s :: svs, n, w => .cons ⟨rfl, w s List.mem_cons_self⟩ (ag_entry (m := m) fun x hx => w x (List.mem_cons_of_mem _ hx))
def flR : Fl → Option FR
  | .nx => some (.im .non)
  | .rt d => some (.im d)
  | .rn xs => some (.nw xs)
  | _ => none
def wfFR : FR → Prop
  | .im d => wf d
  | .nw xs => wl xs
theorem fd_ok {R : Type} {n m : Nat} {s : SS} {svs : List SV} {T : Option R} {fr : R → FR} {E : R → Env} (h : Go (entryE m svs) s T (fun r fl => flR fl = some (fr r)) E) (hn : svs.length = n) (w : ∀ s ∈ svs, wfS s) :
    Oj (fun r => defF n m s svs = some (fr r, bosE (E r)) ∧ wfFR (fr r)) T := fun r e => by
  obtain ⟨fl, ρ', e1, p, wf, a⟩ := h r e (entry m svs) (ag_entry (m := m) w)
  unfold defF
  rw [decide_eq_true hn]
  unfold runF
  rw [e1, ← a.bos]
  generalize fr r = f at p ⊢
  cases fl with
  | nx => cases p; exact ⟨rfl, trivial⟩
  | rt d => cases p; exact ⟨rfl, wf⟩
  | rn xs => cases p; exact ⟨rfl, wf⟩
  | bk => cases p
  | ct => cases p
theorem wf_svs {ds : List D} (w : wfs ds) : ∀ s ∈ ds.map SV.im, wfS s := fun s hs => by
  obtain ⟨d, hd, rfl⟩ := List.mem_map.mp hs
  exact wfs_iff.mp w d hd
section
variable {α β : Type} {env : Env} {fa fb : ES} {ds : List D} {d : D} {em : α → D}
theorem pe_ixD {k : Int} (ha : Pv env fa (.tup ds)) (hb : Pv env fb (.int k)) (h : atI ds k = some d) : Pe env (eBin gIx fa fb) d := pe_binW ha hb fun w _ => ⟨h, wfs_iff.mp (wf_tup.mp w).2 _ (atI_mem h)⟩
theorem g_isN_O (x : Option α) (h : ∀ y, isNon (em y) = false) : gIsN (mO em x) .non = some (.bl x.isNone) := by
  cases x with
  | none => rfl
  | some y => simp [gIsN, mO, h y]
theorem g_notN_O (x : Option α) (h : ∀ y, isNon (em y) = false) : gNotN (mO em x) .non = some (.bl (!x.isNone)) := by
  cases x with
  | none => rfl
  | some y => simp [gNotN, mO, h y]
theorem g_isB (a b : Bool) : gIsB (.bl a) (.bl b) = some (.bl (decide (a = b))) := rfl
theorem g_notB (a b : Bool) : gNotB (.bl a) (.bl b) = some (.bl (!decide (a = b))) := rfl
end
end Tv
namespace Tv
open PySem PySem.Spec PyProof.Rows L2 Dv
theorem go_b {R α : Type} {env : Env} {s : SS} {P : R → Fl → Prop} {E : R → Env} {Q : α → Prop} {t : Option α} {k : α → Option R} (g : ∀ x, Q x → Go env s (k x) P E) (h : Oj Q t) : Go env s (t.bind k) P E := oj_bind h g
theorem oj_b {α β : Type} {P : α → Prop} {Q : β → Prop} {t : Option α} {k : α → Option β} (g : ∀ x, P x → Oj Q (k x)) (h : Oj P t) : Oj Q (t.bind k) := oj_bind h g
theorem bitAnd_c (i j : Int) : gAnd (.int i) (.int j) = some (.int (Builtin.bitAnd i j)) := rfl
end Tv
namespace Tv
open PySem PySem.Spec PyProof.Rows L2 Dv
abbrev mHn : Unit → List D := fun _ => []
abbrev mHc {α β : Type} (e : α → D) (f : β → List D) : α × β → List D := fun p => e p.1 :: f p.2
abbrev mHL {β : Type} (f : β → List D) : β → D := fun p => .lst (f p)
structure EqR {β : Type} (f : β → List D) (n : Nat) : Prop where
  pl : ∀ m x, n ≤ m → pls m (f x) = true
  eq : ∀ x y, eqbs (f x) (f y) = true ↔ x = y
theorem eqHn : EqR mHn 0 := ⟨fun m x _ => by rw [pls.eq_def], fun x y => by simp [eqbs]⟩
theorem eqHc {α β : Type} {e : α → D} {f : β → List D} {n k : Nat} (h : EqD e n) (g : EqR f k) : EqR (mHc e f) (n + k) := ⟨fun m x hm => by
  rw [pls.eq_def]
  simp only [h.pl m x.1 (by omega), g.pl m x.2 (by omega), Bool.and_self], fun x y => by
  rw [eqbs, Bool.and_eq_true, h.eq, g.eq]
  exact Prod.ext_iff.symm⟩
theorem eqHL {β : Type} {f : β → List D} {n : Nat} (h : EqR f n) : EqD (mHL f) (n + 1) := ⟨fun m x hm => by
  obtain ⟨j, rfl⟩ : ∃ j, m = j + 1 := ⟨m - 1, by omega⟩
  rw [pl.eq_def]
  exact h.pl j x (by omega), fun x y => by rw [eqb]; exact h.eq x y⟩
end Tv
namespace Tv
open PySem PySem.Spec PyProof.Rows L2 Dv
def Re (env : Env) (f : ES) (d : D) (env' : Env) : Prop := ∀ ρ, Ag env ρ → (∃ ρ', f ρ = .ok (.im d) ρ' ∧ Ag env' ρ') ∧ wf d
def Rb (env : Env) (g : M Bool) (b : Bool) (env' : Env) : Prop := ∀ ρ, Ag env ρ → ∃ ρ', g ρ = .ok b ρ' ∧ Ag env' ρ'
def Rn (env : Env) (f : M (List D)) (xs : List D) (env' : Env) : Prop := ∀ ρ, Ag env ρ → (∃ ρ', f ρ = .ok xs ρ' ∧ Ag env' ρ') ∧ wl xs
def Ra (env : Env) (f : M (List RV)) (ds : List D) (env' : Env) : Prop := ∀ ρ, Ag env ρ → (∃ ρ', f ρ = .ok (ds.map .im) ρ' ∧ Ag env' ρ') ∧ wfs ds
def Ri (env : Env) (f : M (List IV)) (xs : List IV) (env' : Env) : Prop := ∀ ρ, Ag env ρ → (∃ ρ', f ρ = .ok xs ρ' ∧ Ag env' ρ') ∧ xs.length ≤ 1000000 ∧ ∀ x ∈ xs, wfI x
def Ro (env : Env) (f : M (Option Int)) (o : Option Int) (env' : Env) : Prop := ∀ ρ, Ag env ρ → ∃ ρ', f ρ = .ok o ρ' ∧ Ag env' ρ'
section
variable {env e1 e2 e3 : Env} {fa fb fc : ES} {ga gb : M Bool} {x y z d : D} {a b c : Bool} {fs : M (List RV)} {ds xs : List D} {f : M (List D)} {fi : M (List IV)} {ivs : List IV}
theorem Pe.r (h : Pe env fa d) : Re env fa d env := fun ρ q => ⟨⟨ρ, (h ρ q).1, q⟩, (h ρ q).2⟩
theorem Pb.r (h : Pb env ga b) : Rb env ga b env := fun ρ q => ⟨ρ, h ρ q, q⟩
theorem Pn.r (h : Pn env f xs) : Rn env f xs env := fun ρ q => ⟨⟨ρ, (h ρ q).1, q⟩, (h ρ q).2⟩
theorem Pai.r (h : Pai env fs ds) : Ra env fs ds env := fun ρ q => ⟨⟨ρ, (h ρ q).1, q⟩, (h ρ q).2⟩
theorem Pi.r (h : Pi env fi ivs) : Ri env fi ivs env := fun ρ q => ⟨⟨ρ, (h ρ q).1, q⟩, (h ρ q).2⟩
theorem Po.r {fo : M (Option Int)} {o : Option Int} (h : Po env fo o) : Ro env fo o env := fun ρ q => ⟨ρ, h ρ q, q⟩
theorem re_bin {g : D → D → Option D} (ha : Re env fa x e1) (hb : Re e1 fb y e2) (h : g x y = some d) (w : wf d) : Re env (eBin g fa fb) d e2 := fun ρ q => by
  obtain ⟨⟨ρ1, h1, a1⟩, _⟩ := ha ρ q
  obtain ⟨⟨ρ2, h2, a2⟩, _⟩ := hb ρ1 a1
  exact ⟨⟨ρ2, by simp only [eBin, M.bind, h1, h2, val, look, h, M.opt, M.ret], a2⟩, w⟩
theorem re_binW {g : D → D → Option D} (ha : Re env fa x e1) (hb : Re e1 fb y e2) (h : wf x → wf y → g x y = some d ∧ wf d) : Re env (eBin g fa fb) d e2 := fun ρ q => by
  obtain ⟨⟨ρ1, h1, a1⟩, w1⟩ := ha ρ q
  obtain ⟨⟨ρ2, h2, a2⟩, w2⟩ := hb ρ1 a1
  exact re_bin ha hb (h w1 w2).1 (h w1 w2).2 ρ q
theorem re_un {g : D → Option D} (ha : Re env fa x e1) (h : g x = some d) (w : wf d) : Re env (eUn g fa) d e1 := fun ρ q => by
  obtain ⟨⟨ρ1, h1, a1⟩, _⟩ := ha ρ q
  exact ⟨⟨ρ1, by simp only [eUn, M.bind, h1, val, look, h, M.opt, M.ret], a1⟩, w⟩
theorem rb_val (ha : Re env fa x e1) (h : truth x = some b) : Rb env (bVal fa) b e1 := fun ρ q => by
  obtain ⟨⟨ρ1, h1, a1⟩, _⟩ := ha ρ q
  exact ⟨ρ1, by simp only [bVal, M.bind, h1, val, look, h, M.opt], a1⟩
theorem rb_cmp {g : D → D → Option D} (ha : Re env fa x e1) (hb : Re e1 fb y e2) (h : g x y = some (.bl b)) : Rb env (bCmp g fa fb) b e2 := fun ρ q => by
  obtain ⟨⟨ρ2, h2, a2⟩, _⟩ := re_bin (d := .bl b) ha hb h trivial ρ q
  exact ⟨ρ2, by simp only [bCmp, M.bind, h2, val, look, isBl, M.opt], a2⟩
theorem rb_bl (ha : Re env fa (.bl b) e1) : Rb env (bBl fa) b e1 := fun ρ q => by
  obtain ⟨⟨ρ1, h1, a1⟩, _⟩ := ha ρ q
  exact ⟨ρ1, by simp only [bBl, M.bind, h1, val, look, isBl, M.opt], a1⟩
theorem rb_not (ha : Rb env ga a e1) : Rb env (bNot ga) (!a) e1 := fun ρ q => by
  obtain ⟨ρ1, h1, a1⟩ := ha ρ q
  exact ⟨ρ1, by simp only [bNot, M.bind, h1, M.ret], a1⟩
theorem or_and {β : Type} {bv : β → Bool} {E : β → Env} {t u : Option β} (ha : Rb env ga a e1) (h1 : a = true → Oj (fun r => Rb e1 gb (bv r) (E r)) t) (h2 : a = false → Oj (fun r => bv r = false ∧ Wk e1 (E r)) u) : Oj (fun r => Rb env (bAnd ga gb) (bv r) (E r)) (if a then t else u) := fun r e ρ q => by
  obtain ⟨ρ1, p1, a1⟩ := ha ρ q
  cases a with
  | true =>
    obtain ⟨ρ2, p2, a2⟩ := h1 rfl r e ρ1 a1
    exact ⟨ρ2, by simp only [bAnd, M.bind, p1]; exact p2, a2⟩
  | false =>
    obtain ⟨p2, w⟩ := h2 rfl r e
    exact ⟨ρ1, by simp only [bAnd, M.bind, p1, p2]; rfl, a1.wk w⟩
theorem or_or {β : Type} {bv : β → Bool} {E : β → Env} {t u : Option β} (ha : Rb env ga a e1) (h1 : a = false → Oj (fun r => Rb e1 gb (bv r) (E r)) t) (h2 : a = true → Oj (fun r => bv r = true ∧ Wk e1 (E r)) u) : Oj (fun r => Rb env (bOr ga gb) (bv r) (E r)) (if a then u else t) := fun r e ρ q => by
  obtain ⟨ρ1, p1, a1⟩ := ha ρ q
  cases a with
  | false =>
    obtain ⟨ρ2, p2, a2⟩ := h1 rfl r e ρ1 a1
    exact ⟨ρ2, by simp only [bOr, M.bind, p1]; exact p2, a2⟩
  | true =>
    obtain ⟨p2, w⟩ := h2 rfl r e
    exact ⟨ρ1, by simp only [bOr, M.bind, p1, p2]; rfl, a1.wk w⟩
theorem or_if {β : Type} {dv : β → D} {E : β → Env} {t u : Option β} (ha : Rb env ga a e1) (h1 : a = true → Oj (fun r => Re e1 fa (dv r) (E r)) t) (h2 : a = false → Oj (fun r => Re e1 fb (dv r) (E r)) u) : Oj (fun r => Re env (eIf ga fa fb) (dv r) (E r)) (if a then t else u) := fun r e ρ q => by
  obtain ⟨ρ1, p1, a1⟩ := ha ρ q
  cases a with
  | true =>
    obtain ⟨⟨ρ2, p2, a2⟩, w⟩ := h1 rfl r e ρ1 a1
    exact ⟨⟨ρ2, by simp only [eIf, M.bind, p1]; exact p2, a2⟩, w⟩
  | false =>
    obtain ⟨⟨ρ2, p2, a2⟩, w⟩ := h2 rfl r e ρ1 a1
    exact ⟨⟨ρ2, by simp only [eIf, M.bind, p1]; exact p2, a2⟩, w⟩
theorem ra_nil : Ra env aNil [] env := fun ρ q => ⟨⟨ρ, rfl, q⟩, wfs_nil⟩
theorem ra_cons (ha : Re env fa x e1) (h : Ra e1 fs ds e2) : Ra env (aCons fa fs) (x :: ds) e2 := fun ρ q => by
  obtain ⟨⟨ρ1, h1, a1⟩, w1⟩ := ha ρ q
  obtain ⟨⟨ρ2, h2, a2⟩, w2⟩ := h ρ1 a1
  exact ⟨⟨ρ2, by simp only [aCons, M.bind, h1, h2, M.ret, List.map_cons], a2⟩, wfs_cons w1 w2⟩
theorem ra_star (ha : Re env fa x e1) (hi : items x = some xs) (h : Ra e1 fs ds e2) : Ra env (aStar fa fs) (xs ++ ds) e2 := fun ρ q => by
  obtain ⟨⟨ρ1, h1, a1⟩, w1⟩ := ha ρ q
  obtain ⟨⟨ρ2, h2, a2⟩, w2⟩ := h ρ1 a1
  exact ⟨⟨ρ2, by simp only [aStar, M.bind, h1, h2, val, look, hi, M.opt, M.ret, List.map_append], a2⟩, wfs_app (wf_items w1 hi) w2⟩
theorem re_tup (h : Ra env fs ds e1) (hf : ds.length ≤ 1000000) : Re env (eTup fs) (.tup ds) e1 := fun ρ q => by
  obtain ⟨⟨ρ1, e, a1⟩, w⟩ := h ρ q
  exact ⟨⟨ρ1, by simp only [eTup, M.bind, e, imms_im, M.opt, few, if_pos hf, M.ret], a1⟩, wf_tup.mpr ⟨hf, w⟩⟩
theorem rn_lst (h : Ra env fs ds e1) (hf : ds.length ≤ 1000000) : Rn env (nLst fs) ds e1 := fun ρ q => by
  obtain ⟨⟨ρ1, e, a1⟩, w⟩ := h ρ q
  exact ⟨⟨ρ1, by simp only [nLst, M.bind, e, imms_im, M.opt, few, if_pos hf], a1⟩, hf, w⟩
theorem re_n (h : Rn env f ds e1) : Re env (eN f) (.lst ds) e1 := fun ρ q => by
  obtain ⟨⟨ρ1, e, a1⟩, w⟩ := h ρ q
  exact ⟨⟨ρ1, by simp only [eN, M.bind, e, M.ret], a1⟩, wf_lst.mpr w⟩
theorem re_call {g : List D → Option D} (h : Ra env fs ds e1) (hg : wfs ds → g ds = some d ∧ wf d) : Re env (eCall g fs) d e1 := fun ρ q => by
  obtain ⟨⟨ρ1, e, a1⟩, w⟩ := h ρ q
  exact ⟨⟨ρ1, by simp only [eCall, M.bind, e, vals, looks_im, (hg w).1, M.opt, M.ret], a1⟩, (hg w).2⟩
theorem rn_call {g : List D → Option (List D)} {es : List D} (h : Ra env fs ds e1) (hg : wfs ds → g ds = some es ∧ wl es) : Rn env (nCall g fs) es e1 := fun ρ q => by
  obtain ⟨⟨ρ1, e, a1⟩, w⟩ := h ρ q
  exact ⟨⟨ρ1, by simp only [nCall, M.bind, e, vals, looks_im, (hg w).1, M.opt], a1⟩, (hg w).2⟩
theorem ro_some {i : Int} (ha : Re env fa (.int i) e1) : Ro env (oSome fa) (some i) e1 := fun ρ q => by
  obtain ⟨⟨ρ1, h1, a1⟩, _⟩ := ha ρ q
  exact ⟨ρ1, by simp only [oSome, M.bind, h1, val, look, Dv.isInt, M.opt, M.ret], a1⟩
theorem re_cutT {α : Type} {em : α → D} {us : List α} {fl fh : M (Option Int)} {lo hi : Option Int} (ha : Re env fa (mT em us) e1) (hl : Ro e1 fl lo e2) (hh : Ro e2 fh hi e3) : Re env (eSl fa fl fh) (mT em (cut us lo hi)) e3 := fun ρ q => by
  obtain ⟨⟨ρ1, h1, a1⟩, w⟩ := ha ρ q
  obtain ⟨ρ2, h2, a2⟩ := hl ρ1 a1
  obtain ⟨ρ3, h3, a3⟩ := hh ρ2 a2
  refine ⟨⟨ρ3, by simp only [eSl, M.bind, h1, h2, h3, val, look, gSl, M.opt, M.ret, cut_map], a3⟩, ?_⟩
  have := wl_cut (lo := lo) (hi := hi) (wf_tup.mp w)
  rw [cut_map] at this
  exact wf_tup.mpr this
theorem re_cutL {α : Type} {em : α → D} {us : List α} {fl fh : M (Option Int)} {lo hi : Option Int} (ha : Re env fa (mL em us) e1) (hl : Ro e1 fl lo e2) (hh : Ro e2 fh hi e3) : Re env (eSl fa fl fh) (mL em (cut us lo hi)) e3 := fun ρ q => by
  obtain ⟨⟨ρ1, h1, a1⟩, w⟩ := ha ρ q
  obtain ⟨ρ2, h2, a2⟩ := hl ρ1 a1
  obtain ⟨ρ3, h3, a3⟩ := hh ρ2 a2
  refine ⟨⟨ρ3, by simp only [eSl, M.bind, h1, h2, h3, val, look, gSl, M.opt, M.ret, cut_map], a3⟩, ?_⟩
  have := wl_cut (lo := lo) (hi := hi) (wf_lst.mp w)
  rw [cut_map] at this
  exact wf_lst.mpr this
theorem rn_cutL {α : Type} {em : α → D} {us : List α} {fl fh : M (Option Int)} {lo hi : Option Int} (ha : Re env fa (mL em us) e1) (hl : Ro e1 fl lo e2) (hh : Ro e2 fh hi e3) : Rn env (nSl fa fl fh) ((cut us lo hi).map em) e3 := fun ρ q => by
  obtain ⟨⟨ρ1, h1, a1⟩, w⟩ := ha ρ q
  obtain ⟨ρ2, h2, a2⟩ := hl ρ1 a1
  obtain ⟨ρ3, h3, a3⟩ := hh ρ2 a2
  refine ⟨⟨ρ3, by simp only [nSl, M.bind, h1, h2, h3, val, look, M.opt, cut_map], a3⟩, ?_⟩
  have := wl_cut (lo := lo) (hi := hi) (wf_lst.mp w)
  rw [cut_map] at this
  exact this
section
variable {α : Type} {em : α → D} {us vs : List α}
theorem or_ixT {i : Int} (ha : Re env fa (mT em us) e1) (hb : Re e1 fb (.int i) e2) : Oj (fun r => Re env (eBin gIx fa fb) (em r) e2) (ixQ us i) := fun r e => re_binW ha hb fun w _ =>
  ⟨by simp only [gIx, atI_map, e, Option.map_some], wfs_iff.mp (wf_tup.mp w).2 _ (List.mem_map_of_mem (atI_mem e))⟩
theorem or_ixL {i : Int} (ha : Re env fa (mL em us) e1) (hb : Re e1 fb (.int i) e2) : Oj (fun r => Re env (eBin gIx fa fb) (em r) e2) (ixQ us i) := fun r e => re_binW ha hb fun w _ =>
  ⟨by simp only [gIx, atI_map, e, Option.map_some], wfs_iff.mp (wf_lst.mp w).2 _ (List.mem_map_of_mem (atI_mem e))⟩
theorem or_catT (ha : Re env fa (mT em us) e1) (hb : Re e1 fb (mT em vs) e2) : Oj (fun r => Re env (eBin gAdd fa fb) (mT em r) e2) (catQ us vs) := fun r e => by
  obtain ⟨h, rfl⟩ := gate_ok e
  have h := of_decide_eq_true h
  exact re_binW ha hb fun w1 w2 => ⟨by simp only [gAdd, List.length_map, if_pos h]; rw [← List.map_append], wf_tup.mpr ⟨by simpa using h, by rw [List.map_append]; exact wfs_app (wf_tup.mp w1).2 (wf_tup.mp w2).2⟩⟩
theorem or_catL (ha : Re env fa (mL em us) e1) (hb : Re e1 fb (mL em vs) e2) : Oj (fun r => Re env (eBin gAdd fa fb) (mL em r) e2) (catQ us vs) := fun r e => by
  obtain ⟨h, rfl⟩ := gate_ok e
  have h := of_decide_eq_true h
  exact re_binW ha hb fun w1 w2 => ⟨by simp only [gAdd, List.length_map, if_pos h]; rw [← List.map_append], wf_lst.mpr ⟨by simpa using h, by rw [List.map_append]; exact wfs_app (wf_lst.mp w1).2 (wf_lst.mp w2).2⟩⟩
theorem ri_T (ha : Re env fa (mT em us) e1) : Ri env (iSeq fa) (us.map (iM em)) e1 := fun ρ q => by
  obtain ⟨⟨ρ1, e, a1⟩, w⟩ := ha ρ q
  obtain ⟨w1, w2⟩ := wf_tup.mp w
  refine ⟨⟨ρ1, by simp only [iSeq, M.bind, e, imm]; show Res.ok (List.map IV.im (List.map em us)) ρ1 = _; rw [List.map_map]; rfl, a1⟩, by simpa using w1, fun x hx => ?_⟩
  obtain ⟨y, hy, rfl⟩ := List.mem_map.mp hx
  exact wfs_iff.mp w2 _ (List.mem_map_of_mem hy)
theorem ri_L (ha : Re env fa (mL em us) e1) : Ri env (iSeq fa) (us.map (iM em)) e1 := fun ρ q => by
  obtain ⟨⟨ρ1, e, a1⟩, w⟩ := ha ρ q
  obtain ⟨w1, w2⟩ := wf_lst.mp w
  refine ⟨⟨ρ1, by simp only [iSeq, M.bind, e, imm]; show Res.ok (List.map IV.im (List.map em us)) ρ1 = _; rw [List.map_map]; rfl, a1⟩, by simpa using w1, fun x hx => ?_⟩
  obtain ⟨y, hy, rfl⟩ := List.mem_map.mp hx
  exact wfs_iff.mp w2 _ (List.mem_map_of_mem hy)
theorem ri_rng1 {b : Int} (h : Ra env fs [.int b] e1) : Oj (fun r => Ri env (iCall rng1 fs) (r.map iI) e1) (rngQ 0 b) := fun r e ρ q => by
  obtain ⟨⟨ρ1, h1, a1⟩, _⟩ := h ρ q
  obtain ⟨ok, rfl⟩ := gate_ok e
  obtain ⟨k1, k2, k3⟩ := pi_rng1 (env := [] ) (fs := fun ρ => .ok [.im (.int b)] ρ) (b := b) (fun ρ q => ⟨⟨_, rfl, rfl⟩, wfs_cons trivial wfs_nil⟩) ok [] .nil
  refine ⟨⟨ρ1, ?_, a1⟩, k2, k3⟩
  obtain ⟨o1, o2, o3⟩ := rngOk_ok ok
  simp only [iCall, M.bind, h1, vals, looks_im, M.opt, rng1, if_pos o2, rgF, List.map_map, Int.sub_zero]
  congr 2
  funext i
  simp
end
theorem re_tupleL {α : Type} {em : α → D} {us : List α} (ha : Re env fa (mL em us) e1) : Re env (eCall gTuple (aCons fa aNil)) (mT em us) e1 := re_call (ra_cons ha ra_nil) fun w => ⟨rfl, wf_tup.mpr (wf_lst.mp (wfs1 w))⟩
theorem re_tupleT {α : Type} {em : α → D} {us : List α} (ha : Re env fa (mT em us) e1) : Re env (eCall gTuple (aCons fa aNil)) (mT em us) e1 := re_call (ra_cons ha ra_nil) fun w => ⟨rfl, wfs1 w⟩
theorem or_sortedR {rows : List (List Int)} (ha : Re env fa (mL (mT mI) rows) e1) : Oj (fun r => Rn env (nCall gSortedA (aCons fa aNil)) (r.map (mT mI)) e1) (srtRQ rows) := fun r e => by
  obtain ⟨h1, rfl⟩ := gate_ok e
  exact rn_call (ra_cons ha ra_nil) (srtR_fact h1)
theorem rn_sortedL {us : List Int} (ha : Re env fa (mL mI us) e1) : Rn env (nCall gSortedA (aCons fa aNil)) ((sortI us).map mI) e1 := rn_call (ra_cons ha ra_nil) srtI_fact
inductive Lent : Kn → (List D → Kn) → List D → Prop
  | ow {xs : List D} : Lent (ow xs) Tv.ow xs
  | bo {xs : List D} : Lent (bo xs) Tv.bo xs
theorem lent_at {i : Nat} {k : Kn} {K : List D → Kn} {ρ : Rho} (l : Lent k K xs) (q : Ag env ρ) (h : env[i]? = some k) : eVar i ρ = .ok (.al i) ρ ∧ toSV ρ (.al i) = some (.bo xs) ∧ lAt ρ i = some xs ∧ ∀ ys, wl ys → lPut ρ i ys = ρ.set i (some (match K [] with
      | .k (some (.ow _)) => .ow ys
      | _ => .bo ys)) ∧ Ag (env.set i (K ys)) (lPut ρ i ys) := by
  cases l with
  | ow =>
    obtain ⟨e, w⟩ := q.get h
    refine ⟨by unfold eVar; rw [e], by simp only [toSV, e], by unfold lAt; rw [e], fun ys wy => ?_⟩
    have : lPut ρ i ys = ρ.set i (some (.ow ys)) := by unfold lPut; rw [e]
    exact ⟨this, by rw [this]; exact q.set (s := .ow ys) wy⟩
  | bo =>
    obtain ⟨e, w⟩ := q.get h
    refine ⟨by unfold eVar; rw [e], by simp only [toSV, e], by unfold lAt; rw [e], fun ys wy => ?_⟩
    have : lPut ρ i ys = ρ.set i (some (.bo ys)) := by unfold lPut; rw [e]
    exact ⟨this, by rw [this]; exact q.set (s := .bo ys) wy⟩
theorem noAl_im (i : Nat) : ∀ ds : List D, noAl i (ds.map .im) = true
  | [] => rfl
  | d :: ds => by simp only [List.map_cons, noAl, noAl_im i ds]
variable {F : FD} {i : Nat} {k : Kn} {K : List D → Kn} {ys : List D}
theorem uCall_l {fr : FR} {ρ : Rho} (l : Lent k K xs) (h : e1[i]? = some k) (q : Ag e1 ρ) (hf : F (.bo xs :: ds.map .im) = some (fr, [some ys])) (wy : wl ys) : ∃ ρ', uCall F (.al i :: ds.map .im) ρ = .ok fr ρ' ∧ Ag (e1.set i (K ys)) ρ' := by
  obtain ⟨_, h2, h3, h4⟩ := lent_at l q h
  obtain ⟨h5, h6⟩ := h4 ys wy
  refine ⟨lPut ρ i ys, ?_, h6⟩
  unfold uCall
  simp only [apart, noAl_im, apart_im, Bool.and_self, toSVs, h2, toSVs_im, hf]
  unfold lAt at h3
  cases l with
  | ow =>
    obtain ⟨e, _⟩ := q.get h
    simp only [putBack, bosAt, List.getElem?_cons_zero, e, putBack_im (allIm_im ds), lPut]
  | bo =>
    obtain ⟨e, _⟩ := q.get h
    simp only [putBack, bosAt, List.getElem?_cons_zero, e, putBack_im (allIm_im ds), lPut]
theorem re_userL (l0 : Lent k K xs) (h0 : env[i]? = some k) (ha : Ra env fs ds e1) {k1 : Kn} {zs : List D} (l : Lent k1 K zs) (h : e1[i]? = some k1) (hf : wl zs → wfs ds → F (.bo zs :: ds.map .im) = some (.im d, [some ys]) ∧ wf d ∧ wl ys) : Re env (eUser F (aCons (eVar i) fs)) d (e1.set i (K ys)) := fun ρ q => by
  obtain ⟨v1, _⟩ := lent_at l0 q h0
  obtain ⟨⟨ρ1, e2, a1⟩, w⟩ := ha ρ q
  have wz : wl zs := by
    cases l with
    | ow => exact (a1.get h).2
    | bo => exact (a1.get h).2
  obtain ⟨f1, f2, f3⟩ := hf wz w
  obtain ⟨ρ2, e3, a2⟩ := uCall_l l h a1 f1 f3
  exact ⟨⟨ρ2, by simp only [eUser, M.bind, aCons, v1, e2, M.ret, e3], a2⟩, f2⟩
theorem re_userLN (l0 : Lent k K xs) (h0 : env[i]? = some k) (ha : Ra env fs ds e1) {k1 : Kn} {zs us : List D} (l : Lent k1 K zs) (h : e1[i]? = some k1) (hf : wl zs → wfs ds → F (.bo zs :: ds.map .im) = some (.nw us, [some ys]) ∧ wl us ∧ wl ys) : Re env (eUser F (aCons (eVar i) fs)) (.lst us) (e1.set i (K ys)) := fun ρ q => by
  obtain ⟨v1, _⟩ := lent_at l0 q h0
  obtain ⟨⟨ρ1, e2, a1⟩, w⟩ := ha ρ q
  have wz : wl zs := by
    cases l with
    | ow => exact (a1.get h).2
    | bo => exact (a1.get h).2
  obtain ⟨f1, f2, f3⟩ := hf wz w
  obtain ⟨ρ2, e3, a2⟩ := uCall_l l h a1 f1 f3
  exact ⟨⟨ρ2, by simp only [eUser, M.bind, aCons, v1, e2, M.ret, e3], a2⟩, wf_lst.mpr f2⟩
section
variable {α : Type} {em : α → D} {el : α → List D} {bv : α → List D} {t : Option α}
theorem or_userL (l0 : Lent k K xs) (h0 : env[i]? = some k) (ha : Ra env fs ds e1) {k1 : Kn} {zs : List D} (l : Lent k1 K zs) (h : e1[i]? = some k1) (hf : wl zs → wfs ds → Oj (fun r => F (.bo zs :: ds.map .im) = some (.im (em r), [some (bv r)]) ∧ wf (em r) ∧ wl (bv r)) t) : Oj (fun r => Re env (eUser F (aCons (eVar i) fs)) (em r) (e1.set i (K (bv r)))) t :=
  fun r e => re_userL l0 h0 ha l h fun w1 w2 => hf w1 w2 r e
theorem or_userLN (l0 : Lent k K xs) (h0 : env[i]? = some k) (ha : Ra env fs ds e1) {k1 : Kn} {zs : List D} (l : Lent k1 K zs) (h : e1[i]? = some k1) (hf : wl zs → wfs ds → Oj (fun r => F (.bo zs :: ds.map .im) = some (.nw (el r), [some (bv r)]) ∧ wl (el r) ∧ wl (bv r)) t) : Oj (fun r => Re env (eUser F (aCons (eVar i) fs)) (.lst (el r)) (e1.set i (K (bv r)))) t :=
  fun r e => re_userLN l0 h0 ha l h fun w1 w2 => hf w1 w2 r e
theorem or_user (ha : Ra env fs ds e1) (hf : wfs ds → Oj (fun r => F (ds.map .im) = some (.im (em r), []) ∧ wf (em r)) t) : Oj (fun r => Re env (eUser F fs) (em r) e1) t := fun r e ρ q => by
  obtain ⟨⟨ρ1, e2, a1⟩, w⟩ := ha ρ q
  obtain ⟨h1, h2⟩ := hf w r e
  exact ⟨⟨ρ1, by simp only [eUser, M.bind, e2, uCall_im h1, M.ret], a1⟩, h2⟩
theorem or_userN (ha : Ra env fs ds e1) (hf : wfs ds → Oj (fun r => F (ds.map .im) = some (.nw (el r), []) ∧ wl (el r)) t) : Oj (fun r => Re env (eUser F fs) (.lst (el r)) e1) t := fun r e ρ q => by
  obtain ⟨⟨ρ1, e2, a1⟩, w⟩ := ha ρ q
  obtain ⟨h1, h2⟩ := hf w r e
  exact ⟨⟨ρ1, by simp only [eUser, M.bind, e2, uCall_im h1, M.ret], a1⟩, wf_lst.mpr h2⟩
theorem on_userR (ha : Ra env fs ds e1) (hf : wfs ds → Oj (fun r => F (ds.map .im) = some (.nw (el r), []) ∧ wl (el r)) t) : Oj (fun r => Rn env (nUser F fs) (el r) e1) t := fun r e ρ q => by
  obtain ⟨⟨ρ1, e2, a1⟩, w⟩ := ha ρ q
  obtain ⟨h1, h2⟩ := hf w r e
  exact ⟨⟨ρ1, by simp only [nUser, M.bind, e2, allIm_im, uCall_im h1, M.ret], a1⟩, h2⟩
theorem erase_map {α β : Type} (f : α → β) : ∀ (l : List α) (n : Nat), (l.map f).eraseIdx n = (l.eraseIdx n).map f
  | [], _ => rfl
  | _ :: _, 0 => rfl
  | x :: l, n + 1 => by simp [erase_map f l n]
def popQ {α : Type} (us : List α) (j : Int) : Option (α × List α) := if rangeOk j = true then (seqIndex? j us.length).bind fun n => (us[n]?).map fun x => (x, us.eraseIdx n) else none
theorem or_pop {us : List α} {j : Int} {k0 : Kn} {ys0 : List D} (l0 : Lent k0 K ys0) (h0 : env[i]? = some k0) (ha : Ra env fs [.int j] e1) (l : Lent k K (us.map em)) (h : e1[i]? = some k) : Oj (fun r => Re env (eMt i cPopAt fs) (em r.1) (e1.set i (K (r.2.map em)))) (popQ us j) := fun r e ρ q => by
  obtain ⟨_, _, la, _⟩ := lent_at l0 q h0
  obtain ⟨⟨ρ1, e2, a1⟩, _⟩ := ha ρ q
  obtain ⟨_, _, lb, lp⟩ := lent_at l a1 h
  have wz : wl (us.map em) := by
    cases l with
    | ow => exact (a1.get h).2
    | bo => exact (a1.get h).2
  unfold popQ at e
  split at e
  · rename_i hr
    cases e3 : seqIndex? j us.length with
    | none => rw [e3] at e; cases e
    | some n =>
      rw [e3] at e
      simp only [Option.bind_some] at e
      cases e4 : us[n]? with
      | none => rw [e4] at e; cases e
      | some x =>
        rw [e4] at e
        cases e
        have wy : wl ((us.eraseIdx n).map em) := by
          refine ⟨?_, wfs_sub wz.2 fun y hy => ?_⟩
          · have := wz.1; rw [List.length_map] at this ⊢; exact Nat.le_trans (List.length_eraseIdx_le us n) this
          · obtain ⟨z, hz, rfl⟩ := List.mem_map.mp hy
            exact List.mem_map_of_mem (List.mem_of_mem_eraseIdx hz)
        obtain ⟨_, ag⟩ := lp _ wy
        refine ⟨⟨_, ?_, ag⟩, wfs_iff.mp wz.2 _ (List.mem_map_of_mem (List.mem_of_getElem? e4))⟩
        unfold eMt
        rw [la]
        simp only [M.bind, e2, imms_im, lb, cPopAt, if_pos hr, List.length_map, e3, popK, List.getElem?_map, e4, Option.map_some, erase_map]
  · cases e
end
end
section
variable {R : Type} {env e1 e2 : Env} {fa fb : ES} {rest A B : SS} {T T1 T2 : Option R} {P : R → Fl → Prop} {E : R → Env} {d : D} {xs : List D} {f : M (List D)} {i j : Nat} {gb : M Bool} {b : Bool} {r : R} {fs : M (List RV)}
theorem gr_set (h : Re env fa d e1) (n : nbE e1 i = true) (g : Go (e1.set i (im d)) rest T P E) : Go env (sSeq (sSet i fa) rest) T P E := go_seq (fun ρ q => by
  obtain ⟨⟨ρ1, e, a1⟩, w⟩ := h ρ q
  obtain ⟨x, h1, h2⟩ := nb_of a1 n
  exact ⟨_, by simp only [sSet, M.bind, e, imm, setIm_go h1 h2, M.ret], a1.set w⟩) g
theorem gr_setL (h : Rn env f xs e1) (n : nbE e1 i = true) (g : Go (e1.set i (im (.lst xs))) rest T P E) : Go env (sSeq (sSetL i f) rest) T P E := go_seq (fun ρ q => by
  obtain ⟨⟨ρ1, e, a1⟩, w⟩ := h ρ q
  obtain ⟨x, h1, h2⟩ := nb_of a1 n
  exact ⟨_, by simp only [sSetL, M.bind, e, setIm_go h1 h2, M.ret], a1.set (wf_lst.mpr w)⟩) g
theorem gr_own (h : Rn env f xs e1) (n : nbE e1 i = true) (g : Go (e1.set i (ow xs)) rest T P E) : Go env (sSeq (sOwn i f) rest) T P E := go_seq (fun ρ q => by
  obtain ⟨⟨ρ1, e, a1⟩, w⟩ := h ρ q
  obtain ⟨x, h1, h2⟩ := nb_of a1 n
  exact ⟨_, by simp only [sOwn, M.bind, e, setOw_go h1 h2, M.ret], a1.set w⟩) g
theorem gr_expr (h : Re env fa d e1) (g : Go e1 rest T P E) : Go env (sSeq (sExpr fa) rest) T P E := go_seq (fun ρ q => by
  obtain ⟨⟨ρ1, e, a1⟩, w⟩ := h ρ q
  exact ⟨ρ1, by simp only [sExpr, M.bind, e, M.ret], a1⟩) g
theorem gr_out {s1 : SS} {fl : Fl} (h : ∀ ρ, Ag env ρ → (∃ ρ1, s1 ρ = .ok fl ρ1 ∧ Ag e1 ρ1) ∧ wfF fl) (n : fl ≠ .nx) (p : P r fl) (w : Wk e1 (E r)) : Go env (sSeq s1 rest) (some r) P E := oj_some fun ρ q => by
  obtain ⟨⟨ρ1, h1, a1⟩, h2⟩ := h ρ q
  exact ⟨fl, ρ1, seq_out h1 n, p, h2, a1.wk w⟩
theorem gr_ret (h : Re env fa d e1) (p : P r (.rt d)) (w : Wk e1 (E r)) : Go env (sSeq (sRet fa) rest) (some r) P E := gr_out (fl := .rt d) (fun ρ q => by
  obtain ⟨⟨ρ1, e, a1⟩, w⟩ := h ρ q
  exact ⟨⟨ρ1, by simp only [sRet, M.bind, e], a1⟩, w⟩) (fun z => nomatch z) p w
theorem gr_retL (h : Rn env f xs e1) (p : P r (.rn xs)) (w : Wk e1 (E r)) : Go env (sSeq (sRetL f) rest) (some r) P E := gr_out (fl := .rn xs) (fun ρ q => by
  obtain ⟨⟨ρ1, e, a1⟩, w⟩ := h ρ q
  exact ⟨⟨ρ1, by simp only [sRetL, M.bind, e, M.ret], a1⟩, w⟩) (fun z => nomatch z) p w
theorem gr_if (h : Rb env gb b e1) (h1 : b = true → Go e1 (sSeq A rest) T1 P E) (h2 : b = false → Go e1 (sSeq B rest) T2 P E) : Go env (sSeq (sIf gb A B) rest) (if b then T1 else T2) P E := oj_ite (fun z r e ρ q => by
    subst z
    obtain ⟨ρ1, p1, a1⟩ := h ρ q
    obtain ⟨fl, ρ', e1, r1⟩ := h1 rfl r e ρ1 a1
    refine ⟨fl, ρ', ?_, r1⟩
    rw [← e1]
    simp only [sSeq, sIf, M.bind, p1]) (fun z r e ρ q => by
    subst z
    obtain ⟨ρ1, p1, a1⟩ := h ρ q
    obtain ⟨fl, ρ', e1, r1⟩ := h2 rfl r e ρ1 a1
    refine ⟨fl, ρ', ?_, r1⟩
    rw [← e1]
    simp only [sSeq, sIf, M.bind, p1])
theorem gr_ifJ {α : Type} {t1 t2 : Option α} {EJ : α → Env} {k : α → Option R} (h : Rb env gb b e1) (h1 : b = true → Go e1 A t1 (fun _ fl => fl = .nx) EJ) (h2 : b = false → Go e1 B t2 (fun _ fl => fl = .nx) EJ) (g : ∀ x, Go (EJ x) rest (k x) P E) :
    Go env (sSeq (sIf gb A B) rest) ((if b then t1 else t2).bind k) P E := oj_bind (P := fun x => ∀ ρ, Ag env ρ → ∃ ρ1, sIf gb A B ρ = .ok .nx ρ1 ∧ Ag (EJ x) ρ1) (oj_ite (fun z x e ρ q => by
    subst z
    obtain ⟨ρ1, p1, a1⟩ := h ρ q
    obtain ⟨fl, ρ', e1, rfl, _, a⟩ := h1 rfl x e ρ1 a1
    exact ⟨ρ', by simp only [sIf, M.bind, p1, e1], a⟩) (fun z x e ρ q => by
    subst z
    obtain ⟨ρ1, p1, a1⟩ := h ρ q
    obtain ⟨fl, ρ', e1, rfl, _, a⟩ := h2 rfl x e ρ1 a1
    exact ⟨ρ', by simp only [sIf, M.bind, p1, e1], a⟩)) fun x hx => go_seq hx (g x)
theorem gr_asg {g : IV → M Unit} {sl : List Nat} (h : Re env fa d e1) (t : Tg e1 g sl (.im d) e2) (k : Go e2 rest T P E) : Go env (sSeq (sAsg fa g) rest) T P E := go_seq (fun ρ q => by
  obtain ⟨⟨ρ1, e, a1⟩, w⟩ := h ρ q
  obtain ⟨ρ', e2, a, _⟩ := t ρ1 a1 w
  exact ⟨ρ', by simp only [sAsg, M.bind, e, imm, e2, M.ret], a⟩) k
inductive Rp (env : Env) : M PV → Kn → Env → Prop
  | v {fa : ES} {d : D} {e1 : Env} : Re env fa d e1 → Rp env (pV fa) (im d) e1
  | n {f : M (List D)} {xs : List D} {e1 : Env} : Rn env f xs e1 → Rp env (pN f) (ow xs) e1
theorem rp_go {f : M PV} {k : Kn} (h : Rp env f k e1) : ∀ ρ, Ag env ρ → ∃ x ρ', f ρ = .ok x ρ' ∧ Ag e1 ρ' ∧ ∀ (i : Nat) (env1 : Env) (ρ1 : Rho), Ag env1 ρ1 → nbE env1 i = true → ∃ ρ2, putP i x ρ1 = .ok () ρ2 ∧ Ag (env1.set i k) ρ2 := fun ρ q => by
  cases h with
  | @v fa d _ h =>
    obtain ⟨⟨ρ', e, a⟩, w⟩ := h ρ q
    refine ⟨.v (.im d), ρ', by simp only [pV, M.bind, e, M.ret], a, fun i env1 ρ1 q1 n => ?_⟩
    obtain ⟨x, h1, h2⟩ := nb_of q1 n
    exact ⟨_, by simp only [putP, M.bind, imm, setIm_go h1 h2], q1.set w⟩
  | @n f xs _ h =>
    obtain ⟨⟨ρ', e, a⟩, w⟩ := h ρ q
    refine ⟨.f xs, ρ', by simp only [pN, M.bind, e, M.ret], a, fun i env1 ρ1 q1 n => ?_⟩
    obtain ⟨x, h1, h2⟩ := nb_of q1 n
    exact ⟨_, by simp only [putP, setOw_go h1 h2], q1.set w⟩
theorem gr_par2 {f g : M PV} {k1 k2 : Kn} (h1 : Rp env f k1 e1) (h2 : Rp e1 g k2 e2) (n1 : nbE e2 i = true) (n2 : nbE (e2.set i k1) j = true) (k : Go ((e2.set i k1).set j k2) rest T P E) : Go env (sSeq (sPar2 i j f g) rest) T P E := go_seq (fun ρ q => by
  obtain ⟨x, ρ1, h3, a1, p1⟩ := rp_go h1 ρ q
  obtain ⟨y, ρ2, h4, a2, p2⟩ := rp_go h2 ρ1 a1
  obtain ⟨ρ3, h5, a3⟩ := p1 i e2 ρ2 a2 n1
  obtain ⟨ρ4, h6, a4⟩ := p2 j _ ρ3 a3 n2
  exact ⟨ρ4, by simp only [sPar2, M.bind, h3, h4, h5, h6, M.ret], a4⟩) k
theorem gr_append {β : Type} {x : β} {us : List β} {em : β → D} {k : List β → Option R} {k0 k1 : Kn} {K : List D → Kn} {ys0 : List D} (l0 : Lent k0 K ys0) (h0 : env[i]? = some k0) (ha : Re env fa (em x) e1) (l : Lent k1 K (us.map em)) (h : e1[i]? = some k1)
    (g : ∀ ys, Go (e1.set i (K (ys.map em))) rest (k ys) P E) : Go env (sSeq (sExpr (eMt i cAppend (aCons fa aNil))) rest) ((pushQ us x).bind k) P E := fun r e => by
  cases e0 : pushQ us x with
  | none => rw [e0] at e; cases e
  | some ys =>
    rw [e0] at e
    obtain ⟨h1, rfl⟩ := gate_ok e0
    have h1 := of_decide_eq_true h1
    refine go_seq (fun ρ q => ?_) (g _) r e
    obtain ⟨_, _, la, _⟩ := lent_at l0 q h0
    obtain ⟨⟨ρ1, e2, a1⟩, w⟩ := ha ρ q
    obtain ⟨_, _, lb, lp⟩ := lent_at l a1 h
    have wz : wl (us.map em) := by
      cases l with
      | ow => exact (a1.get h).2
      | bo => exact (a1.get h).2
    have wy : wl ((us ++ [x]).map em) := by
      refine ⟨by simp only [List.length_map, List.length_append, List.length_cons, List.length_nil]; omega, ?_⟩
      rw [List.map_append]
      exact wfs_app wz.2 (wfs_cons w wfs_nil)
    obtain ⟨_, ag⟩ := lp _ wy
    refine ⟨_, ?_, ag⟩
    unfold sExpr eMt
    simp only [M.bind, la, aCons, aNil, e2, M.ret, imms, lb, cAppend, List.length_map, if_pos h1]
    simp only [List.map_append, List.map_cons, List.map_nil]
theorem gr_setIx {β : Type} {us : List β} {x : β} {em : β → D} {t : Int} {k : List β → Option R} {k1 : Kn} {K : List D → Kn} (l : Lent k1 K (us.map em)) (h : env[i]? = some k1) (ha : Pe env fa (em x)) (hb : Pv env fb (.int t)) (g : ∀ zs, Go (env.set i (K (zs.map em))) rest (k zs) P E) : Go env (sSeq (sSetIx i fa fb) rest) ((setQ us t x).bind k) P E := fun r e => by
  cases e1 : setQ us t x with
  | none => rw [e1] at e; cases e
  | some zs =>
    rw [e1] at e
    unfold setQ at e1
    cases e2 : ixN us.length t with
    | none => rw [e2] at e1; cases e1
    | some j =>
      rw [e2] at e1
      cases e1
      refine go_seq (fun ρ q => ?_) (g _) r e
      obtain ⟨ev, _, lb, lp⟩ := lent_at l q h
      obtain ⟨e4, w4⟩ := ha ρ q
      obtain ⟨⟨r5, e5, l5⟩, _⟩ := hb ρ q
      have w : wl (us.map em) := by
        cases l with
        | ow => exact (q.get h).2
        | bo => exact (q.get h).2
      have ww : wl ((us.set j x).map em) := by
        refine ⟨by simpa using w.1, wfs_iff.mpr fun y hy => ?_⟩
        obtain ⟨z, hz, rfl⟩ := List.mem_map.mp hy
        rcases List.mem_or_eq_of_mem_set hz with hz | rfl
        · exact wfs_iff.mp w.2 _ (List.mem_map_of_mem hz)
        · exact w4
      obtain ⟨_, ag⟩ := lp _ ww
      refine ⟨_, ?_, ag⟩
      simp only [sSetIx, M.bind, e4, imm, ev, e5, val, l5, Dv.isInt, M.opt, lb, List.length_map, e2]
      rw [← List.map_set]
theorem gr_for {σ α : Type} {iv : α → IV} {E' : σ → Env} {E1 : σ → α → Env} {tb : σ → α → Option σ} {k : σ → Option R} {g : IV → M Unit} {sl : List Nat} {body : SS} {fi : M (List IV)} {us : List α} {s0 : σ} (hi : Ri env fi (us.map iv) e1) (w0 : Wk e1 (E' s0)) (hg : ∀ s x, Tg (E' s) g sl (iv x) (E1 s x))
    (hb : ∀ s x, Go (E1 s x) body (tb s x) (fun _ fl => fl = .nx ∨ fl = .ct) E') (hr : ∀ s, Go (E' s) rest (k s) P E) : Go env (sSeq (sFor fi g body) rest) ((foldQ tb us s0).bind k) P E := oj_bind (P := fun s => ∀ ρ, Ag env ρ → ∃ ρ1, sFor fi g body ρ = .ok .nx ρ1 ∧ Ag (E' s) ρ1) (fun s e ρ q => by
    obtain ⟨⟨ρ1, h1, a1⟩, _, w1⟩ := hi ρ q
    obtain ⟨ρ', h2, h3⟩ := for_go hg hb us s0 s ρ1 (fun x hx => w1 _ (List.mem_map_of_mem hx)) e (a1.wk w0)
    exact ⟨ρ', by simp only [sFor, M.bind, h1, h2], h3⟩) fun s hs => go_seq hs (hr s)
theorem gr_forR {σ α : Type} {iv : α → IV} {E' : σ → Env} {E1 : σ → α → Env} {tb : σ → α → Option (Step σ R)} {k : σ → Option R} {g : IV → M Unit} {sl : List Nat} {body : SS} {fi : M (List IV)} {us : List α} {s0 : σ} (hi : Ri env fi (us.map iv) e1) (w0 : Wk e1 (E' s0)) (hg : ∀ s x, Tg (E' s) g sl (iv x) (E1 s x))
    (hb : ∀ s x, Go (E1 s x) body (tb s x) (stepP P) (stepE E' E)) (hr : ∀ s, Go (E' s) rest (k s) P E) : Go env (sSeq (sFor fi g body) rest) ((foldR tb us s0).bind (stepK k)) P E := oj_bind (P := fun t => ∀ ρ, Ag env ρ → ∃ fl ρ', sFor fi g body ρ = .ok fl ρ' ∧ Ag (stepE E' E t) ρ' ∧ wfF fl ∧ (match t with
      | .out r => P r fl ∧ fl ≠ .nx
      | _ => fl = .nx)) (fun t e ρ q => by
    obtain ⟨⟨ρ1, h1, a1⟩, _, w1⟩ := hi ρ q
    obtain ⟨fl, ρ', h2, h3⟩ := forR_go hg hb us s0 t ρ1 (fun x hx => w1 _ (List.mem_map_of_mem hx)) e (a1.wk w0)
    exact ⟨fl, ρ', by simp only [sFor, M.bind, h1, h2], h3⟩) fun t ht => after_loop ht hr
end
theorem ag_iff {e : Env} {ρ : Rho} : Ag e ρ ↔ ρ.length = e.length ∧ ∀ (i : Nat) q, e[i]? = some q → ∃ x, ρ[i]? = some x ∧ KnOk q x := by
  constructor
  · intro h
    exact ⟨h.len, fun i q e => h.at e⟩
  · intro ⟨l, h⟩
    induction e generalizing ρ with
    | nil =>
      cases ρ with
      | nil => exact .nil
      | cons _ _ => simp at l
    | cons q e ih =>
      cases ρ with
      | nil => simp at l
      | cons x r =>
        refine .cons ?_ (ih (by simpa using l) fun i p hp => by simpa using h (i + 1) p (by simpa using hp))
        obtain ⟨y, h1, h2⟩ := h 0 q rfl
        simp at h1
        subst h1
        exact h2
theorem wipeE_out {e : Env} {i : Nat} : ∀ {vs : List Nat}, i ∉ vs → (wipeE e vs)[i]? = e[i]?
  | [], _ => rfl
  | v :: vs, h => by
    unfold wipeE
    rw [List.getElem?_set_ne (show v ≠ i from fun z => h (by rw [z]; exact List.mem_cons_self))]
    exact wipeE_out fun z => h (List.mem_cons_of_mem _ z)
theorem wipeE_len (e : Env) : ∀ vs, (wipeE e vs).length = e.length
  | [] => rfl
  | v :: vs => by unfold wipeE; rw [List.length_set, wipeE_len e vs]
theorem ag_put {e0 e : Env} {ρ0 ρ : Rho} {vs : List Nat} (h0 : Ag e0 ρ0) (h : Ag (wipeE e vs) ρ) (hv : ∀ j ∈ vs, e[j]? = e0[j]?) : Ag e (putB ρ0 vs ρ) := by
  rw [ag_iff]
  have hl := h.len
  rw [wipeE_len] at hl
  refine ⟨by rw [putB_len]; exact hl, fun i q hq => ?_⟩
  by_cases z : i ∈ vs
  · obtain ⟨x, h1, h2⟩ := h0.at ((hv i z).symm.trans hq)
    have li : i < ρ.length := by
      rw [hl]
      rcases Nat.lt_or_ge i e.length with y | y
      · exact y
      · rw [List.getElem?_eq_none y] at hq; cases hq
    exact ⟨x, by rw [putB_in z li, h1]; rfl, h2⟩
  · rw [putB_out z]
    exact h.at (by rw [wipeE_out z]; exact hq)
def lcS {σ α β : Type} (p : α → σ → Option (Bool × σ)) (h : α → σ → Option (β × σ)) : List α → σ → Option (List β × σ)
  | [], s => some ([], s)
  | x :: xs, s => (p x s).bind fun b => if b.1 then (h x b.2).bind fun y => (lcS p h xs y.2).map fun r => (y.1 :: r.1, r.2) else lcS p h xs b.2
section
variable {env : Env} {σ α β : Type} {iv : α → IV} {xs : List α} {em : β → D} {vs sl : List Nat} {E : σ → Env} {E1 : σ → α → Env} {fi : M (List IV)} {g : IV → M Unit} {gt : M Bool} {fe : ES}
theorem lcS_go {p : α → σ → Option (Bool × σ)} {h : α → σ → Option (β × σ)} (hw : ∀ s x, wipeE (E1 s x) vs = wipeE (E s) vs) (hg : ∀ s x, Tg (wipeE (E s) vs) g sl (iv x) (E1 s x)) (hp : ∀ x s, Oj (fun q => Rb (E1 s x) gt q.1 (E1 q.2 x)) (p x s)) (he : ∀ x s, Oj (fun q => Re (E1 s x) fe (em q.1) (E1 q.2 x)) (h x s)) :
    ∀ (xs : List α) (acc : List D) (s : σ) (r : List β × σ) (ρ : Rho), (∀ x ∈ xs, wfI (iv x)) → acc.length + xs.length ≤ 1000000 → lcS p h xs s = some r → Ag (wipeE (E s) vs) ρ → ∃ ρ', lcLoop vs g gt fe (xs.map iv) acc ρ = .ok (acc ++ r.1.map em) ρ' ∧ Ag (wipeE (E r.2) vs) ρ' ∧ wfs (r.1.map em) ∧ r.1.length ≤ xs.length
  | [], acc, s, r, ρ, _, _, e, q => by cases e; exact ⟨ρ, by simp [lcLoop, M.ret], q, wfs_nil, Nat.le_refl _⟩
  | x :: xs, acc, s, r, ρ, w, l, e, q => by
    unfold lcS at e
    cases ep : p x s with
    | none => rw [ep] at e; cases e
    | some b =>
      rw [ep] at e
      simp only [Option.bind_some] at e
      have ih := fun acc s r ρ l e q => lcS_go hw hg hp he xs acc s r ρ (fun y hy => w y (List.mem_cons_of_mem _ hy)) l e q
      obtain ⟨ρ1, e1, a1, l1, o1⟩ := hg s x ρ q (w x List.mem_cons_self)
      obtain ⟨ρ2, e2, a2⟩ := hp x s b ep ρ1 a1
      rw [List.length_cons] at l
      rw [List.map_cons]
      unfold lcLoop
      simp only [M.bind, e1, e2]
      cases eb : b.1 with
      | false =>
        simp only [M.bind, wipeM]
        rw [eb, if_neg (by simp)] at e
        have := a2.wipe vs
        rw [hw] at this
        obtain ⟨ρ', h1, h2, h3, h4⟩ := ih acc b.2 r _ (by omega) e this
        exact ⟨ρ', h1, h2, h3, by rw [List.length_cons]; omega⟩
      | true =>
        rw [eb, if_pos rfl] at e
        cases eh : h x b.2 with
        | none => rw [eh] at e; cases e
        | some y =>
          rw [eh] at e
          simp only [Option.bind_some] at e
          cases er : lcS p h xs y.2 with
          | none => rw [er] at e; cases e
          | some zs =>
            rw [er] at e
            cases e
            obtain ⟨⟨ρ3, e3, a3⟩, w3⟩ := he x b.2 y eh ρ2 a2
            have rr : acc.length < 1000000 := by omega
            have := a3.wipe vs
            rw [hw] at this
            obtain ⟨ρ', h1, h2, h3, h4⟩ := ih (acc ++ [em y.1]) y.2 zs _ (by simp; omega) er this
            simp only [M.bind, e3, imm, M.opt, room, if_pos rr, wipeM]
            refine ⟨ρ', ?_, h2, ?_, by simp only [List.length_cons]; omega⟩
            · rw [h1]; simp
            · rw [List.map_cons]; exact wfs_cons w3 h3
theorem or_lc {p : α → σ → Option (Bool × σ)} {h : α → σ → Option (β × σ)} {s0 : σ} {env0 : Env} (hi : Ri env0 fi (xs.map iv) env) (w0 : Wk env (E s0)) (hok : okE vs (E s0) = true) (hv : ∀ s s', vs.map (fun j => (E s)[j]?) = vs.map (fun j => (E s')[j]?)) (hg : ∀ s x, Tg (wipeE (E s) vs) g sl (iv x) (E1 s x)) (hw : ∀ s x, wipeE (E1 s x) vs = wipeE (E s) vs)
    (hp : ∀ x s, Oj (fun q => Rb (E1 s x) gt q.1 (E1 q.2 x)) (p x s)) (he : ∀ x s, Oj (fun q => Re (E1 s x) fe (em q.1) (E1 q.2 x)) (h x s)) : Oj (fun r => Rn env0 (nLc vs fi g gt fe) (r.1.map em) (E r.2)) (lcS p h xs s0) := fun r e ρ q => by
  obtain ⟨⟨ρ1, e1, a1⟩, l1, w1⟩ := hi ρ q
  rw [List.length_map] at l1
  have a2 := a1.wk w0
  obtain ⟨ρ', h1, h2, h3, h4⟩ := lcS_go hw hg hp he xs [] s0 r _ (fun x hx => w1 _ (List.mem_map_of_mem hx)) (by simpa using l1) e (a2.wipe vs)
  refine ⟨⟨putB ρ1 vs ρ', ?_, ag_put a2 h2 fun j hj => ?_⟩, by rw [List.length_map]; omega, h3⟩
  · unfold nLc
    simp only [M.bind, e1, okE_ok a2 hok, h1, List.nil_append]
  · have := hv r.2 s0
    rw [List.map_inj_left] at this
    exact this j hj
end
theorem wf_svsB {xs ds : List D} (v : wl xs) (w : wfs ds) : ∀ s ∈ SV.bo xs :: ds.map SV.im, wfS s := fun s hs => by
  rcases List.mem_cons.mp hs with rfl | hs
  · exact v
  · exact wf_svs w s hs
section
variable {R : Type} {env e1 e2 : Env} {fa fb : ES} {f g : M (List D)} {rest : SS} {T : Option R} {P : R → Fl → Prop} {E : R → Env} {i j : Nat} {x y : D} {xs ys : List D}
theorem gr_parVV (h1 : Re env fa x e1) (h2 : Re e1 fb y e2) (n1 : nbE e2 i = true) (n2 : nbE (e2.set i (im x)) j = true) (k : Go ((e2.set i (im x)).set j (im y)) rest T P E) : Go env (sSeq (sPar2 i j (pV fa) (pV fb)) rest) T P E := gr_par2 (.v h1) (.v h2) n1 n2 k
theorem gr_parVN (h1 : Re env fa x e1) (h2 : Rn e1 g ys e2) (n1 : nbE e2 i = true) (n2 : nbE (e2.set i (im x)) j = true) (k : Go ((e2.set i (im x)).set j (ow ys)) rest T P E) : Go env (sSeq (sPar2 i j (pV fa) (pN g)) rest) T P E := gr_par2 (.v h1) (.n h2) n1 n2 k
theorem gr_parNV (h1 : Rn env f xs e1) (h2 : Re e1 fb y e2) (n1 : nbE e2 i = true) (n2 : nbE (e2.set i (ow xs)) j = true) (k : Go ((e2.set i (ow xs)).set j (im y)) rest T P E) : Go env (sSeq (sPar2 i j (pN f) (pV fb)) rest) T P E := gr_par2 (.n h1) (.v h2) n1 n2 k
theorem gr_parNN (h1 : Rn env f xs e1) (h2 : Rn e1 g ys e2) (n1 : nbE e2 i = true) (n2 : nbE (e2.set i (ow xs)) j = true) (k : Go ((e2.set i (ow xs)).set j (ow ys)) rest T P E) : Go env (sSeq (sPar2 i j (pN f) (pN g)) rest) T P E := gr_par2 (.n h1) (.n h2) n1 n2 k
end
theorem fd_okB {R : Type} {n m : Nat} {s : SS} {xs ds : List D} {T : Option R} {fr : R → FR} {bv : R → List D} {E : R → Env} (h : Go (entryE m (SV.bo xs :: ds.map SV.im)) s T (fun r fl => flR fl = some (fr r)) (fun r => bo (bv r) :: E r)) (hn : ds.length + 1 = n) (he : ∀ r, bosE (E r) = []) (v : wl xs) (w : wfs ds) :
    Oj (fun r => defF n m s (SV.bo xs :: ds.map SV.im) = some (fr r, [some (bv r)]) ∧ wfFR (fr r) ∧ wl (bv r)) T := fun r e => by
  obtain ⟨h1, h2⟩ := fd_ok (n := n) h (by simpa using hn) (wf_svsB v w) r e
  refine ⟨?_, h2, ?_⟩
  · rw [h1]
    show some (fr r, some (bv r) :: bosE (E r)) = _
    rw [he r]
  · obtain ⟨fl, ρ', _, _, _, a⟩ := h r e (entry m (SV.bo xs :: ds.map SV.im)) (ag_entry (m := m) (wf_svsB v w))
    cases a with
    | cons k _ => exact k.2
end Tv
namespace Tv
open PySem Dv
def stepMap {σ σ' R R' : Type} (f : σ' → σ) (g : R' → R) : Step σ' R' → Step σ R
  | .go s => .go (f s)
  | .brk s => .brk (f s)
  | .out r => .out (g r)
theorem go_map {R R' : Type} {env : Env} {s : SS} {P : R → Fl → Prop} {E : R → Env} {φ : R' → R} {T : Option R'} (h : Go env s T (fun r => P (φ r)) (fun r => E (φ r))) : Go env s (T.map φ) P E := fun r e => by
  cases T with
  | none => cases e
  | some x => cases e; exact h x rfl
end Tv
namespace Tv
open PySem Dv
theorem ix0 {α : Type} (a b : α) : ixQ [a, b] 0 = some a := rfl
theorem ix1 {α : Type} (a b : α) : ixQ [a, b] 1 = some b := rfl
theorem set0 {α : Type} (a b x : α) : setQ [a, b] 0 x = some [x, b] := rfl
theorem set1 {α : Type} (a b x : α) : setQ [a, b] 1 x = some [a, x] := rfl
theorem modQ_pos {i j : Int} (h : 0 < j) : modQ i j = some (i % j) := by simp [modQ, gateQ, h]
theorem divQ_pos {i j : Int} (h : 0 < j) (h2 : j < 2 ^ 64) : divQ i j = some (i / j) := by
  have : cDiv i j = true := c_div h (by omega)
  simp [divQ, gateQ, this]
theorem mulQ_ok {i j : Int} (h : cMul i j = true) : mulQ i j = some (i * j) := by simp [mulQ, gateQ, h]
theorem gate_true {α : Type} {c : Bool} {x : α} (h : c = true) : gateQ c x = some x := by rw [h]; rfl
theorem fewQ_ok {α : Type} {xs : List α} (h : xs.length ≤ 1000000) : fewQ xs = some xs := if_pos h
theorem catQ_ok {α : Type} {xs ys : List α} (h : xs.length + ys.length ≤ 1000000) : catQ xs ys = some (xs ++ ys) := gate_true (decide_eq_true h)
theorem pushQ_ok {α : Type} {xs : List α} {x : α} (h : xs.length < 1000000) : pushQ xs x = some (xs ++ [x]) := gate_true (decide_eq_true h)
theorem rngOk_of {a b : Int} (h1 : -1000000 ≤ a) (h2 : a ≤ 1000000) (h3 : -1000000 ≤ b) (h4 : b ≤ 1000000) (h5 : b - a ≤ 1000000) : rngOk a b = true := by
  unfold rngOk rangeOk
  simp only [Bool.and_eq_true, decide_eq_true_eq]
  refine ⟨⟨⟨?_, ?_⟩, ?_, ?_⟩, ?_⟩ <;> omega
theorem rngQ_ok {a b : Int} (h1 : -1000000 ≤ a) (h2 : a ≤ 1000000) (h3 : -1000000 ≤ b) (h4 : b ≤ 1000000) (h5 : b - a ≤ 1000000) : rngQ a b = some (rgF a b) := gate_true (rngOk_of h1 h2 h3 h4 h5)
theorem mem_rgF {a b x : Int} : x ∈ rgF a b ↔ a ≤ x ∧ x < b := by
  unfold rgF
  rw [List.mem_map]
  constructor
  · rintro ⟨i, hi, rfl⟩
    have := List.mem_range.mp hi
    omega
  · intro ⟨h1, h2⟩
    exact ⟨(x - a).toNat, List.mem_range.mpr (by omega), by omega⟩
theorem atI_ok {α : Type} {xs : List α} {i : Int} (h0 : 0 ≤ i) (h1 : i < xs.length) : ∃ x, ixQ xs i = some x ∧ x ∈ xs ∧ xs[i.toNat]? = some x := by
  have hk : i.toNat < xs.length := by omega
  have e : ixQ xs i = some xs[i.toNat] := by
    show (L2.ixN xs.length i).bind _ = _
    simp only [L2.ixN, if_pos h0, if_pos h1, Option.bind_some, List.getElem?_eq_getElem hk]
  exact ⟨_, e, List.getElem_mem hk, List.getElem?_eq_getElem hk⟩
def DrawOk (draw : List Int → Int → Option (Int × List Int)) (Ok : List Int → Prop) : Prop := ∀ b n, Ok b → 0 < n → n < 2 ^ 64 → ∃ r b', draw b n = some (r, b') ∧ 0 ≤ r ∧ r < n ∧ Ok b'
theorem one_of_ok {α : Type} {draw : List Int → Int → Option (Int × List Int)} {Ok : List Int → Prop} (hd : DrawOk draw Ok) {items : List α} {b : List Int} (hne : items ≠ []) (hl : items.length ≤ 1000000) (hb : Ok b) :
    ∃ x b', ((draw b (items.length : Int)).bind fun r => (ixQ items r.1).bind fun a => some (a, r.2)) = some (x, b') ∧ x ∈ items ∧ Ok b' := by
  have h0 : 0 < items.length := List.length_pos_iff.mpr hne
  obtain ⟨r, b', e, r0, r1, hb'⟩ := hd b items.length hb (by omega) (by omega)
  obtain ⟨x, e2, hx, _⟩ := atI_ok r0 r1
  exact ⟨x, b', by simp only [e, Option.bind_some, e2], hx, hb'⟩
theorem popQ_ok {α : Type} {us : List α} {j : Int} (h0 : 0 ≤ j) (h1 : j < us.length) (hl : us.length ≤ 1000000) : ∃ x, popQ us j = some (x, us.eraseIdx j.toNat) ∧ us[j.toNat]? = some x := by
  have hr : rangeOk j = true := by
    unfold rangeOk
    simp only [Bool.and_eq_true, decide_eq_true_eq]
    omega
  have hs : seqIndex? j us.length = some j.toNat := (L2.ixN_seq (n := us.length) (i := j) (j := j.toNat) (by unfold L2.ixN; rw [if_pos h0, if_pos h1])).1
  have hk : j.toNat < us.length := by omega
  exact ⟨us[j.toNat], by simp only [popQ, if_pos hr, hs, Option.bind_some, List.getElem?_eq_getElem hk, Option.map_some], List.getElem?_eq_getElem hk⟩
theorem erase_perm {α : Type} : ∀ {us : List α} {n : Nat} {x : α}, us[n]? = some x → (x :: us.eraseIdx n).Perm us
  | [], n, x, h => by simp at h
  | u :: us, 0, x, h => by simp at h; subst h; exact .refl _
  | u :: us, n + 1, x, h => by
    have ih := erase_perm (us := us) (n := n) (x := x) (by simpa using h)
    rw [List.eraseIdx_cons_succ]
    exact (List.Perm.swap u x _).trans (.cons u ih)
theorem mix_loop {α R : Type} {draw : List Int → Int → Option (Int × List Int)} {Ok : List Int → Prop} {c : List α × List α × List Int → Option Bool} (hc1 : ∀ f b, c (f, [], b) = some false) (hc2 : ∀ f x l b, c (f, x :: l, b) = some true) (hd : DrawOk draw Ok) : ∀ (n fuel : Nat) (found left : List α) (b : List Int), left.length = n → n < fuel → found.length + n ≤ 900000 → Ok b →
    ∃ ys b', (whileR (R := R) c (fun s => (draw s.2.2 (s.2.1.length : Int)).bind fun r => (popQ s.2.1 r.1).bind fun p => (pushQ s.1 p.1).bind fun f => some (.go (f, p.2, r.2))) fuel (found, left, b)) = some (.go (found ++ ys, [], b')) ∧ ys.Perm left ∧ Ok b'
  | 0, fuel + 1, found, left, b, hn, hf, hl, hb => by
    obtain rfl := List.length_eq_zero_iff.mp hn
    exact ⟨[], b, by simp [whileR, hc1], .nil, hb⟩
  | n + 1, fuel + 1, found, u :: left, b, hn, hf, hl, hb => by
    obtain ⟨r, b1, e, r0, r1, hb1⟩ := hd b (u :: left).length hb (by omega) (by omega)
    obtain ⟨x, e2, hx⟩ := popQ_ok r0 r1 (by omega)
    have hk : r.toNat < (u :: left).length := by omega
    obtain ⟨ys, b2, e3, hp, hb2⟩ := mix_loop (R := R) hc1 hc2 hd n fuel (found ++ [x]) ((u :: left).eraseIdx r.toNat) b1 (by rw [List.length_eraseIdx_of_lt hk]; omega) (by omega) (by rw [List.length_append, List.length_cons, List.length_nil]; omega) hb1
    refine ⟨x :: ys, b2, ?_, (List.Perm.cons x hp).trans (erase_perm hx), hb2⟩
    simp only [whileR, hc2, Option.bind_some, if_true, e, e2, pushQ_ok (x := x) (xs := found) (by omega)]
    exact e3.trans (by simp)
  | n + 1, fuel + 1, found, [], b, hn, hf, hl, hb => by cases hn
  | 0, 0, _, _, _, _, hf, _, _ => absurd hf (Nat.lt_irrefl 0)
  | n + 1, 0, _, _, _, _, hf, _, _ => absurd hf (by omega)
theorem lcS_none {σ α β : Type} {p : α → σ → Option (Bool × σ)} {h : α → σ → Option (β × σ)} {Ok : σ → Prop} (hp : ∀ x s, Ok s → ∃ s', p x s = some (false, s') ∧ Ok s') : ∀ (xs : List α) (s : σ), Ok s → ∃ s', lcS p h xs s = some ([], s') ∧ Ok s'
  | [], s, hs => ⟨s, rfl, hs⟩
  | x :: xs, s, hs => by
    obtain ⟨s1, e, h1⟩ := hp x s hs
    obtain ⟨s2, e2, h2⟩ := lcS_none (h := h) hp xs s1 h1
    exact ⟨s2, by simp only [lcS, e, Option.bind_some, e2]; rfl, h2⟩
theorem lcS_all {σ α β : Type} {p : α → σ → Option (Bool × σ)} {h : α → σ → Option (β × σ)} {Ok : σ → Prop} {Rl : α → β → Prop} (hp : ∀ x s, Ok s → ∃ s', p x s = some (true, s') ∧ Ok s') (hh : ∀ x s, Ok s → ∃ y s', h x s = some (y, s') ∧ Rl x y ∧ Ok s') : ∀ (xs : List α) (s : σ), Ok s → ∃ ys s', lcS p h xs s = some (ys, s') ∧ F2 Rl xs ys ∧ Ok s'
  | [], s, hs => ⟨[], s, rfl, .nil, hs⟩
  | x :: xs, s, hs => by
    obtain ⟨s1, e, h1⟩ := hp x s hs
    obtain ⟨y, s2, e2, hy, h2⟩ := hh x s1 h1
    obtain ⟨ys, s3, e3, hr, h3⟩ := lcS_all hp hh xs s2 h2
    exact ⟨y :: ys, s3, by simp only [lcS, e, Option.bind_some, if_true, e2, e3, Option.map_some], .cons hy hr, h3⟩
theorem foldR_go {σ α R : Type} {f : σ → α → Option (Step σ R)} {Inv : σ → Prop} : ∀ (xs : List α) (s : σ), (∀ x ∈ xs, ∀ s, Inv s → ∃ s', f s x = some (.go s') ∧ Inv s') → Inv s → ∃ s', foldR f xs s = some (.go s') ∧ Inv s'
  | [], s, _, hs => ⟨s, rfl, hs⟩
  | x :: xs, s, h, hs => by
    obtain ⟨s1, e, h1⟩ := h x List.mem_cons_self s hs
    obtain ⟨s2, e2, h2⟩ := foldR_go xs s1 (fun y hy => h y (List.mem_cons_of_mem _ hy)) h1
    exact ⟨s2, by simp only [foldR, e, Option.bind_some, e2], h2⟩
theorem foldQ_inv {σ α : Type} {f : σ → α → Option σ} {Inv : σ → Prop} : ∀ (xs : List α) (s : σ), (∀ x ∈ xs, ∀ s, Inv s → ∃ s', f s x = some s' ∧ Inv s') → Inv s → ∃ s', foldQ f xs s = some s' ∧ Inv s'
  | [], s, _, hs => ⟨s, rfl, hs⟩
  | x :: xs, s, h, hs => by
    obtain ⟨s1, e, h1⟩ := h x List.mem_cons_self s hs
    obtain ⟨s2, e2, h2⟩ := foldQ_inv xs s1 (fun y hy => h y (List.mem_cons_of_mem _ hy)) h1
    exact ⟨s2, by simp only [foldQ, e, Option.bind_some, e2], h2⟩
theorem lcQ_some {α β : Type} {p : α → Option Bool} {h : α → Option β} (p' : α → Bool) (h' : α → β) : ∀ (xs : List α), (∀ x ∈ xs, p x = some (p' x)) → (∀ x ∈ xs, p' x = true → h x = some (h' x)) → lcQ p h xs = some ((xs.filter p').map h')
  | [], _, _ => rfl
  | x :: xs, hp, hh => by
    have ih := lcQ_some p' h' xs (fun y hy => hp y (List.mem_cons_of_mem _ hy)) (fun y hy => hh y (List.mem_cons_of_mem _ hy))
    simp only [lcQ, hp x List.mem_cons_self, Option.bind_some, ih]
    cases e : p' x with
    | false => simp [e]
    | true => simp [e, hh x List.mem_cons_self e]
theorem cells_ok {n c : Int} (h0 : 0 ≤ n) (c1 : 1 ≤ c) (c9 : c ≤ 9) : 1 ≤ (if (if n < c then n else c) > 1 then (if n < c then n else c) else 1) ∧ (if (if n < c then n else c) > 1 then (if n < c then n else c) else 1) ≤ 9 := by
  split <;> split <;> omega
end Tv
namespace Tv
open PySem PySem.Spec PyProof.Rows L2 Dv
abbrev blQ (o : Option D) : Option Bool := o.bind isBl
abbrev inQ (o : Option D) : Option Int := o.bind Dv.isInt
abbrev isiQ (n : String) (d : D) : Option Bool := blQ (gIsi n d)
abbrev lenQ (d : D) : Option Int := inQ (gLen [d])
section
variable {α : Type} {env e1 e2 : Env} {fa fb : ES} {fs : M (List RV)} {x y d : D} {em : α → D} {xs : List α}
theorem isBl_ok {d : D} {b : Bool} (h : isBl d = some b) : d = .bl b := by
  cases d <;> simp [isBl] at h
  rw [h]
theorem blQ_ok {o : Option D} {b : Bool} (h : blQ o = some b) : o = some (.bl b) := by
  cases o with
  | none => cases h
  | some d =>
    have h : isBl d = some b := by simpa using h
    rw [isBl_ok h]
theorem inQ_ok {o : Option D} {i : Int} (h : inQ o = some i) : o = some (.int i) := by
  cases o with
  | none => cases h
  | some d =>
    have h : Dv.isInt d = some i := by simpa using h
    cases d <;> simp [Dv.isInt] at h
    rw [h]
theorem oe_binB {g : D → D → Option D} (ha : Pv env fa x) (hb : Pv env fb y) : Oj (fun b => Pe env (eBin g fa fb) (mB b)) (blQ (g x y)) := fun b e => pe_bin ha hb (blQ_ok e) trivial
theorem ob_cmp {g : D → D → Option D} (ha : Pv env fa x) (hb : Pv env fb y) : Oj (Pb env (bCmp g fa fb)) (blQ (g x y)) := fun b e => pb_cmp ha hb (blQ_ok e)
theorem oe_isi {n : String} (ha : Pv env fa x) : Oj (fun b => Pe env (eUn (gIsi n) fa) (mB b)) (isiQ n x) := fun b e => pe_un ha (blQ_ok e) trivial
theorem oe_lenD (h : Pas env fs [d]) : Oj (fun r => Pe env (eCall gLen fs) (mI r)) (lenQ d) := fun r e => pe_call h (inQ_ok e) trivial
theorem wf_ix {x y r : D} (w : wf x) (h : gIx x y = some r) : wf r := by
  unfold gIx at h
  split at h
  · exact wfs_iff.mp (wf_lst.mp w).2 _ (atI_mem h)
  · exact wfs_iff.mp (wf_tup.mp w).2 _ (atI_mem h)
  · split at h
    · split at h
      · cases h; trivial
      · cases h
    · cases h
  · cases h
theorem oe_ixD {i : Int} (ha : Pv env fa x) (hb : Pv env fb (.int i)) : Oj (fun r => Pe env (eBin gIx fa fb) (mD r)) (gIx x (.int i)) := fun r e => pe_binW ha hb fun w _ => ⟨e, wf_ix w e⟩
def seqQ : D → Option (List D)
  | .tup xs => some xs
  | .lst xs => some xs
  | _ => none
theorem ti_D (ha : Pe env fa d) : Oj (fun l => Pi env (iSeq fa) (l.map (iM mD))) (seqQ d) := fun l e => by
  cases d <;> cases e
  · exact pi_tup ha
  · exact pi_lst ha
def un2 : D → Option (D × D)
  | .tup [a, b] => some (a, b)
  | _ => none
def un3 : D → Option (D × D × D)
  | .tup [a, b, c] => some (a, b, c)
  | _ => none
theorem un2_ok {q : D × D} (h : un2 d = some q) : d = mP mD mD q := by
  unfold un2 at h
  split at h
  · cases h; rfl
  · cases h
theorem un3_ok {q : D × D × D} (h : un3 d = some q) : d = mP3 mD mD mD q := by
  unfold un3 at h
  split at h
  · cases h; rfl
  · cases h
theorem oe_un2 (ha : Pe env fa d) : Oj (fun q => Pe env fa (mP mD mD q)) (un2 d) := fun q e => by rw [un2_ok e] at ha; exact ha
theorem oe_un3 (ha : Pe env fa d) : Oj (fun q => Pe env fa (mP3 mD mD mD q)) (un3 d) := fun q e => by rw [un3_ok e] at ha; exact ha
theorem map_D (em : α → D) (xs : List α) : (xs.map em).map mD = xs.map em := by rw [List.map_map]; rfl
theorem pe_coL (ha : Pe env fa (mL em xs)) : Pe env fa (mL mD (xs.map em)) := by rw [mL, map_D]; exact ha
theorem pe_coT (ha : Pe env fa (mT em xs)) : Pe env fa (mT mD (xs.map em)) := by rw [mT, map_D]; exact ha
theorem pv_coL (ha : Pv env fa (mL em xs)) : Pv env fa (mL mD (xs.map em)) := by rw [mL, map_D]; exact ha
theorem re_coL (ha : Re env fa (mL em xs) e1) : Re env fa (mL mD (xs.map em)) e1 := by rw [mL, map_D]; exact ha
theorem re_coT (ha : Re env fa (mT em xs) e1) : Re env fa (mT mD (xs.map em)) e1 := by rw [mT, map_D]; exact ha
theorem pn_co {f : M (List D)} (ha : Pn env f (xs.map em)) : Pn env f ((xs.map em).map mD) := by rw [map_D]; exact ha
theorem rn_co {f : M (List D)} (ha : Rn env f (xs.map em) e1) : Rn env f ((xs.map em).map mD) e1 := by rw [map_D]; exact ha
theorem pe_orV {a : Bool} {u v : α} (ha : Pe env fa (em u)) (h : truth (em u) = some a) (hb : a = false → Pe env fb (em v)) : Pe env (eOr fa fb) (em (if a then u else v)) := by
  have := pe_or ha h hb
  cases a <;> exact this
theorem pe_andV {a : Bool} {u v : α} (ha : Pe env fa (em u)) (h : truth (em u) = some a) (hb : a = true → Pe env fb (em v)) : Pe env (eAnd fa fb) (em (if a then v else u)) := by
  have := pe_and ha h hb
  cases a <;> exact this
end
end Tv
namespace Tv
open PySem PySem.Spec PyProof.Rows L2 Dv
def chQ (a b : Option Bool) : Option Bool := a.bind fun k => if k then b else some false
theorem oe_chain {env : Env} {fa fb fc : ES} {x y z : D} {g g' : D → D → Option D} (ha : Pv env fa x) (hb : Pv env fb y) (hc : Pv env fc z) : Oj (fun b => Pe env (eChain g g' fa fb fc) (mB b)) (chQ (blQ (g x y)) (blQ (g' y z))) := fun b e ρ q => by
  obtain ⟨⟨r, e1, l1⟩, _⟩ := ha ρ q
  obtain ⟨⟨r2, e2, l2⟩, _⟩ := hb ρ q
  obtain ⟨⟨r3, e3, l3⟩, _⟩ := hc ρ q
  unfold chQ at e
  cases e4 : blQ (g x y) with
  | none => rw [e4] at e; cases e
  | some k =>
    rw [e4] at e
    have h := blQ_ok e4
    refine ⟨?_, trivial⟩
    cases k with
    | false => cases e; simp [eChain, M.bind, e1, e2, e3, val, l1, l2, l3, h, M.opt, M.ret, isBl]
    | true =>
      have h' := blQ_ok (show blQ (g' y z) = some b from e)
      simp [eChain, M.bind, e1, e2, e3, val, l1, l2, l3, h, h', M.opt, M.ret, isBl]
end Tv
namespace Tv
open PySem PySem.Spec PyProof.Rows L2 Dv
theorem gr_par3 {R : Type} {env e1 e2 e3 : Env} {fa fb fc : ES} {rest : SS} {T : Option R} {P : R → Fl → Prop} {E : R → Env} {i j l : Nat} {x y z : D} (h1 : Re env fa x e1) (h2 : Re e1 fb y e2) (h3 : Re e2 fc z e3) (n1 : nbE e3 i = true) (n2 : nbE (e3.set i (im x)) j = true) (n3 : nbE ((e3.set i (im x)).set j (im y)) l = true)
    (k : Go (((e3.set i (im x)).set j (im y)).set l (im z)) rest T P E) : Go env (sSeq (sPar3 i j l (pV fa) (pV fb) (pV fc)) rest) T P E := go_seq (fun ρ q => by
  obtain ⟨⟨ρ1, f1, a1⟩, w1⟩ := h1 ρ q
  obtain ⟨⟨ρ2, f2, a2⟩, w2⟩ := h2 ρ1 a1
  obtain ⟨⟨ρ3, f3, a3⟩, w3⟩ := h3 ρ2 a2
  obtain ⟨u1, g1, o1⟩ := nb_of a3 n1
  have b1 := a3.set (s := .im x) (i := i) w1
  obtain ⟨u2, g2, o2⟩ := nb_of b1 n2
  have b2 := b1.set (s := .im y) (i := j) w2
  obtain ⟨u3, g3, o3⟩ := nb_of b2 n3
  have b3 := b2.set (s := .im z) (i := l) w3
  exact ⟨_, by simp only [sPar3, pV, M.bind, f1, f2, f3, M.ret, putP, imm, setIm_go g1 o1, setIm_go g2 o2, setIm_go g3 o3], b3⟩) k
end Tv
namespace Tv
open PySem PySem.Spec PyProof.Rows L2 Dv
section
variable {α β : Type} {env : Env} {em : α → D} {xs : List α} {fs : M (List RV)}
theorem enum_ok {a1 : (xs.map em).length ≤ 1000000} (a2 : wfs (xs.map em)) : (some ((xs.map em).zipIdx.map fun p => IV.tw [.int (p.2 : Nat), p.1]) = some ((enumI xs).map (iZ mI em))) ∧ ((enumI xs).map (iZ mI em)).length ≤ 1000000 ∧ ∀ x ∈ (enumI xs).map (iZ mI em), wfI x := by
  refine ⟨?_, ?_, fun x hx => ?_⟩
  · simp only [enumI, List.map_map, List.zipIdx_map]
    rfl
  · simp only [enumI, List.length_map, List.length_zipIdx] at a1 ⊢; exact a1
  · obtain ⟨p, hp, rfl⟩ := List.mem_map.mp hx
    obtain ⟨q, hq, rfl⟩ := List.mem_map.mp hp
    have := List.fst_mem_of_mem_zipIdx hq
    exact wfs_cons trivial (wfs_cons (wfs_iff.mp a2 _ (List.mem_map_of_mem this)) wfs_nil)
theorem ti_enumAL (h : Pai env fs [mL em xs]) : Pi env (iCallI gEnumA fs) ((enumI xs).map (iZ mI em)) := pi_callI h fun w => by
  obtain ⟨a1, a2⟩ := wf_lst.mp (wfs1 w)
  exact enum_ok (a1 := a1) a2
theorem ti_enumAT (h : Pai env fs [mT em xs]) : Pi env (iCallI gEnumA fs) ((enumI xs).map (iZ mI em)) := pi_callI h fun w => by
  obtain ⟨a1, a2⟩ := wf_tup.mp (wfs1 w)
  exact enum_ok (a1 := a1) a2
end
structure De {α : Type} (em : α → D) (q : D → Option α) : Prop where
  ok : ∀ {d x}, q d = some x → d = em x
def deI : D → Option Int
  | .int i => some i
  | _ => none
def deB : D → Option Bool
  | .bl b => some b
  | _ => none
def deR {α : Type} (q : D → Option α) : List D → Option (List α)
  | [] => some []
  | d :: ds => (q d).bind fun x => (deR q ds).bind fun xs => some (x :: xs)
def deT {α : Type} (q : D → Option α) : D → Option (List α)
  | .tup xs => deR q xs
  | _ => none
def deP {α β : Type} (qa : D → Option α) (qb : D → Option β) : D → Option (α × β)
  | .tup [a, b] => (qa a).bind fun x => (qb b).bind fun y => some (x, y)
  | _ => none
def deP3 {α β γ : Type} (qa : D → Option α) (qb : D → Option β) (qc : D → Option γ) : D → Option (α × β × γ)
  | .tup [a, b, c] => (qa a).bind fun x => (qb b).bind fun y => (qc c).bind fun z => some (x, y, z)
  | _ => none
theorem de_I : De mI deI := ⟨fun {d x} e => by cases d <;> cases e; rfl⟩
theorem de_B : De mB deB := ⟨fun {d x} e => by cases d <;> cases e; rfl⟩
theorem de_D : De mD some := ⟨fun {d x} e => by cases e; rfl⟩
theorem deR_ok {α : Type} {em : α → D} {q : D → Option α} (h : De em q) : ∀ {ds xs}, deR q ds = some xs → ds = xs.map em
  | [], xs, e => by cases e; rfl
  | d :: ds, xs, e => by
    obtain ⟨x, e1, e⟩ := Option.bind_eq_some_iff.mp e
    obtain ⟨ys, e2, e⟩ := Option.bind_eq_some_iff.mp e
    cases e
    rw [h.ok e1, deR_ok h e2]; rfl
theorem de_T {α : Type} {em : α → D} {q : D → Option α} (h : De em q) : De (mT em) (deT q) := ⟨fun {d x} e => by
  cases d <;> first | (cases e; done) | skip
  rw [deR_ok h e]⟩
theorem de_P {α β : Type} {ea : α → D} {eb : β → D} {qa : D → Option α} {qb : D → Option β} (ha : De ea qa) (hb : De eb qb) : De (mP ea eb) (deP qa qb) := ⟨fun {d x} e => by
  unfold deP at e
  split at e
  · obtain ⟨y, e1, e⟩ := Option.bind_eq_some_iff.mp e
    obtain ⟨z, e2, e⟩ := Option.bind_eq_some_iff.mp e
    cases e
    rw [ha.ok e1, hb.ok e2]
  · cases e⟩
theorem de_P3 {α β γ : Type} {ea : α → D} {eb : β → D} {ec : γ → D} {qa : D → Option α} {qb : D → Option β} {qc : D → Option γ} (ha : De ea qa) (hb : De eb qb) (hc : De ec qc) : De (mP3 ea eb ec) (deP3 qa qb qc) := ⟨fun {d x} e => by
  unfold deP3 at e
  split at e
  · obtain ⟨y, e1, e⟩ := Option.bind_eq_some_iff.mp e
    obtain ⟨z, e2, e⟩ := Option.bind_eq_some_iff.mp e
    obtain ⟨u, e3, e⟩ := Option.bind_eq_some_iff.mp e
    cases e
    rw [ha.ok e1, hb.ok e2, hc.ok e3]
  · cases e⟩
theorem g_inLd {α : Type} {em : α → D} {n : Nat} [DecidableEq α] (h : EqD em n) (hn : n ≤ 49) (x : α) (xs : List α) [i : Decidable (x ∈ xs)] : gIn (em x) (mL em xs) = some (.bl (decide (x ∈ xs))) := by rw [g_inL h hn]; congr
theorem g_inTd {α : Type} {em : α → D} {n : Nat} [DecidableEq α] (h : EqD em n) (hn : n ≤ 49) (x : α) (xs : List α) [i : Decidable (x ∈ xs)] : gIn (em x) (mT em xs) = some (.bl (decide (x ∈ xs))) := by rw [g_inT h hn]; congr
theorem g_ninLd {α : Type} {em : α → D} {n : Nat} [DecidableEq α] (h : EqD em n) (hn : n ≤ 49) (x : α) (xs : List α) [i : Decidable (x ∈ xs)] : gNotIn (em x) (mL em xs) = some (.bl (!decide (x ∈ xs))) := by rw [g_ninL h hn]; congr
theorem g_ninTd {α : Type} {em : α → D} {n : Nat} [DecidableEq α] (h : EqD em n) (hn : n ≤ 49) (x : α) (xs : List α) [i : Decidable (x ∈ xs)] : gNotIn (em x) (mT em xs) = some (.bl (!decide (x ∈ xs))) := by rw [g_ninT h hn]; congr
theorem oe_de {env : Env} {fa : ES} {d : D} {α : Type} {em : α → D} {q : D → Option α} (h : De em q) (ha : Pe env fa d) : Oj (fun x => Pe env fa (em x)) (q d) := fun x e => by
  have := h.ok e
  subst this
  exact ha
def twosQ {α : Type} : List (List α) → Option (List (α × α))
  | [] => some []
  | [a, b] :: xs => (twosQ xs).bind fun ps => some ((a, b) :: ps)
  | _ => none
def threesQ {α : Type} : List (List α) → Option (List (α × α × α))
  | [] => some []
  | [a, b, c] :: xs => (threesQ xs).bind fun ps => some ((a, b, c) :: ps)
  | _ => none
theorem twos_ok {α : Type} {em : α → D} : ∀ {xs : List (List α)} {ps}, twosQ xs = some ps → xs.map (iM (mT em)) = ps.map (iM (mP em em))
  | [], ps, e => by cases e; rfl
  | [a, b] :: xs, ps, e => by
    obtain ⟨qs, e1, e⟩ := Option.bind_eq_some_iff.mp e
    cases e
    rw [List.map_cons, List.map_cons, twos_ok e1]; rfl
  | [] :: xs, ps, e => by cases e
  | [a] :: xs, ps, e => by cases e
  | (a :: b :: c :: r) :: xs, ps, e => by cases e
theorem threes_ok {α : Type} {em : α → D} : ∀ {xs : List (List α)} {ps}, threesQ xs = some ps → xs.map (iM (mT em)) = ps.map (iM (mP3 em em em))
  | [], ps, e => by cases e; rfl
  | [a, b, c] :: xs, ps, e => by
    obtain ⟨qs, e1, e⟩ := Option.bind_eq_some_iff.mp e
    cases e
    rw [List.map_cons, List.map_cons, threes_ok e1]; rfl
  | [] :: xs, ps, e => by cases e
  | [a] :: xs, ps, e => by cases e
  | [a, b] :: xs, ps, e => by cases e
  | (a :: b :: c :: d :: r) :: xs, ps, e => by cases e
theorem ti_twos {env : Env} {α : Type} {em : α → D} {xs : List (List α)} {fi : M (List IV)} (h : Pi env fi (xs.map (iM (mT em)))) : Oj (fun ps => Pi env fi (ps.map (iM (mP em em)))) (twosQ xs) := fun ps e => by
  have := twos_ok (em := em) e
  rw [this] at h
  exact h
theorem ti_threes {env : Env} {α : Type} {em : α → D} {xs : List (List α)} {fi : M (List IV)} (h : Pi env fi (xs.map (iM (mT em)))) : Oj (fun ps => Pi env fi (ps.map (iM (mP3 em em em)))) (threesQ xs) := fun ps e => by
  have := threes_ok (em := em) e
  rw [this] at h
  exact h
mutual
def eqD : D → D → Bool
  | .non, .non => true
  | .bl a, .bl b => decide (a = b)
  | .int a, .int b => decide (a = b)
  | .str a, .str b => decide (a = b)
  | .tup a, .tup b => eqDs a b
  | .lst a, .lst b => eqDs a b
  | .dct a b, .dct c d => eqDs a c && eqDs b d
  | .set a, .set b => eqDs a b
  | .obj a b c, .obj a' b' c' => decide (a = a') && decide (b = b') && eqDs c c'
  | .ref a, .ref b => decide (a = b)
  | _, _ => false
def eqDs : List D → List D → Bool
  | [], [] => true
  | a :: as, b :: bs => eqD a b && eqDs as bs
  | _, _ => false
end
mutual
theorem eqD_refl : ∀ a : D, eqD a a = true
  | .non => rfl
  | .bl a => by simp [eqD]
  | .int a => by simp [eqD]
  | .str a => by simp [eqD]
  | .tup a => by simp only [eqD]; exact eqDs_refl a
  | .lst a => by simp only [eqD]; exact eqDs_refl a
  | .dct a b => by simp only [eqD, eqDs_refl a, eqDs_refl b]; rfl
  | .set a => by simp only [eqD]; exact eqDs_refl a
  | .obj a b c => by simp [eqD, eqDs_refl c]
  | .ref a => by simp [eqD]
theorem eqDs_refl : ∀ a : List D, eqDs a a = true
  | [] => rfl
  | a :: as => by simp only [eqDs, eqD_refl a, eqDs_refl as]; rfl
end
mutual
theorem eqD_ok : ∀ a b : D, eqD a b = true → a = b
  | .non, b, h => by cases b <;> simp [eqD] at h; rfl
  | .bl a, b, h => by cases b <;> simp [eqD] at h; rw [h]
  | .int a, b, h => by cases b <;> simp [eqD] at h; rw [h]
  | .str a, b, h => by cases b <;> simp [eqD] at h; rw [h]
  | .tup a, b, h => by cases b <;> simp [eqD] at h; rw [eqDs_ok a _ h]
  | .lst a, b, h => by cases b <;> simp [eqD] at h; rw [eqDs_ok a _ h]
  | .dct a c, b, h => by cases b <;> simp [eqD] at h; rw [eqDs_ok a _ h.1, eqDs_ok c _ h.2]
  | .set a, b, h => by cases b <;> simp [eqD] at h; rw [eqDs_ok a _ h]
  | .obj a c d, b, h => by cases b <;> simp [eqD] at h; rw [h.1.1, h.1.2, eqDs_ok d _ h.2]
  | .ref a, b, h => by cases b <;> simp [eqD] at h; rw [h]
theorem eqDs_ok : ∀ a b : List D, eqDs a b = true → a = b
  | [], b, h => by cases b <;> simp [eqDs] at h; rfl
  | a :: as, b, h => by
    cases b with
    | nil => simp [eqDs] at h
    | cons b bs => simp only [eqDs, Bool.and_eq_true] at h; rw [eqD_ok a b h.1, eqDs_ok as bs h.2]
end
instance : DecidableEq D := fun a b => decidable_of_iff (eqD a b = true) ⟨eqD_ok a b, fun h => h ▸ eqD_refl a⟩
def repTQ {α : Type} (xs : List α) (k : Int) : Option (List α) := if 1 ≤ k ∧ k ≤ 1000 ∧ xs.length ≤ 1000 then some (List.replicate k.toNat xs).flatten else none
theorem wfs_rep {xs : List D} (w : wfs xs) : ∀ n : Nat, wfs (List.replicate n xs).flatten
  | 0 => wfs_nil
  | n + 1 => by rw [List.replicate_succ, List.flatten_cons]; exact wfs_app w (wfs_rep w n)
theorem len_rep {α : Type} (xs : List α) : ∀ n : Nat, (List.replicate n xs).flatten.length = n * xs.length
  | 0 => by simp
  | n + 1 => by rw [List.replicate_succ, List.flatten_cons, List.length_append, len_rep xs n, Nat.succ_mul]; omega
theorem map_rep {α β : Type} (f : α → β) (xs : List α) : ∀ n : Nat, ((List.replicate n xs).flatten).map f = (List.replicate n (xs.map f)).flatten
  | 0 => by simp
  | n + 1 => by rw [List.replicate_succ, List.replicate_succ, List.flatten_cons, List.flatten_cons, List.map_append, map_rep f xs n]
theorem oe_repT {env : Env} {fa fb : ES} {α : Type} {em : α → D} {xs : List α} {k : Int} (ha : Pv env fa (mT em xs)) (hb : Pv env fb (.int k)) : Oj (fun r => Pe env (eBin gMulT fa fb) (mT em r)) (repTQ xs k) := fun r e => by
  unfold repTQ at e
  split at e
  · rename_i h
    cases e
    refine pe_binW ha hb fun w1 w2 => ⟨by simp only [gMulT, List.length_map, if_pos h]; rw [mT, map_rep], wf_tup.mpr ⟨?_, ?_⟩⟩
    · rw [List.length_map, len_rep]
      have := Nat.mul_le_mul (show k.toNat ≤ 1000 by omega) h.2.2
      omega
    · rw [map_rep]
      exact wfs_rep (wf_tup.mp w1).2 _
  · cases e
def cutDQ (d : D) (lo hi : Option Int) : Option D := match d with
  | .tup xs => some (.tup (Dv.cutD xs lo hi))
  | .lst xs => some (.lst (Dv.cutD xs lo hi))
  | _ => none
theorem oe_cutD {env : Env} {fa : ES} {fl fh : M (Option Int)} {lo hi : Option Int} {d : D} (ha : Pv env fa d) (hl : Po env fl lo) (hh : Po env fh hi) : Oj (fun r => Pe env (eSl fa fl fh) (mD r)) (cutDQ d lo hi) := fun r e => by
  cases d <;> cases e
  · exact pe_slT ha hl hh
  · exact pe_slL ha hl hh
def zipDQ : D → D → Option (List (D × D))
  | .tup xs, .tup ys => some (xs.zip ys)
  | .lst xs, .lst ys => some (xs.zip ys)
  | _, _ => none
theorem ti_zipD {env : Env} {fs : M (List RV)} {a b : D} (h : Pai env fs [a, b]) : Oj (fun l => Pi env (iCallI gZip fs) (l.map (iZ mD mD))) (zipDQ a b) := fun l e => by
  unfold zipDQ at e
  split at e
  · rename_i xs ys
    cases e
    have h2 : Pai env fs [mT mD xs, mT mD ys] := by
      rw [mT, mT, show xs.map mD = xs from List.map_id' xs, show ys.map mD = ys from List.map_id' ys]
      exact h
    exact ti_zipT h2
  · rename_i xs ys
    cases e
    have h2 : Pai env fs [mL mD xs, mL mD ys] := by
      rw [mL, mL, show xs.map mD = xs from List.map_id' xs, show ys.map mD = ys from List.map_id' ys]
      exact h
    exact ti_zipL h2
  · cases e
theorem g_eqS2 (x y : Str) : gEq (mS x) (mS y) = some (.bl (x == y)) := rfl
theorem g_neS2 (x y : Str) : gNe (mS x) (mS y) = some (.bl (!(x == y))) := rfl
end Tv
namespace Tv
open PySem PySem.Spec PyProof.Rows L2 Dv
inductive Rps : Env → List (M PV) → List Kn → Env → Prop
  | nil {e : Env} : Rps e [] [] e
  | cons {e e1 e2 : Env} {f : M PV} {k : Kn} {fs : List (M PV)} {ks : List Kn} : Rp e f k e1 → Rps e1 fs ks e2 → Rps e (f :: fs) (k :: ks) e2
theorem rps_v {e e1 e2 : Env} {fa : ES} {d : D} {fs : List (M PV)} {ks : List Kn} (h : Re e fa d e1) (r : Rps e1 fs ks e2) : Rps e (pV fa :: fs) (im d :: ks) e2 := .cons (.v h) r
theorem rps_n {e e1 e2 : Env} {f : M (List D)} {xs : List D} {fs : List (M PV)} {ks : List Kn} (h : Rn e f xs e1) (r : Rps e1 fs ks e2) : Rps e (pN f :: fs) (ow xs :: ks) e2 := .cons (.n h) r
def setKs : List Nat → List Kn → Env → Env
  | i :: is, k :: ks, e => setKs is ks (e.set i k)
  | _, _, e => e
def nbsE : List Nat → List Kn → Env → Bool
  | i :: is, k :: ks, e => nbE e i && nbsE is ks (e.set i k)
  | [], [], _ => true
  | _, _, _ => false
theorem rps_go : ∀ {e e1 : Env} {fs : List (M PV)} {ks : List Kn}, Rps e fs ks e1 → ∀ ρ, Ag e ρ → ∃ xs ρ', evP fs ρ = .ok xs ρ' ∧ Ag e1 ρ' ∧ ∀ (is : List Nat) (env1 : Env) (ρ1 : Rho), Ag env1 ρ1 → nbsE is ks env1 = true → ∃ ρ2, putPs is xs ρ1 = .ok () ρ2 ∧ Ag (setKs is ks env1) ρ2
  | _, _, _, _, .nil, ρ, q => ⟨[], ρ, rfl, q, fun is env1 ρ1 q1 n => by
    cases is with
    | nil => exact ⟨ρ1, rfl, q1⟩
    | cons i is => cases n⟩
  | _, _, _, _, .cons h r, ρ, q => by
    obtain ⟨x, ρ1, e1, a1, p1⟩ := rp_go h ρ q
    obtain ⟨xs, ρ2, e2, a2, p2⟩ := rps_go r ρ1 a1
    refine ⟨x :: xs, ρ2, by simp only [evP, M.bind, e1, e2, M.ret], a2, fun is env1 σ1 q1 n => ?_⟩
    cases is with
    | nil => cases n
    | cons i is =>
      rw [nbsE, Bool.and_eq_true] at n
      obtain ⟨σ2, e3, a3⟩ := p1 i env1 σ1 q1 n.1
      obtain ⟨σ3, e4, a4⟩ := p2 is _ σ2 a3 n.2
      exact ⟨σ3, by simp only [putPs, M.bind, e3, e4], a4⟩
section
variable {R : Type} {env e1 : Env} {rest : SS} {T : Option R} {P : R → Fl → Prop} {E : R → Env} {i : Nat}
theorem gr_parN {is : List Nat} {fs : List (M PV)} {ks : List Kn} (h : Rps env fs ks e1) (n : nbsE is ks e1 = true) (k : Go (setKs is ks e1) rest T P E) : Go env (sSeq (sParN is fs) rest) T P E := go_seq (fun ρ q => by
  obtain ⟨xs, ρ1, f1, a1, p⟩ := rps_go h ρ q
  obtain ⟨ρ2, f2, a2⟩ := p is e1 ρ1 a1 n
  exact ⟨ρ2, by simp only [sParN, M.bind, f1, f2, M.ret], a2⟩) k
def remQ (xs : List Int) (k : Int) : Option (List Int) := gateQ (decide (k ∈ xs)) (xs.erase k)
theorem go_remove {x : Int} {xs : List Int} {fa : ES} {k : List Int → Option R} (h : env[i]? = some (ow (xs.map mI))) (ha : Pe env fa (mI x)) (g : ∀ ys, Go (env.set i (ow (ys.map mI))) rest (k ys) P E) : Go env (sSeq (sExpr (eMt i cRem (aCons fa aNil))) rest) ((remQ xs x).bind k) P E := fun r e => by
  cases e1 : remQ xs x with
  | none => rw [e1] at e; cases e
  | some ys =>
    rw [e1] at e
    obtain ⟨h1, rfl⟩ := gate_ok e1
    have h1 := of_decide_eq_true h1
    refine go_mt (r := .non) h (pai_cons ha pai_nil) (fun w1 w2 => ⟨?_, ?_, ?_⟩) (g _) r e
    · show cRem (xs.map D.int) [.int x] = _
      simp only [cRem, intsOf_map, if_pos h1]
    · have := List.length_erase_le (a := x) (l := xs)
      rw [List.length_map]
      have := w1.1
      rw [List.length_map] at this
      omega
    · exact wfs_ints _
def insQ {β : Type} (xs : List β) (k : Int) (x : β) : Option (List β) := if 0 ≤ k ∧ k.toNat ≤ xs.length ∧ xs.length < 1000000 then some (xs.take k.toNat ++ x :: xs.drop k.toNat) else none
theorem go_insert {β : Type} {em : β → D} {j : Int} {x : β} {xs : List β} {fa fb : ES} {k : List β → Option R} (h : env[i]? = some (ow (xs.map em))) (ha : Pe env fa (mI j)) (hb : Pe env fb (em x)) (g : ∀ ys, Go (env.set i (ow (ys.map em))) rest (k ys) P E) : Go env (sSeq (sExpr (eMt i cIns (aCons fa (aCons fb aNil)))) rest) ((insQ xs j x).bind k) P E := fun r e => by
  cases e1 : insQ xs j x with
  | none => rw [e1] at e; cases e
  | some ys =>
    rw [e1] at e
    unfold insQ at e1
    split at e1
    · rename_i hh
      cases e1
      refine go_mt (r := .non) h (pai_cons ha (pai_cons hb pai_nil)) (fun w1 w2 => ⟨?_, ?_, ?_⟩) (g _) r e
      · simp only [cIns, List.length_map, if_pos hh, List.map_append, List.map_cons, List.map_take, List.map_drop]
      · rw [List.length_map, List.length_append, List.length_take, List.length_cons, List.length_drop]; omega
      · rw [List.map_append, List.map_cons]
        refine wfs_app (wfs_sub w1.2 fun y hy => ?_) (wfs_cons (wfs_iff.mp w2 _ (List.mem_cons_of_mem _ List.mem_cons_self)) (wfs_sub w1.2 fun y hy => ?_))
        · rw [List.map_take] at hy; exact List.mem_of_mem_take hy
        · rw [List.map_drop] at hy; exact List.mem_of_mem_drop hy
    · cases e1
theorem tg_lst {gs : List D → M Unit} {sl : List Nat} {ds : List D} {env' : Env} {n : Nat} (hn : ds.length = n) (t : Tgs env gs sl ds env') : Tg env (gTupL n gs) sl (.im (.lst ds)) env' := fun ρ q w => by
  obtain ⟨ρ2, e2, a2⟩ := t ρ q (wf_lst.mp w).2
  exact ⟨ρ2, by simp only [gTupL, if_pos hn]; exact e2, a2⟩
end
theorem re_orV {α : Type} {em : α → D} {x y : α} {b : Bool} {env e1 : Env} {fa fb : ES} (ha : Re env fa (em x) e1) (ht : truth (em x) = some b) (hb : b = false → Pe e1 fb (em y)) : Re env (eOr fa fb) (em (if b then x else y)) e1 := fun ρ q => by
  obtain ⟨⟨ρ1, f1, a1⟩, w1⟩ := ha ρ q
  cases b with
  | true => exact ⟨⟨ρ1, by simp [eOr, M.bind, f1, val, look, M.opt, ht, M.ret], a1⟩, by simpa using w1⟩
  | false =>
    obtain ⟨f2, w2⟩ := hb rfl ρ1 a1
    exact ⟨⟨ρ1, by simp [eOr, M.bind, f1, val, look, M.opt, ht, f2], a1⟩, by simpa using w2⟩
theorem re_andV {α : Type} {em : α → D} {x y : α} {b : Bool} {env e1 : Env} {fa fb : ES} (ha : Re env fa (em x) e1) (ht : truth (em x) = some b) (hb : b = true → Pe e1 fb (em y)) : Re env (eAnd fa fb) (em (if b then y else x)) e1 := fun ρ q => by
  obtain ⟨⟨ρ1, f1, a1⟩, w1⟩ := ha ρ q
  cases b with
  | false => exact ⟨⟨ρ1, by simp [eAnd, M.bind, f1, val, look, M.opt, ht, M.ret], a1⟩, by simpa using w1⟩
  | true =>
    obtain ⟨f2, w2⟩ := hb rfl ρ1 a1
    exact ⟨⟨ρ1, by simp [eAnd, M.bind, f1, val, look, M.opt, ht, f2], a1⟩, by simpa using w2⟩
theorem re_ifR {α : Type} {em : α → D} {x y : α} {c : Bool} {env e1 : Env} {g : M Bool} {fa fb : ES} (hc : Rb env g c e1) (ha : c = true → Pe e1 fa (em x)) (hb : c = false → Pe e1 fb (em y)) : Re env (eIf g fa fb) (em (if c then x else y)) e1 := fun ρ q => by
  obtain ⟨ρ1, f1, a1⟩ := hc ρ q
  cases c with
  | true =>
    obtain ⟨f2, w2⟩ := ha rfl ρ1 a1
    exact ⟨⟨ρ1, by simp [eIf, M.bind, f1, f2], a1⟩, by simpa using w2⟩
  | false =>
    obtain ⟨f2, w2⟩ := hb rfl ρ1 a1
    exact ⟨⟨ρ1, by simp [eIf, M.bind, f1, f2], a1⟩, by simpa using w2⟩
theorem g_lenS (xs : List Int) : gLenS [mSet xs] = some (.int (xs.length : Int)) := by simp [gLenS]
def lst2Q {α : Type} : List α → Option (α × α)
  | [a, b] => some (a, b)
  | _ => none
def lst3Q {α : Type} : List α → Option (α × α × α)
  | [a, b, c] => some (a, b, c)
  | _ => none
theorem or_lst2 {α : Type} {em : α → D} {env e1 : Env} {f : ES} {l : List α} (h : Re env f (mL em l) e1) : Oj (fun (r : α × α) => Re env f (.lst [em r.1, em r.2]) e1) (lst2Q l) := fun r e => by
  unfold lst2Q at e
  split at e
  · cases e; exact h
  · cases e
theorem or_lst3 {α : Type} {em : α → D} {env e1 : Env} {f : ES} {l : List α} (h : Re env f (mL em l) e1) : Oj (fun (r : α × α × α) => Re env f (.lst [em r.1, em r.2.1, em r.2.2]) e1) (lst3Q l) := fun r e => by
  unfold lst3Q at e
  split at e
  · cases e; exact h
  · cases e
abbrev srtUQ (rows : List (List Int)) : Option (List (List Int)) := gateQ (rowsOkB rows) (sortRU rows)
theorem insRU_len (a : List Int) : ∀ l, (insRU a l).length ≤ l.length + 1
  | [] => by simp [insRU]
  | b :: t => by
    have := insRU_len a t
    unfold insRU
    split
    · simp
    · split
      · simp; omega
      · simp
theorem sortRU_len : ∀ l : List (List Int), (sortRU l).length ≤ l.length
  | [] => by simp [sortRU]
  | a :: r => by
    have h1 := insRU_len a (sortRU r)
    have h2 := sortRU_len r
    rw [sortRU, List.length_cons]
    omega
theorem on_sset {env : Env} {fs : M (List RV)} {rows : List (List Int)} (h : Pas env fs [mL (mT mI) rows]) : Oj (fun r => Pn env (nCall gSSet fs) (r.map (mT mI))) (srtUQ rows) := fun r e => by
  obtain ⟨h1, rfl⟩ := gate_ok e
  refine pn_call h fun w => ?_
  have hne : ∀ b ∈ rows, b ≠ [] := fun b hb z => by
    obtain ⟨_, d, d1, hd⟩ := rowsOkB_ok h1
    have := (hd b hb).1
    rw [z] at this
    simp at this
    omega
  have w1 := wf_lst.mp (wfs1 w)
  refine ⟨?_, ?_, ?_⟩
  · show gSSet [.lst (rows.map rowD)] = _
    simp only [gSSet, asRows_rows hne, if_pos h1]
    rfl
  · have := sortRU_len rows
    have := w1.1
    rw [List.length_map] at this ⊢
    omega
  · refine wfs_sub w1.2 fun y hy => ?_
    obtain ⟨b, hb, rfl⟩ := List.mem_map.mp hy
    exact List.mem_map_of_mem (mem_sortRU.mp hb)
def samB {α : Type} (em : α → D) (x y : α) : Option Bool := gateQ (okR (em x) && okR (em y)) (shownD (em x) == shownD (em y))
section
variable {α : Type} {em : α → D} {env : Env} {fr fr' : M (List RV)} {u v : α}
theorem g_eqS3 (x y : Str) : gEq (.str x) (.str y) = some (.bl (x == y)) := by simp [gEq, twoS]
theorem g_neS3 (x y : Str) : gNe (.str x) (.str y) = some (.bl (!(x == y))) := by simp [gNe, twoS]
theorem samB_ok {b : Bool} (h : samB em u v = some b) : okR (em u) = true ∧ okR (em v) = true ∧ b = (shownD (em u) == shownD (em v)) := by
  obtain ⟨h1, rfl⟩ := gate_ok h
  rw [Bool.and_eq_true] at h1
  exact ⟨h1.1, h1.2, rfl⟩
theorem oe_samB (h : Pas env fr [em u]) (g : Pas env fr' [em v]) : Oj (fun b => Pe env (eBin gEq (eCall gRepr fr) (eCall gRepr fr')) (mB b)) (samB em u v) := fun b e => by
  obtain ⟨o1, o2, rfl⟩ := samB_ok e
  exact pe_bin (okR_repr h o1).v (okR_repr g o2).v (g_eqS3 _ _) trivial
theorem oe_difnB (h : Pas env fr [em u]) (g : Pas env fr' [em v]) : Oj (fun b => Pe env (eBin gNe (eCall gRepr fr) (eCall gRepr fr')) (mB (!b))) (samB em u v) := fun b e => by
  obtain ⟨o1, o2, rfl⟩ := samB_ok e
  exact pe_bin (okR_repr h o1).v (okR_repr g o2).v (g_neS3 _ _) trivial
theorem ob_samB (h : Pas env fr [em u]) (g : Pas env fr' [em v]) : Oj (Pb env (bCmp gEq (eCall gRepr fr) (eCall gRepr fr'))) (samB em u v) := fun b e => by
  obtain ⟨o1, o2, rfl⟩ := samB_ok e
  exact pb_cmp (okR_repr h o1).v (okR_repr g o2).v (g_eqS3 _ _)
theorem ob_difB (h : Pas env fr [em u]) (g : Pas env fr' [em v]) : Oj (fun b => Pb env (bCmp gNe (eCall gRepr fr) (eCall gRepr fr')) (!b)) (samB em u v) := fun b e => by
  obtain ⟨o1, o2, rfl⟩ := samB_ok e
  exact pb_cmp (okR_repr h o1).v (okR_repr g o2).v (g_neS3 _ _)
end
theorem lcQ_all {α β : Type} {h : α → Option β} (h' : α → β) (xs : List α) (hh : ∀ x ∈ xs, h x = some (h' x)) : lcQ (fun _ => some true) h xs = some (xs.map h') := by
  have := lcQ_some (p := fun _ => some true) (h := h) (fun _ => true) h' xs (fun _ _ => rfl) (fun x hx _ => hh x hx)
  rw [this, List.filter_eq_self.mpr fun _ _ => rfl]
theorem lcQ_no {α β : Type} {q : α → Option Bool} {h : α → Option β} : ∀ (l : List α), (∀ x ∈ l, q x = some false) → lcQ q h l = some []
  | [], _ => rfl
  | x :: l, hh => by simp only [lcQ, hh x List.mem_cons_self, Option.bind_some, Bool.false_eq_true, if_false, lcQ_no l fun y hy => hh y (List.mem_cons_of_mem _ hy)]
theorem lcS_ex {α β σ : Type} {h : α → σ → Option (β × σ)} {Ok : σ → Prop} {P : β → Prop} (hh : ∀ x s, Ok s → ∃ y s', h x s = some (y, s') ∧ P y ∧ Ok s') : ∀ (xs : List α) (s : σ), Ok s → ∃ ys s', lcS (fun _ s => some (true, s)) h xs s = some (ys, s') ∧ ys.length = xs.length ∧ (∀ y ∈ ys, P y) ∧ Ok s'
  | [], s, hs => ⟨[], s, rfl, rfl, (fun y hy => nomatch hy), hs⟩
  | x :: xs, s, hs => by
    obtain ⟨y, s1, e, hy, h1⟩ := hh x s hs
    obtain ⟨ys, s2, e2, hl, h2, h3⟩ := lcS_ex hh xs s1 h1
    exact ⟨y :: ys, s2, by simp only [lcS, Option.bind_some, if_true, e, e2, Option.map_some], by rw [List.length_cons, hl, List.length_cons], fun z hz => by
      rcases List.mem_cons.mp hz with rfl | hz
      · exact hy
      · exact h2 z hz, h3⟩
theorem cut_take {α : Type} (xs : List α) {j : Int} (h0 : 0 ≤ j) : cut xs none (some j) = xs.take j.toNat := by
  unfold cut HT.sIx
  simp only [List.drop_zero, Nat.sub_zero]
  rw [if_neg (by omega), List.take_eq_take_iff]
  omega
theorem cut_drop {α : Type} (xs : List α) {j : Int} (h0 : 0 ≤ j) : cut xs (some j) none = xs.drop j.toNat := by
  unfold cut HT.sIx
  dsimp only
  rw [if_neg (by omega)]
  by_cases h : j.toNat ≤ xs.length
  · rw [Nat.min_eq_left h, List.take_of_length_le (by rw [List.length_drop]; omega)]
  · rw [Nat.min_eq_right (by omega), List.drop_eq_nil_of_le (Nat.le_refl _), List.drop_eq_nil_of_le (by omega)]
    simp
theorem ix_last {α : Type} {xs : List α} (h : xs ≠ []) : ixQ xs (-(1 : Int)) = xs.getLast? := by
  show L2.atI xs (-1) = _
  have hl : 0 < xs.length := List.length_pos_iff.mpr h
  unfold L2.atI L2.ixN
  rw [if_neg (by decide), if_pos (by omega), List.getLast?_eq_getElem?]
  show xs[((-1 : Int) + (xs.length : Int)).toNat]? = _
  congr 1
  omega
theorem ok_bools (l : List Bool) (hl : l.length ≤ 1000) : okR (mL mB l) = true := by
  unfold okR
  have c : ∀ l : List Bool, pls 49 (l.map mB) = true ∧ costs (l.map mB) = 7 * l.length := by
    intro l
    induction l with
    | nil => exact ⟨by simp [pls], by simp [costs]⟩
    | cons a r ih =>
      refine ⟨?_, ?_⟩
      · rw [List.map_cons, pls, ih.1, pl_bl]; rfl
      · rw [List.map_cons, costs, cost, ih.2, List.length_cons]; omega
  rw [Bool.and_eq_true]
  refine ⟨?_, decide_eq_true ?_⟩
  · rw [mL, pl.eq_def]
    exact (c l).1
  · rw [mL, cost, (c l).2]; omega
theorem sam_of [DecidableEq α] {em : α → D} {x : α} (h : okR (em x) = true) : samQ em x x = some true := by
  unfold samQ
  rw [if_pos rfl]
  exact gate_true h
theorem sam_bools (l : List Bool) (hl : l.length ≤ 1000) : samQ (mL mB) l l = some true := sam_of (ok_bools l hl)
end Tv
namespace Tv
open PySem Dv
theorem nodup_perm : ∀ {l m : List Int}, l.Nodup → (∀ x ∈ l, x ∈ m) → m.length ≤ l.length → l.Perm m
  | [], m, _, _, hl => by
    have : m = [] := List.length_eq_zero_iff.mp (by simpa using hl)
    rw [this]
  | x :: l, m, nd, h, hl => by
    rw [List.nodup_cons] at nd
    have hx := h x List.mem_cons_self
    have pe := List.perm_cons_erase hx
    have le := pe.length_eq
    rw [List.length_cons] at le hl
    refine (List.Perm.cons x (nodup_perm nd.2 (fun y hy => ?_) (by omega))).trans pe.symm
    exact (List.mem_erase_of_ne (show y ≠ x from fun z => nd.1 (by rw [← z]; exact hy))).mpr (h y (List.mem_cons_of_mem _ hy))
theorem rgF_sorted {a b : Int} : (rgF a b).Pairwise (· < ·) := by
  unfold rgF
  rw [List.pairwise_map]
  exact List.pairwise_lt_range.imp fun h => by omega
theorem lt_nodupI {l : List Int} (h : l.Pairwise (· < ·)) : l.Nodup := h.imp fun h => by omega
theorem rgF_nodup {a b : Int} : (rgF a b).Nodup := lt_nodupI rgF_sorted
theorem rgF_ix {a b : Int} {i : Nat} (h : i < (b - a).toNat) : (rgF a b)[i]? = some (a + i) := by
  unfold rgF
  rw [List.getElem?_map, List.getElem?_range h]
  rfl
theorem le_uniq {l m : List Int} (hp : l.Perm m) (h1 : l.Pairwise (· ≤ ·)) (h2 : m.Pairwise (· ≤ ·)) : l = m := hp.eq_of_pairwise (fun a b _ _ h k => Int.le_antisymm h k) h1 h2
def Bal (n : Int) (xs : List Int) : Prop := xs.Perm (rgF 0 n)
section
variable {n : Int} {xs ys : List Int}
theorem Bal.len (h : Bal n xs) : xs.length = n.toNat := by rw [h.length_eq, rgF_len]; congr 1; omega
theorem Bal.lenI (h : Bal n xs) (n0 : 0 ≤ n) : (xs.length : Int) = n := by rw [h.len]; omega
theorem Bal.mem (h : Bal n xs) {x : Int} : x ∈ xs ↔ 0 ≤ x ∧ x < n := by rw [h.mem_iff, mem_rgF]
theorem Bal.nodup (h : Bal n xs) : xs.Nodup := h.nodup_iff.mpr rgF_nodup
theorem Bal.rev (h : Bal n xs) : Bal n xs.reverse := (List.reverse_perm xs).trans h
theorem Bal.sortI (h : Bal n xs) : sortI xs = rgF 0 n := le_uniq ((sortI_perm xs).trans h) (sortI_sorted xs) (rgF_sorted.imp fun h => Int.le_of_lt h)
theorem Bal.sortU (h : Bal n xs) : sortU xs = rgF 0 n := Dv.lt_uniq (sortU_sorted xs) rgF_sorted fun k => by rw [mem_sortU, h.mem_iff]
theorem Bal.of (h1 : xs.Nodup) (h2 : ∀ x ∈ xs, 0 ≤ x ∧ x < n) (h3 : xs.length = n.toNat) : Bal n xs := by
  exact nodup_perm h1 (fun x hx => mem_rgF.mpr (h2 x hx)) (by rw [rgF_len, h3]; omega)
theorem Bal.of_all (h1 : ∀ x, 0 ≤ x → x < n → x ∈ xs) (h3 : xs.length = n.toNat) : Bal n xs := by
  exact (nodup_perm rgF_nodup (fun x hx => h1 x (mem_rgF.mp hx).1 (mem_rgF.mp hx).2) (by rw [rgF_len, h3]; omega)).symm
end
theorem idx_ok {α : Type} [DecidableEq α] {xs : List α} {x : α} (h : x ∈ xs) : idxQ xs x = some (xs.idxOf x : Int) := if_pos h
theorem idx_get {xs : List Int} {x : Int} (h : x ∈ xs) : xs[xs.idxOf x]? = some x := by
  have hl := List.idxOf_lt_length_of_mem h
  rw [List.getElem?_eq_getElem hl, List.getElem_idxOf hl]
theorem idx_lt {xs : List Int} {x : Int} (h : x ∈ xs) : xs.idxOf x < xs.length := List.idxOf_lt_length_of_mem h
theorem idx_inj {xs : List Int} {x y : Int} (hx : x ∈ xs) (hy : y ∈ xs) (e : xs.idxOf x = xs.idxOf y) : x = y := by
  have h1 := idx_get hx
  have h2 := idx_get hy
  rw [e] at h1
  exact Option.some.inj (h1.symm.trans h2)
theorem idx_of {xs : List Int} {i : Nat} {x : Int} (nd : xs.Nodup) (h : xs[i]? = some x) : xs.idxOf x = i := by
  have hi : i < xs.length := (List.getElem?_eq_some_iff.mp h).1
  have e : xs[i] = x := (List.getElem?_eq_some_iff.mp h).2
  rw [← e]
  exact nd.idxOf_getElem i hi
theorem cost_small {x : Int} (h : x.natAbs < 10 ^ 18) : cost (.int x) = 20 := by rw [cost, if_pos h]
theorem ints_cost : ∀ {l : List Int}, (∀ x ∈ l, x.natAbs < 10 ^ 18) → pls 49 (l.map mI) = true ∧ costs (l.map mI) = 22 * l.length
  | [], _ => ⟨by simp [pls], by simp [costs]⟩
  | a :: r, h => by
    obtain ⟨h1, h2⟩ := ints_cost (l := r) fun x hx => h x (List.mem_cons_of_mem _ hx)
    refine ⟨?_, ?_⟩
    · rw [List.map_cons, pls, h1, pl_int]; rfl
    · rw [List.map_cons, costs, cost_small (h a List.mem_cons_self), h2, List.length_cons]; omega
theorem ok_intsT {l : List Int} (h : ∀ x ∈ l, x.natAbs < 10 ^ 18) (hl : l.length ≤ 1000) : okR (mT mI l) = true := by
  obtain ⟨h1, h2⟩ := ints_cost h
  unfold okR
  rw [Bool.and_eq_true]
  refine ⟨?_, decide_eq_true ?_⟩
  · rw [mT, pl.eq_def]; exact h1
  · rw [mT, cost, h2]; omega
theorem ok_intsL {l : List Int} (h : ∀ x ∈ l, x.natAbs < 10 ^ 18) (hl : l.length ≤ 1000) : okR (mL mI l) = true := by
  obtain ⟨h1, h2⟩ := ints_cost h
  unfold okR
  rw [Bool.and_eq_true]
  refine ⟨?_, decide_eq_true ?_⟩
  · rw [mL, pl.eq_def]; exact h1
  · rw [mL, cost, h2]; omega
theorem ok_bl (b : Bool) : okR (mB b) = true := by cases b <;> decide
theorem sam_ints {l : List Int} (h : ∀ x ∈ l, x.natAbs < 10 ^ 18) (hl : l.length ≤ 1000) : samQ (mL mI) l l = some true := sam_of (ok_intsL h hl)
theorem sam_bl (b : Bool) : samQ mB b b = some true := sam_of (ok_bl b)
theorem lcS_sub {α σ : Type} {p : α → σ → Option (Bool × σ)} {Ok : σ → Prop} (hp : ∀ x s, Ok s → ∃ b s', p x s = some (b, s') ∧ Ok s') : ∀ (xs : List α) (s : σ), Ok s → ∃ ys s', lcS p (fun x s => some (x, s)) xs s = some (ys, s') ∧ ys.Sublist xs ∧ Ok s'
  | [], s, hs => ⟨[], s, rfl, .slnil, hs⟩
  | x :: xs, s, hs => by
    obtain ⟨b, s1, e, h1⟩ := hp x s hs
    obtain ⟨ys, s2, e2, hy, h2⟩ := lcS_sub hp xs s1 h1
    cases b with
    | true => exact ⟨x :: ys, s2, by simp only [lcS, e, Option.bind_some, if_true, e2, Option.map_some], hy.cons₂ x, h2⟩
    | false => exact ⟨ys, s2, by simp only [lcS, e, Option.bind_some, Bool.false_eq_true, if_false, e2], hy.cons x, h2⟩
theorem fold_set : ∀ (ps : List (Int × Int)) (s : List Int), (∀ p ∈ ps, 0 ≤ p.2 ∧ p.2 < s.length) → (ps.map (·.2)).Nodup → ∃ r, foldQ (fun (s : List Int) (p : Int × Int) => (setQ s p.2 p.1).bind fun found => some found) ps s = some r ∧ r.length = s.length ∧ (∀ p ∈ ps, r[p.2.toNat]? = some p.1) ∧ ∀ j : Nat, (∀ p ∈ ps, p.2.toNat ≠ j) → r[j]? = s[j]?
  | [], s, _, _ => ⟨s, rfl, rfl, (fun p h => nomatch h), fun _ _ => rfl⟩
  | p :: ps, s, h, nd => by
    rw [List.map_cons, List.nodup_cons] at nd
    obtain ⟨p0, p1⟩ := h p List.mem_cons_self
    have e1 : setQ s p.2 p.1 = some (s.set p.2.toNat p.1) := by
      unfold setQ L2.ixN
      rw [if_pos p0, if_pos p1]
      rfl
    obtain ⟨r, e2, l2, g1, g2⟩ := fold_set ps (s.set p.2.toNat p.1) (fun q hq => by rw [List.length_set]; exact h q (List.mem_cons_of_mem _ hq)) nd.2
    refine ⟨r, by simp only [foldQ, e1, Option.bind_some, e2], by rw [l2, List.length_set], fun q hq => ?_, fun j hj => ?_⟩
    · rcases List.mem_cons.mp hq with rfl | hq
      · rw [g2 q.2.toNat fun t ht z => ?_]
        · rw [List.getElem?_set_self (by omega)]
        · refine nd.1 (List.mem_map.mpr ⟨t, ht, ?_⟩)
          have := h t (List.mem_cons_of_mem _ ht)
          omega
      · exact g1 q hq
    · rw [g2 j fun q hq => hj q (List.mem_cons_of_mem _ hq), List.getElem?_set_ne (hj p List.mem_cons_self)]
theorem mem_enumI {xs : List Int} {p : Int × Int} : p ∈ enumI xs ↔ ∃ i : Nat, p.1 = i ∧ xs[i]? = some p.2 := by
  unfold enumI
  rw [List.mem_map]
  constructor
  · rintro ⟨⟨x, i⟩, h, rfl⟩
    exact ⟨i, rfl, (List.mem_zipIdx_iff_getElem?.mp h)⟩
  · rintro ⟨i, e, h⟩
    exact ⟨(p.2, i), List.mem_zipIdx_iff_getElem?.mpr h, by rw [← e]⟩
theorem enumI_snd (xs : List Int) : (enumI xs).map (·.2) = xs := by
  unfold enumI
  rw [List.map_map]
  show xs.zipIdx.map (·.1) = xs
  simp
theorem bal_places {n : Int} {xs : List Int} (h : Bal n xs) (n0 : 0 ≤ n) : foldQ (fun (s : List Int) (p : Int × Int) => (setQ s p.2 p.1).bind fun found => some found) (enumI xs) (List.replicate n.toNat 0) = some ((rgF 0 n).map fun o => (xs.idxOf o : Int)) := by
  obtain ⟨r, e, l, g, _⟩ := fold_set (enumI xs) (List.replicate n.toNat (0 : Int)) (fun p hp => by
    obtain ⟨i, _, h2⟩ := mem_enumI.mp hp
    have := h.mem.mp (List.mem_of_getElem? h2)
    rw [List.length_replicate]
    omega) (by rw [enumI_snd]; exact h.nodup)
  rw [e]
  congr 1
  apply List.ext_getElem?
  intro j
  rw [List.length_replicate] at l
  by_cases hj : j < n.toNat
  · rw [List.getElem?_map, rgF_ix (by omega)]
    have hm : (0 : Int) + (j : Int) ∈ xs := h.mem.mpr (by omega)
    have := g ((xs.idxOf ((0 : Int) + j) : Int), (0 : Int) + j) (mem_enumI.mpr ⟨_, rfl, idx_get hm⟩)
    rw [show ((0 : Int) + (j : Int)).toNat = j by omega] at this
    rw [this]
    rfl
  · rw [List.getElem?_eq_none (by omega), List.getElem?_eq_none (by rw [List.length_map, rgF_len]; omega)]
end Tv
namespace Tv
open PySem Dv
abbrev ix (x : List Int) (a : Int) : Int := (x.idxOf a : Int)
theorem ix_lt {x : List Int} {a : Int} (h : a ∈ x) : ix x a < x.length := by have := idx_lt h; unfold ix; omega
theorem ix_ne {x : List Int} {a b : Int} (ha : a ∈ x) (hb : b ∈ x) (ne : a ≠ b) : ix x a ≠ ix x b := fun e => ne (idx_inj ha hb (Int.ofNat.inj e))
theorem ix_app {l m : List Int} {a : Int} (h : a ∈ l) : ix (l ++ m) a = ix l a := by unfold ix; rw [List.idxOf_append, if_pos h]
theorem ix_end {l : List Int} {a : Int} (h : a ∉ l) : ix (l ++ [a]) a = l.length := by unfold ix; rw [List.idxOf_append, if_neg h]; simp
theorem ix_cons {l : List Int} {w a : Int} (h : a ≠ w) : ix (w :: l) a = ix l a + 1 := by
  unfold ix
  rw [List.idxOf_cons, show (w == a) = false from beq_eq_false_iff_ne.mpr (Ne.symm h)]
  show ((l.idxOf a + 1 : Nat) : Int) = _
  omega
theorem ix_head {l : List Int} {w : Int} : ix (w :: l) w = 0 := by unfold ix; rw [List.idxOf_cons, beq_self_eq_true]; rfl
theorem ix_rev {x : List Int} (nd : x.Nodup) {a : Int} (h : a ∈ x) : ix x.reverse a = (x.length : Int) - 1 - ix x a := by
  have hl := idx_lt h
  have e : x.reverse[x.length - 1 - x.idxOf a]? = some a := by
    rw [List.getElem?_reverse (by omega), show x.length - 1 - (x.length - 1 - x.idxOf a) = x.idxOf a by omega]
    exact idx_get h
  have := idx_of (nd.perm (List.reverse_perm x).symm) e
  unfold ix
  rw [this]
  omega
inductive Pk : List Int → List Int → Prop
  | nil : Pk [] []
  | low {w : Int} {l b : List Int} : Pk l b → Pk (w :: l) (b ++ [w])
  | high {w : Int} {l b : List Int} : Pk l b → Pk (l ++ [w]) (b ++ [w])
theorem Pk.perm {l b : List Int} (h : Pk l b) : b.Perm l := by
  induction h with
  | nil => exact .nil
  | low h ih => exact (List.perm_append_comm).trans (List.Perm.cons _ ih)
  | high h ih => exact ih.append_right _
def NoDent (ax b : List Int) : Prop := ∀ x y z, x ∈ ax → y ∈ ax → z ∈ ax → ix ax x < ix ax y → ix ax y < ix ax z → ix b y < ix b x ∨ ix b y < ix b z
theorem Pk.noDent {l b : List Int} (h : Pk l b) : l.Nodup → NoDent l b := by
  induction h with
  | nil => intro _ x y z h; cases h
  | @low w l b h ih =>
    intro nd x y z hx hy hz h1 h2
    obtain ⟨hw, nd⟩ := List.nodup_cons.mp nd
    have hb : w ∉ b := fun k => hw (h.perm.mem_iff.mp k)
    have yw : y ≠ w := fun e => by subst e; rw [ix_head] at h1; unfold ix at h1; omega
    have zw : z ≠ w := fun e => by subst e; rw [ix_head] at h2; unfold ix at h2; omega
    have hy' : y ∈ l := (List.mem_cons.mp hy).resolve_left yw
    have hz' : z ∈ l := (List.mem_cons.mp hz).resolve_left zw
    have yb := h.perm.mem_iff.mpr hy'
    have zb := h.perm.mem_iff.mpr hz'
    by_cases xw : x = w
    · subst xw
      rw [ix_end hb, ix_app yb]
      exact .inl (ix_lt yb)
    · have hx' : x ∈ l := (List.mem_cons.mp hx).resolve_left xw
      rw [ix_app yb, ix_app zb, ix_app (h.perm.mem_iff.mpr hx')]
      rw [ix_cons xw, ix_cons yw] at h1
      rw [ix_cons yw, ix_cons zw] at h2
      exact ih nd x y z hx' hy' hz' (by omega) (by omega)
  | @high w l b h ih =>
    intro nd x y z hx hy hz h1 h2
    have nd2 := (List.perm_append_comm (l₁ := l) (l₂ := [w])).nodup_iff.mp nd
    have hw : w ∉ l := (List.nodup_cons.mp nd2).1
    replace nd : l.Nodup := (List.nodup_cons.mp nd2).2
    have hb : w ∉ b := fun k => hw (h.perm.mem_iff.mp k)
    have el : ∀ {u : Int}, u ∈ l ++ [w] → u ≠ w → u ∈ l := fun hu ne => (List.mem_append.mp hu).resolve_right fun k => ne (List.mem_singleton.mp k)
    have up : ∀ {u : Int}, u ∈ l ++ [w] → ix (l ++ [w]) u ≤ l.length := fun hu => by have := ix_lt hu; rw [List.length_append, List.length_singleton] at this; omega
    have yw : y ≠ w := fun e => by subst e; rw [ix_end hw] at h2; have := up hz; omega
    have hy' := el hy yw
    have yb := h.perm.mem_iff.mpr hy'
    have xw : x ≠ w := fun e => by subst e; rw [ix_end hw] at h1; have := up hy; omega
    have hx' := el hx xw
    have xb := h.perm.mem_iff.mpr hx'
    by_cases zw : z = w
    · subst zw
      rw [ix_end hb, ix_app yb]
      exact .inr (ix_lt yb)
    · have hz' := el hz zw
      rw [ix_app yb, ix_app xb, ix_app (h.perm.mem_iff.mpr hz')]
      rw [ix_app hx', ix_app hy'] at h1
      rw [ix_app hy', ix_app hz'] at h2
      exact ih nd x y z hx' hy' hz' h1 h2
theorem NoDent.rev {ax b : List Int} (nd : ax.Nodup) (h : NoDent ax b) : NoDent ax.reverse b := fun x y z hx hy hz h1 h2 => by
  rw [List.mem_reverse] at hx hy hz
  rw [ix_rev nd hx, ix_rev nd hy] at h1
  rw [ix_rev nd hy, ix_rev nd hz] at h2
  exact (h z y x hz hy hx (by omega) (by omega)).symm
theorem erase_last {α : Type} (l : List α) (w : α) : (l ++ [w]).eraseIdx l.length = l := by
  rw [List.eraseIdx_append_of_length_le (Nat.le_refl _), Nat.sub_self]; simp
theorem pk_loop {R : Type} {draw : List Int → Int → Option (Int × List Int)} {Ok : List Int → Prop} (hd : DrawOk draw Ok) : ∀ (n fuel : Nat) (found left : List Int) (b : List Int), left.length = n → n < fuel → found.length + n ≤ 900000 → Ok b →
    ∃ ys b', (whileR (R := R) (fun (s_1 : ((List Int) × (List Int) × (List Int))) => (some (!decide (s_1.2.1 = ([] : List Int))))) (fun s_1 => ((draw s_1.2.2 (2 : Int)).bind fun r_2 => ((popQ s_1.2.1 (if (decide (r_2.1 = (0 : Int))) then (0 : Int) else ((s_1.2.1.length : Int) - (1 : Int)))).bind fun p_3 => ((pushQ s_1.1 p_3.1).bind fun found_4 => (some (.go (found_4, p_3.2, r_2.2))))))) fuel (found, left, b)) = some (.go (found ++ ys, [], b')) ∧ Pk left ys.reverse ∧ Ok b'
  | 0, fuel + 1, found, left, b, hn, hf, hl, hb => by
    obtain rfl := List.length_eq_zero_iff.mp hn
    exact ⟨[], b, by simp [whileR], .nil, hb⟩
  | n + 1, fuel + 1, found, u :: left, b, hn, hf, hl, hb => by
    obtain ⟨r, b1, e, r0, r1, hb1⟩ := hd b 2 hb (by omega) (by omega)
    by_cases hr : r = 0
    · obtain ⟨x, e2, hx⟩ := popQ_ok (us := u :: left) (j := 0) (by omega) (by simp) (by omega)
      obtain ⟨ys, b2, e3, hp, hb2⟩ := pk_loop (R := R) hd n fuel (found ++ [x]) left b1 (by rw [List.length_cons] at hn; omega) (by omega) (by rw [List.length_append, List.length_cons, List.length_nil]; omega) hb1
      have hux : u = x := by simpa using hx
      refine ⟨x :: ys, b2, ?_, ?_, hb2⟩
      · have e2' : popQ (u :: left) 0 = some (x, left) := e2
        simp only [whileR, e, e2', hr, decide_true, if_true, Option.bind_some, pushQ_ok (x := x) (xs := found) (by omega), reduceCtorEq, decide_false, Bool.not_false]
        exact e3.trans (by simp)
      · rw [List.reverse_cons, hux]; exact .low hp
    · have hlen : ((u :: left).length : Int) - 1 = (left.length : Int) := by rw [List.length_cons]; omega
      obtain ⟨x, e2, hx⟩ := popQ_ok (us := u :: left) (j := (left.length : Int)) (by omega) (by simp; omega) (by omega)
      have hsp : u :: left = (u :: left).dropLast ++ [x] := by
        rw [Int.toNat_natCast] at hx
        have hg : (u :: left).getLast (by simp) = x := by
          have := List.getLast?_eq_getElem? (l := u :: left)
          rw [List.length_cons, Nat.add_sub_cancel, hx] at this
          exact Option.some.inj ((List.getLast?_eq_some_getLast (by simp)).symm.trans this)
        rw [← hg, List.dropLast_concat_getLast]
      generalize hm : (u :: left).dropLast = m at hsp
      have hml : m.length = left.length := by rw [← hm, List.length_dropLast, List.length_cons, Nat.add_sub_cancel]
      have hne : u :: left ≠ [] := by simp
      rw [Int.toNat_natCast] at e2
      rw [hsp] at e2 hlen hne ⊢
      rw [← hml, erase_last, hml] at e2
      obtain ⟨ys, b2, e3, hp, hb2⟩ := pk_loop (R := R) hd n fuel (found ++ [x]) m b1 (by rw [List.length_cons] at hn; omega) (by omega) (by rw [List.length_append, List.length_cons, List.length_nil]; omega) hb1
      refine ⟨x :: ys, b2, ?_, ?_, hb2⟩
      · simp only [whileR, e, hlen, e2, hr, hne, decide_false, Bool.not_false, Bool.false_eq_true, if_true, if_false, Option.bind_some, pushQ_ok (x := x) (xs := found) (by omega)]
        exact e3.trans (by simp)
      · rw [List.reverse_cons]; exact .high hp
  | n + 1, fuel + 1, found, [], b, hn, hf, hl, hb => by cases hn
  | 0, 0, _, _, _, _, hf, _, _ => absurd hf (Nat.lt_irrefl 0)
  | n + 1, 0, _, _, _, _, hf, _, _ => absurd hf (by omega)
theorem heads_loop {n : Int} {ax b : List Int} {R : Type} {no : R} (ha : Bal n ax) (hb : Bal n b) (nd : NoDent ax b) : ∀ (rest done : List Int) (lo hi : Int), b = done ++ rest → 0 ≤ lo → lo ≤ hi → hi < ax.length → (∀ o ∈ ax, o ∈ done ↔ lo ≤ ix ax o ∧ ix ax o ≤ hi) →
    ∃ s, foldR (R := R) (fun (s_3 : (Int × Int)) option_4 => ((idxQ ax option_4).bind fun ix_5 => (if (!decide (ix_5 ∈ [((s_3.1 - (1 : Int)), (s_3.2 + (1 : Int))).1, ((s_3.1 - (1 : Int)), (s_3.2 + (1 : Int))).2])) then (some (.out no)) else (some (.go ((if ix_5 < s_3.1 then ix_5 else s_3.1), (if ix_5 > s_3.2 then ix_5 else s_3.2))))))) rest (lo, hi) = some (.go s)
  | [], _, lo, hi, _, _, _, _, _ => ⟨_, rfl⟩
  | o :: rest, done, lo, hi, e, l0, lh, hl, hd => by
    have ob : o ∈ b := by rw [e]; simp
    have oa : o ∈ ax := ha.mem.mpr (hb.mem.mp ob)
    have bnd := hb.nodup
    rw [e] at bnd
    have od : o ∉ done := fun k => (List.nodup_append.mp bnd).2.2 o k o List.mem_cons_self rfl
    have rk : ix b o = done.length := by
      rw [e]; unfold ix
      rw [List.idxOf_append, if_neg od, List.idxOf_cons, beq_self_eq_true]; simp
    have rd : ∀ {u : Int}, u ∈ done → ix b u < done.length := fun {u} hu => by rw [e, ix_app hu]; exact ix_lt hu
    have ro : ∀ {u : Int}, u ∈ ax → u ∉ done → u ≠ o → ix b o < ix b u := fun {u} hu h1 h2 => by
      have ub : u ∈ b := hb.mem.mpr (ha.mem.mp hu)
      have h3 : (done.length : Int) ≤ ix b u := by rw [e]; unfold ix; rw [List.idxOf_append, if_neg h1]; omega
      have := ix_ne ub ob h2
      omega
    have al : ∀ {j : Int}, 0 ≤ j → j < ax.length → ∃ u ∈ ax, ix ax u = j := fun {j} h0 h1 => by
      obtain ⟨u, _, hu, hg⟩ := atI_ok (xs := ax) h0 h1
      exact ⟨u, hu, by unfold ix; rw [idx_of ha.nodup hg]; omega⟩
    have out := mt (hd o oa).mpr od
    have p0 : 0 ≤ ix ax o := by unfold ix; omega
    have p1 := ix_lt oa
    have hp : ix ax o = lo - 1 ∨ ix ax o = hi + 1 := by
      by_cases h : ix ax o < lo
      · left
        by_cases h2 : ix ax o = lo - 1
        · exact h2
        · exfalso
          obtain ⟨y, hy, ey⟩ := al (j := lo - 1) (by omega) (by omega)
          obtain ⟨z, hz, ez⟩ := al (j := lo) (by omega) (by omega)
          have yd := mt (hd y hy).mp (by omega)
          have zd := (hd z hz).mpr (by omega)
          have yo : y ≠ o := fun k => by subst k; omega
          have := ro hy yd yo
          have := rd zd
          rcases nd o y z oa hy hz (by omega) (by omega) with h | h <;> omega
      · right
        by_cases h2 : ix ax o = hi + 1
        · exact h2
        · exfalso
          obtain ⟨y, hy, ey⟩ := al (j := hi + 1) (by omega) (by omega)
          obtain ⟨z, hz, ez⟩ := al (j := hi) (by omega) (by omega)
          have yd := mt (hd y hy).mp (by omega)
          have zd := (hd z hz).mpr (by omega)
          have yo : y ≠ o := fun k => by subst k; omega
          have := ro hy yd yo
          have := rd zd
          rcases nd z y o hz hy oa (by omega) (by omega) with h | h <;> omega
    have ih := heads_loop (R := R) (no := no) ha hb nd rest (done ++ [o]) (if ix ax o < lo then ix ax o else lo) (if ix ax o > hi then ix ax o else hi) (by rw [e]; simp) (by split <;> omega) (by split <;> split <;> omega) (by split <;> omega) (fun u hu => by
      rw [List.mem_append, List.mem_singleton, hd u hu]
      constructor
      · rintro (h | h)
        · constructor <;> split <;> omega
        · subst h; constructor <;> split <;> omega
      · rintro ⟨h1, h2⟩
        by_cases h : lo ≤ ix ax u ∧ ix ax u ≤ hi
        · exact .inl h
        · right
          refine idx_inj hu oa ?_
          unfold ix at *
          split at h1 <;> split at h2 <;> omega)
    obtain ⟨s, es⟩ := ih
    refine ⟨s, ?_⟩
    have hc : (ix ax o) ∈ [lo - 1, hi + 1] := by rcases hp with h | h <;> rw [h] <;> simp
    simp only [foldR, idx_ok oa, Option.bind_some]
    rw [decide_eq_true hc]
    exact es
def mj (p q r : List Int) (a b : Int) : Bool := (decide (ix p a < ix p b) && decide (ix q a < ix q b)) || (decide (ix p a < ix p b) && decide (ix r a < ix r b)) || (decide (ix q a < ix q b) && decide (ix r a < ix r b))
theorem mj_iff {p q r : List Int} {a b : Int} : mj p q r a b = true ↔ (ix p a < ix p b ∧ ix q a < ix q b) ∨ (ix p a < ix p b ∧ ix r a < ix r b) ∨ (ix q a < ix q b ∧ ix r a < ix r b) := by
  unfold mj; simp only [Bool.or_eq_true, Bool.and_eq_true, decide_eq_true_eq, or_assoc]
theorem mj_asym {p q r : List Int} {a b : Int} (h1 : mj p q r a b = true) (h2 : mj p q r b a = true) : False := by
  rw [mj_iff] at h1 h2
  omega
theorem mj_tot {p q r : List Int} {a b : Int} (hp : ix p a ≠ ix p b) (hq : ix q a ≠ ix q b) (hr : ix r a ≠ ix r b) (h : mj p q r a b = false) : mj p q r b a = true := by
  have h := mt mj_iff.mpr (by rw [h]; decide)
  rw [mj_iff]
  omega
theorem tri {p1 p2 p3 q1 q2 q3 r1 r2 r3 : Int} (np : p1 ≠ p3) (nq : q1 ≠ q3) (nr : r1 ≠ r3) (h1 : (p1 < p2 ∧ q1 < q2) ∨ (p1 < p2 ∧ r1 < r2) ∨ (q1 < q2 ∧ r1 < r2)) (h2 : (p2 < p3 ∧ q2 < q3) ∨ (p2 < p3 ∧ r2 < r3) ∨ (q2 < q3 ∧ r2 < r3))
    (h : ((p2 < p1 ∨ p2 < p3) ∧ (q2 < q1 ∨ q2 < q3) ∧ (r2 < r1 ∨ r2 < r3)) ∨ ((p1 < p2 ∨ p1 < p3) ∧ (q1 < q2 ∨ q1 < q3) ∧ (r1 < r2 ∨ r1 < r3)) ∨ ((p3 < p1 ∨ p3 < p2) ∧ (q3 < q1 ∨ q3 < q2) ∧ (r3 < r1 ∨ r3 < r2))) :
    (p1 < p3 ∧ q1 < q3) ∨ (p1 < p3 ∧ r1 < r3) ∨ (q1 < q3 ∧ r1 < r3) := by
  rcases h with ⟨a, b, c⟩ | ⟨a, b, c⟩ | ⟨a, b, c⟩ <;> rcases h1 with ⟨u, v⟩ | ⟨u, v⟩ | ⟨u, v⟩ <;> rcases h2 with ⟨x, y⟩ | ⟨x, y⟩ | ⟨x, y⟩ <;> omega
section
variable {n : Int} {ax p q r : List Int} (ha : Bal n ax) (hp : Bal n p) (hq : Bal n q) (hr : Bal n r) (dp : NoDent ax p) (dq : NoDent ax q) (dr : NoDent ax r)
include ha hp hq hr
theorem bal_ne {xs : List Int} (hx : Bal n xs) {a b : Int} (ma : a ∈ ax) (mb : b ∈ ax) (ne : a ≠ b) : ix xs a ≠ ix xs b := ix_ne (hx.mem.mpr (ha.mem.mp ma)) (hx.mem.mpr (ha.mem.mp mb)) ne
include dp dq dr
theorem mj_trans {a b c : Int} (ma : a ∈ ax) (mb : b ∈ ax) (mc : c ∈ ax) (h1 : mj p q r a b = true) (h2 : mj p q r b c = true) : mj p q r a c = true := by
  have ac : a ≠ c := fun e => by subst e; exact mj_asym h1 h2
  have ab : a ≠ b := fun e => by subst e; exact mj_asym h1 h1
  have bc : b ≠ c := fun e => by subst e; exact mj_asym h2 h2
  rw [mj_iff] at h1 h2 ⊢
  have n1 := ix_ne ma mb ab
  have n2 := ix_ne mb mc bc
  have n3 := ix_ne ma mc ac
  refine tri (bal_ne ha hp hq hr hp ma mc ac) (bal_ne ha hp hq hr hq ma mc ac) (bal_ne ha hp hq hr hr ma mc ac) h1 h2 ?_
  have F : ∀ {x y z : Int}, x ∈ ax → y ∈ ax → z ∈ ax → ix ax x < ix ax y → ix ax y < ix ax z → (ix p y < ix p x ∨ ix p y < ix p z) ∧ (ix q y < ix q x ∨ ix q y < ix q z) ∧ (ix r y < ix r x ∨ ix r y < ix r z) := fun hx hy hz h1 h2 => ⟨dp _ _ _ hx hy hz h1 h2, dq _ _ _ hx hy hz h1 h2, dr _ _ _ hx hy hz h1 h2⟩
  rcases Int.lt_or_lt_of_ne n1 with h | h <;> rcases Int.lt_or_lt_of_ne n2 with h' | h'
  · exact .inl (F ma mb mc h h')
  · rcases Int.lt_or_lt_of_ne n3 with h'' | h''
    · obtain ⟨a1, a2, a3⟩ := F ma mc mb h'' h'; exact .inr (.inr ⟨a1, a2, a3⟩)
    · obtain ⟨a1, a2, a3⟩ := F mc ma mb h'' h; exact .inr (.inl ⟨a1.symm, a2.symm, a3.symm⟩)
  · rcases Int.lt_or_lt_of_ne n3 with h'' | h''
    · obtain ⟨a1, a2, a3⟩ := F mb ma mc h h''; exact .inr (.inl ⟨a1, a2, a3⟩)
    · obtain ⟨a1, a2, a3⟩ := F mb mc ma h' h''; exact .inr (.inr ⟨a1.symm, a2.symm, a3.symm⟩)
  · obtain ⟨a1, a2, a3⟩ := F mc mb ma h' h; exact .inl ⟨a1.symm, a2.symm, a3.symm⟩
end
def put1 (M : Int → Int → Bool) (o : Int) (l : List Int) : List Int := l.takeWhile (fun h => M h o) ++ o :: l.dropWhile (fun h => M h o)
theorem put1_perm (M : Int → Int → Bool) (o : Int) (l : List Int) : (put1 M o l).Perm (o :: l) := by
  unfold put1
  refine List.perm_middle.trans (.cons o ?_)
  rw [List.takeWhile_append_dropWhile]
theorem put1_pw {M : Int → Int → Bool} {S : Int → Prop} (tr : ∀ a b c, S a → S b → S c → M a b = true → M b c = true → M a c = true) (tot : ∀ a b, S a → S b → a ≠ b → M a b = false → M b a = true) {o : Int} {l : List Int} (ho : S o) (hl : ∀ x ∈ l, S x) (hn : o ∉ l) (h : l.Pairwise (M · · = true)) : (put1 M o l).Pairwise (M · · = true) := by
  unfold put1
  have hs : l.takeWhile (fun h => M h o) ++ l.dropWhile (fun h => M h o) = l := List.takeWhile_append_dropWhile
  have h2 := h
  rw [← hs, List.pairwise_append] at h2
  have ht : ∀ x ∈ l.takeWhile (fun h => M h o), M x o = true := fun x hx => List.all_eq_true.mp (List.all_takeWhile (p := fun h => M h o) (l := l)) x hx
  have hd : ∀ x ∈ l.dropWhile (fun h => M h o), M o x = true := by
    cases hc : l.dropWhile (fun h => M h o) with
    | nil => intro x hx; cases hx
    | cons y m =>
      have hy : M y o = false := by
        have := List.head?_dropWhile_not (fun h => M h o) l
        rw [hc] at this
        simpa using this
      have my : y ∈ l := by rw [← hs, hc]; simp
      have hoy : M o y = true := tot y o (hl y my) ho (fun e => hn (e ▸ my)) hy
      intro x hx
      rcases List.mem_cons.mp hx with rfl | hx
      · exact hoy
      · rw [hc, List.pairwise_cons] at h2
        exact tr o y x ho (hl y my) (hl x (by rw [← hs, hc]; simp [hx])) hoy (h2.2.1.1 x hx)
  rw [List.pairwise_append, List.pairwise_cons]
  refine ⟨h2.1, ⟨hd, h2.2.1⟩, fun a ha b hb => ?_⟩
  rcases List.mem_cons.mp hb with rfl | hb
  · exact ht a ha
  · exact h2.2.2 a ha b hb
def putAll (M : Int → Int → Bool) : List Int → List Int → List Int
  | [], f => f
  | o :: l, f => putAll M l (put1 M o f)
theorem putAll_ok {M : Int → Int → Bool} {S : Int → Prop} (tr : ∀ a b c, S a → S b → S c → M a b = true → M b c = true → M a c = true) (tot : ∀ a b, S a → S b → a ≠ b → M a b = false → M b a = true) : ∀ (l f : List Int), (f ++ l).Nodup → (∀ x ∈ f ++ l, S x) → f.Pairwise (M · · = true) → (putAll M l f).Perm (f ++ l) ∧ (putAll M l f).Pairwise (M · · = true)
  | [], f, _, _, h => ⟨by rw [List.append_nil]; exact .refl _, h⟩
  | o :: l, f, nd, hs, h => by
    have e : (put1 M o f ++ l).Perm (f ++ o :: l) := ((put1_perm M o f).append_right l).trans List.perm_middle.symm
    have hn : o ∉ f := fun k => (List.nodup_append.mp nd).2.2 o k o List.mem_cons_self rfl
    have ih := putAll_ok tr tot l (put1 M o f) (e.nodup_iff.mpr nd) (fun x hx => hs x (e.mem_iff.mp hx)) (put1_pw tr tot (hs o (by simp)) (fun x hx => hs x (List.mem_append_left _ hx)) hn h)
    exact ⟨ih.1.trans e, ih.2⟩
theorem pw_uniq {M : Int → Int → Bool} (as : ∀ a b, M a b = true → M b a = true → False) {l m : List Int} (hp : l.Perm m) (h1 : l.Pairwise (M · · = true)) (h2 : m.Pairwise (M · · = true)) : l = m := hp.eq_of_pairwise (fun a b _ _ h k => (as a b h k).elim) h1 h2
theorem pw_ix {M : Int → Int → Bool} (as : ∀ a b, M a b = true → M b a = true → False) {l : List Int} (h : l.Pairwise (M · · = true)) {a b : Int} (ha : a ∈ l) (hb : b ∈ l) (ne : a ≠ b) : ix l a < ix l b ↔ M a b = true := by
  have key : ∀ {a b : Int}, a ∈ l → b ∈ l → ix l a < ix l b → M a b = true := fun {a b} ha hb hlt => by
    have h1 := idx_lt ha
    have h2 := idx_lt hb
    have := List.pairwise_iff_getElem.mp h (l.idxOf a) (l.idxOf b) h1 h2 (by unfold ix at hlt; omega)
    rwa [List.getElem_idxOf h1, List.getElem_idxOf h2] at this
  refine ⟨key ha hb, fun hm => ?_⟩
  have := ix_ne ha hb ne
  by_cases hlt : ix l a < ix l b
  · exact hlt
  · exact (as a b hm (key hb ha (by omega))).elim
theorem up_loop {R : Type} {f : List Int} {o : Int} {M : Int → Int → Bool} {c : Int → Option Bool} (hc1 : ∀ i : Nat, ∀ h, f[i]? = some h → c i = some (M h o)) (hc2 : c (f.length : Int) = some false) : ∀ (fuel i : Nat), f.length - i < fuel → i ≤ (f.takeWhile (fun h => M h o)).length →
    whileR (R := R) c (fun s_3 => (some (.go (s_3 + (1 : Int))))) fuel (i : Int) = some (.go ((f.takeWhile (fun h => M h o)).length : Int))
  | 0, i, hf, _ => absurd hf (Nat.not_lt_zero _)
  | fuel + 1, i, hf, hi => by
    have hs : f.takeWhile (fun h => M h o) ++ f.dropWhile (fun h => M h o) = f := List.takeWhile_append_dropWhile
    have hle : (f.takeWhile (fun h => M h o)).length ≤ f.length := by conv => rhs; rw [← hs, List.length_append]
                                                                      omega
    unfold whileR
    by_cases hlt : i < (f.takeWhile (fun h => M h o)).length
    · have hg : f[i]? = some ((f.takeWhile (fun h => M h o))[i]) := by
        conv => lhs; rw [← hs]
        rw [List.getElem?_append_left hlt, List.getElem?_eq_getElem hlt]
      have hm : M ((f.takeWhile (fun h => M h o))[i]) o = true := List.all_eq_true.mp (List.all_takeWhile (p := fun h => M h o) (l := f)) _ (List.getElem_mem hlt)
      rw [hc1 i _ hg, hm, Option.bind_some, if_pos rfl, Option.bind_some]
      exact up_loop hc1 hc2 fuel (i + 1) (by omega) (by omega)
    · have hi' : i = (f.takeWhile (fun h => M h o)).length := by omega
      have hcf : c (i : Int) = some false := by
        cases hd : f.dropWhile (fun h => M h o) with
        | nil =>
          rw [hd, List.append_nil] at hs
          rw [hi', hs]; exact hc2
        | cons y m =>
          have hy : M y o = false := by
            have := List.head?_dropWhile_not (fun h => M h o) f
            rw [hd] at this
            simpa using this
          have hg : f[i]? = some y := by
            conv => lhs; rw [← hs]
            rw [List.getElem?_append_right (by omega), hd, hi', Nat.sub_self]; rfl
          rw [hc1 i _ hg, hy]
      rw [hcf, Option.bind_some, if_neg (by decide), hi']
theorem ins_ok {M : Int → Int → Bool} {o : Int} {f : List Int} (h : f.length < 1000000) : insQ f ((f.takeWhile (fun h => M h o)).length : Int) o = some (put1 M o f) := by
  have hs : f.takeWhile (fun h => M h o) ++ f.dropWhile (fun h => M h o) = f := List.takeWhile_append_dropWhile
  have hle : (f.takeWhile (fun h => M h o)).length ≤ f.length := by conv => rhs; rw [← hs, List.length_append]
                                                                    omega
  unfold insQ put1
  rw [if_pos ⟨by omega, by rw [Int.toNat_natCast]; exact hle, h⟩, Int.toNat_natCast]
  congr 1
  generalize ht : f.takeWhile (fun h => M h o) = t at hs
  generalize hd : f.dropWhile (fun h => M h o) = d at hs
  rw [← hs, List.take_left, List.drop_left]
theorem cnt_add {α : Type} {p r s : α → Bool} : ∀ {L : List α}, (∀ q ∈ L, (p q).toNat + (r q).toNat = (s q).toNat) → (L.filter p).length + (L.filter r).length = (L.filter s).length
  | [], _ => rfl
  | x :: L, h => by
    have ih := cnt_add (L := L) fun q hq => h q (List.mem_cons_of_mem _ hq)
    have hx := h x List.mem_cons_self
    simp only [List.filter_cons]
    cases e1 : p x <;> cases e2 : r x <;> cases e3 : s x <;> simp_all <;> omega
theorem cnt_le {α : Type} {p r s : α → Bool} : ∀ {L : List α}, (∀ q ∈ L, (s q).toNat ≤ (p q).toNat + (r q).toNat) → (L.filter s).length ≤ (L.filter p).length + (L.filter r).length
  | [], _ => Nat.le_refl _
  | x :: L, h => by
    have ih := cnt_le (L := L) fun q hq => h q (List.mem_cons_of_mem _ hq)
    have hx := h x List.mem_cons_self
    simp only [List.filter_cons]
    cases e1 : p x <;> cases e2 : r x <;> cases e3 : s x <;> simp_all <;> omega
theorem cnt_eq {α : Type} {p r s : α → Bool} : ∀ {L : List α}, (∀ q ∈ L, (s q).toNat ≤ (p q).toNat + (r q).toNat) → (L.filter p).length + (L.filter r).length = (L.filter s).length → ∀ q ∈ L, (p q).toNat + (r q).toNat = (s q).toNat
  | [], _, _ => fun q hq => nomatch hq
  | x :: L, h, e => by
    have hL := fun q hq => h q (List.mem_cons_of_mem _ hq)
    have le := cnt_le (L := L) hL
    have hx := h x List.mem_cons_self
    have key : (L.filter p).length + (L.filter r).length = (L.filter s).length ∧ (p x).toNat + (r x).toNat = (s x).toNat := by
      simp only [List.filter_cons] at e
      cases e1 : p x <;> cases e2 : r x <;> cases e3 : s x <;> simp_all <;> omega
    intro q hq
    rcases List.mem_cons.mp hq with rfl | hq
    · exact key.2
    · exact cnt_eq hL key.1 q hq
def rowsN (n : Int) : Nat → List (List Int)
  | 0 => [[]]
  | k + 1 => (rowsN n k).flatMap fun row => ((rgF 0 n).filter fun o => !decide (o ∈ row)).map fun o => row ++ [o]
theorem mem_rowsN {n : Int} : ∀ {k : Nat} {row : List Int}, row ∈ rowsN n k ↔ row.Nodup ∧ row.length = k ∧ ∀ x ∈ row, 0 ≤ x ∧ x < n
  | 0, row => by
    unfold rowsN
    rw [List.mem_singleton]
    constructor
    · rintro rfl; exact ⟨.nil, rfl, fun x h => nomatch h⟩
    · rintro ⟨_, h, _⟩; exact List.length_eq_zero_iff.mp h
  | k + 1, row => by
    unfold rowsN
    simp only [List.mem_flatMap, List.mem_map, List.mem_filter, mem_rgF, Bool.not_eq_true', decide_eq_false_iff_not]
    constructor
    · rintro ⟨r, hr, o, ⟨ho, hn⟩, rfl⟩
      obtain ⟨h1, h2, h3⟩ := mem_rowsN.mp hr
      refine ⟨?_, by rw [List.length_append, h2]; rfl, fun x hx => ?_⟩
      · rw [List.nodup_append]
        exact ⟨h1, by simp, fun a ha b hb => by rw [List.mem_singleton] at hb; subst hb; exact fun e => hn (e ▸ ha)⟩
      · rcases List.mem_append.mp hx with h | h
        · exact h3 x h
        · rw [List.mem_singleton] at h; subst h; exact ho
    · rintro ⟨h1, h2, h3⟩
      have hne : row ≠ [] := fun e => by rw [e] at h2; cases h2
      have hs := List.dropLast_concat_getLast hne
      rw [← hs, List.nodup_append] at h1
      refine ⟨row.dropLast, mem_rowsN.mpr ⟨h1.1, by rw [List.length_dropLast, h2]; rfl, fun x hx => h3 x (List.dropLast_subset row hx)⟩, row.getLast hne, ⟨h3 _ (List.getLast_mem hne), fun hm => h1.2.2 _ hm _ (by simp) rfl⟩, hs⟩
theorem rowsN_nodup {n : Int} : ∀ k : Nat, (rowsN n k).Nodup
  | 0 => by unfold rowsN; simp
  | k + 1 => by
    unfold rowsN
    unfold List.Nodup
    rw [List.pairwise_flatMap]
    refine ⟨fun r _ => ?_, (rowsN_nodup k).imp fun {a b} ne x hx y hy e => ?_⟩
    · rw [List.pairwise_map]
      exact ((rgF_nodup (a := 0) (b := n)).filter _).imp fun {a b} ne e => ne (List.cons.inj (List.append_cancel_left e)).1
    · obtain ⟨o, _, rfl⟩ := List.mem_map.mp hx
      obtain ⟨o', _, rfl⟩ := List.mem_map.mp hy
      exact ne (List.append_inj_left' e rfl)
theorem rowsN_len {n : Int} : ∀ k : Nat, (rowsN n k).length ≤ n.toNat ^ k
  | 0 => Nat.le_refl _
  | k + 1 => by
    unfold rowsN
    have : ∀ l : List (List Int), (l.flatMap fun row => ((rgF 0 n).filter fun o => !decide (o ∈ row)).map fun o => row ++ [o]).length ≤ l.length * n.toNat := fun l => by
      induction l with
      | nil => simp
      | cons a l ih =>
        rw [List.flatMap_cons, List.length_append, List.length_map, List.length_cons, Nat.succ_mul]
        have := List.length_filter_le (fun o => !decide (o ∈ a)) (rgF 0 n)
        rw [rgF_len] at this
        omega
    refine Nat.le_trans (this _) ?_
    rw [Nat.pow_succ]
    exact Nat.mul_le_mul_right _ (rowsN_len k)
theorem bal_rows {n : Int} {row : List Int} : row ∈ rowsN n n.toNat ↔ Bal n row := by
  rw [mem_rowsN]
  exact ⟨fun ⟨h1, h2, h3⟩ => Bal.of h1 h3 h2, fun h => ⟨h.nodup, h.len, fun x hx => h.mem.mp hx⟩⟩
theorem only_one {α : Type} [DecidableEq α] {l : List α} {p : α → Bool} {x : α} (nd : l.Nodup) (hx : x ∈ l) (hp : ∀ y ∈ l, p y = true ↔ y = x) : l.filter p = [x] := by
  have h1 : l.filter p = l.filter (· == x) := List.filter_congr fun y hy => by rw [Bool.eq_iff_iff, hp y hy, beq_iff_eq]
  rw [h1, List.filter_beq, nd.count, if_pos hx]; rfl
theorem fold_filter {α : Type} {f : List α → α → Option (List α)} {P : α → Bool} : ∀ (rows acc : List α), (∀ b ∈ rows, ∀ s : List α, s.length < 1000000 → f s b = some (if P b then s ++ [b] else s)) → acc.length + rows.length ≤ 1000000 → foldQ f rows acc = some (acc ++ rows.filter P)
  | [], acc, _, _ => by simp [foldQ]
  | b :: rows, acc, h, hl => by
    rw [List.length_cons] at hl
    rw [foldQ, h b List.mem_cons_self acc (by omega), Option.bind_some]
    cases e : P b with
    | true => rw [if_pos rfl, fold_filter rows (acc ++ [b]) (fun c hc => h c (List.mem_cons_of_mem _ hc)) (by rw [List.length_append, List.length_singleton]; omega), List.filter_cons_of_pos e, List.append_assoc]; rfl
    | false => rw [if_neg (by decide), fold_filter rows acc (fun c hc => h c (List.mem_cons_of_mem _ hc)) (by omega), List.filter_cons_of_neg (by rw [e]; decide)]
end Tv
namespace Tv
open PySem Dv
variable {env : Env} {fa : ES} {α : Type} {em : α → D} {xs : List α}
theorem cutR_map (xs : List α) (lo hi : Option Int) : Dv.cutR (xs.map em) lo hi = (Dv.cutR xs lo hi).map em := by
  unfold Dv.cutR
  rw [List.length_map, List.map_reverse, List.map_drop, List.map_take]
theorem pe_cutRT {fl fh : M (Option Int)} {lo hi : Option Int} (ha : Pv env fa (mT em xs)) (hl : Po env fl lo) (hh : Po env fh hi) : Pe env (eRv fa fl fh) (mT em (Dv.cutR xs lo hi)) := fun ρ q => by
  obtain ⟨⟨r, e1, l1⟩, w⟩ := ha ρ q
  rw [mT, ← cutR_map]
  refine ⟨by simp only [eRv, M.bind, e1, val, l1, hl ρ q, hh ρ q, mT, gRv, M.opt, M.ret], wf_tup.mpr ⟨?_, wfs_sub (wf_tup.mp w).2 fun y hy => ?_⟩⟩
  · unfold Dv.cutR
    rw [List.length_reverse, List.length_drop, List.length_take]
    have := (wf_tup.mp w).1
    omega
  · unfold Dv.cutR at hy
    exact List.mem_of_mem_take (List.mem_of_mem_drop (List.mem_reverse.mp hy))
end Tv
namespace Tv
open PySem Dv
theorem or_ifE {α σ : Type} {em : α → D} {E : σ → Env} {c : Bool} {env e1 : Env} {g : M Bool} {fa fb : ES} {ta tb : Option (α × σ)} (hc : Rb env g c e1) (ha : Oj (fun y => Re e1 fa (em y.1) (E y.2)) ta) (hb : Oj (fun y => Re e1 fb (em y.1) (E y.2)) tb) : Oj (fun y => Re env (eIf g fa fb) (em y.1) (E y.2)) (if c then ta else tb) := fun y e ρ q => by
  obtain ⟨ρ1, f1, a1⟩ := hc ρ q
  cases c with
  | true =>
    obtain ⟨⟨ρ2, f2, a2⟩, w2⟩ := ha y (by simpa using e) ρ1 a1
    exact ⟨⟨ρ2, by simp [eIf, M.bind, f1, f2], a2⟩, w2⟩
  | false =>
    obtain ⟨⟨ρ2, f2, a2⟩, w2⟩ := hb y (by simpa using e) ρ1 a1
    exact ⟨⟨ρ2, by simp [eIf, M.bind, f1, f2], a2⟩, w2⟩
end Tv
namespace Tv
open PySem Dv
def popEQ {α : Type} (us : List α) : Option (α × List α) := (us[us.length - 1]?).map fun x => (x, us.dropLast)
theorem or_popE {α : Type} {em : α → D} {us : List α} {env e1 : Env} {fs : M (List RV)} {k0 k : Kn} {K : List D → Kn} {ys0 : List D} {i : Nat} (l0 : Lent k0 K ys0) (h0 : env[i]? = some k0) (ha : Ra env fs [] e1) (l : Lent k K (us.map em)) (h : e1[i]? = some k) : Oj (fun r => Re env (eMt i cPop fs) (em r.1) (e1.set i (K (r.2.map em)))) (popEQ us) := fun r e ρ q => by
  obtain ⟨_, _, la, _⟩ := lent_at l0 q h0
  obtain ⟨⟨ρ1, e2, a1⟩, _⟩ := ha ρ q
  obtain ⟨_, _, lb, lp⟩ := lent_at l a1 h
  have wz : wl (us.map em) := by
    cases l with
    | ow => exact (a1.get h).2
    | bo => exact (a1.get h).2
  unfold popEQ at e
  cases e4 : us[us.length - 1]? with
  | none => rw [e4] at e; cases e
  | some x =>
    rw [e4] at e
    cases e
    have wy : wl ((us.dropLast).map em) := by
      refine ⟨?_, wfs_sub wz.2 fun y hy => ?_⟩
      · have := wz.1; rw [List.length_map] at this ⊢; rw [List.length_dropLast]; omega
      · obtain ⟨z, hz, rfl⟩ := List.mem_map.mp hy
        exact List.mem_map_of_mem (List.dropLast_subset us hz)
    obtain ⟨_, ag⟩ := lp _ wy
    refine ⟨⟨_, ?_, ag⟩, wfs_iff.mp wz.2 _ (List.mem_map_of_mem (List.mem_of_getElem? e4))⟩
    unfold eMt
    rw [la]
    simp only [M.bind, e2, imms_im, lb, cPop, List.length_map, popK, List.getElem?_map, e4, Option.map_some, List.map_dropLast]
end Tv
namespace Tv
open PySem Dv
theorem rows_cost {l : List (List Int)} {c : Nat} (h : ∀ r ∈ l, r.length ≤ c ∧ ∀ x ∈ r, x.natAbs < 10 ^ 18) : pls 49 (l.map (mT mI)) = true ∧ costs (l.map (mT mI)) ≤ (22 * c + 5) * l.length := by
  have ip : ∀ {r : List Int} (n : Nat), pls n (r.map mI) = true := by
    intro r n
    induction r with
    | nil => simp [pls]
    | cons a r ih => rw [List.map_cons, pls, ih, pl_int]; rfl
  induction l with
  | nil => exact ⟨by simp [pls], by simp [costs]⟩
  | cons a r ih =>
    obtain ⟨h1, h2⟩ := ih fun x hx => h x (List.mem_cons_of_mem _ hx)
    obtain ⟨h3, h4⟩ := h a List.mem_cons_self
    obtain ⟨_, h6⟩ := ints_cost h4
    refine ⟨?_, ?_⟩
    · rw [List.map_cons, pls, h1, mT, pl.eq_def]
      simp only [ip, Bool.and_self]
    · rw [List.map_cons, costs, mT, cost, h6, List.length_cons]
      have : 22 * a.length ≤ 22 * c := Nat.mul_le_mul_left _ h3
      rw [Nat.mul_succ]
      omega
theorem ok_rowsT {l : List (List Int)} (h : ∀ r ∈ l, r.length ≤ 100 ∧ ∀ x ∈ r, x.natAbs < 10 ^ 18) (hl : l.length ≤ 5000) : okR (mT (mT mI) l) = true := by
  obtain ⟨h1, h2⟩ := rows_cost h
  unfold okR
  rw [Bool.and_eq_true]
  refine ⟨?_, decide_eq_true ?_⟩
  · rw [mT, pl.eq_def]; exact h1
  · rw [mT, cost]
    have : (22 * 100 + 5) * l.length ≤ (22 * 100 + 5) * 5000 := Nat.mul_le_mul_left _ hl
    omega
theorem sam_rows {l : List (List Int)} (h : ∀ r ∈ l, r.length ≤ 100 ∧ ∀ x ∈ r, x.natAbs < 10 ^ 18) (hl : l.length ≤ 5000) : samQ (mT (mT mI)) l l = some true := sam_of (ok_rowsT h hl)
theorem sam_intsT {l : List Int} (h : ∀ x ∈ l, x.natAbs < 10 ^ 18) (hl : l.length ≤ 1000) : samQ (mT mI) l l = some true := sam_of (ok_intsT h hl)
theorem sortR_uniq {l m : List (List Int)} (hp : l.Perm m) (hm : m.Pairwise (ltI · · = true)) : sortR l = m := by
  refine ((sortR_perm l).trans hp).eq_of_pairwise (fun a b _ _ h k => ?_) (sortR_sorted l) (hm.imp fun h => by rw [ltI_asym h]; rfl)
  refine ltI_tri a b ?_ ?_
  · simpa using k
  · simpa using h
theorem ltI_same (a : List Int) {x y : Int} (h : x < y) : ltI (a ++ [x]) (a ++ [y]) = true := by
  induction a with
  | nil => simp [ltI, h]
  | cons c a ih => simp [ltI, ih]
theorem ltI_more {a b : List Int} (hl : a.length = b.length) (h : ltI a b = true) (x y : Int) : ltI (a ++ [x]) (b ++ [y]) = true := by
  induction a generalizing b with
  | nil => cases b with
    | nil => simp [ltI] at h
    | cons c b => simp at hl
  | cons c a ih => cases b with
    | nil => simp at hl
    | cons d b =>
      simp only [ltI, Bool.or_eq_true, Bool.and_eq_true, decide_eq_true_eq] at h
      simp only [List.cons_append, ltI, Bool.or_eq_true, Bool.and_eq_true, decide_eq_true_eq]
      rcases h with h | ⟨h1, h2⟩
      · exact .inl h
      · exact .inr ⟨h1, ih (by simpa using hl) h2⟩
theorem rowsN_sorted {n : Int} : ∀ k : Nat, (rowsN n k).Pairwise (ltI · · = true)
  | 0 => by unfold rowsN; simp
  | k + 1 => by
    unfold rowsN
    rw [List.pairwise_flatMap]
    refine ⟨fun r _ => ?_, ?_⟩
    · rw [List.pairwise_map]
      exact (rgF_sorted.filter _).imp fun h => ltI_same r h
    · refine List.Pairwise.imp_of_mem (fun {a b} ha hb h => ?_) (rowsN_sorted k)
      intro x hx y hy
      obtain ⟨o, _, rfl⟩ := List.mem_map.mp hx
      obtain ⟨o', _, rfl⟩ := List.mem_map.mp hy
      exact ltI_more (by rw [(mem_rowsN.mp ha).2.1, (mem_rowsN.mp hb).2.1]) h o o'
theorem last_ix {b : List Int} {w x : Int} (nd : (b ++ [w]).Nodup) (hx : x ∈ b ++ [w]) : ix (b ++ [w]) x ≤ ix (b ++ [w]) w := by
  have hw : w ∉ b := fun k => (List.nodup_append.mp nd).2.2 w k w (by simp) rfl
  rw [ix_end hw]
  have := ix_lt hx
  rw [List.length_append, List.length_singleton] at this
  omega
theorem pk_of : ∀ (n : Nat) (l b : List Int), l.length = n → l.Nodup → b.Perm l → NoDent l b → Pk l b
  | 0, l, b, hn, _, hp, _ => by
    obtain rfl := List.length_eq_zero_iff.mp hn
    rw [List.perm_nil.mp hp]; exact .nil
  | n + 1, l, b, hn, nd, hp, hd => by
    have hbn : b.length = n + 1 := by rw [hp.length_eq, hn]
    have hbe : b ≠ [] := fun e => by rw [e] at hbn; cases hbn
    obtain ⟨b', w, rfl⟩ : ∃ b' w, b = b' ++ [w] := ⟨b.dropLast, b.getLast hbe, (List.dropLast_concat_getLast hbe).symm⟩
    have nb := hp.nodup_iff.mpr nd
    have hw : w ∉ b' := fun k => (List.nodup_append.mp nb).2.2 w k w (by simp) rfl
    have wl : w ∈ l := hp.mem_iff.mp (by simp)
    match l, hn, nd, hp, hd, wl with
    | u :: l', hn, nd, hp, hd, wl =>
      obtain ⟨hu, nd'⟩ := List.nodup_cons.mp nd
      by_cases hwu : w = u
      · subst hwu
        have hp' : b'.Perm l' := (List.perm_cons w).mp ((List.perm_append_comm (l₁ := [w]) (l₂ := b')).trans hp)
        refine .low (pk_of n l' b' (by simpa using hn) nd' hp' fun x y z hx hy hz h1 h2 => ?_)
        have xw : x ≠ w := fun e => hu (e ▸ hx)
        have yw : y ≠ w := fun e => hu (e ▸ hy)
        have zw : z ≠ w := fun e => hu (e ▸ hz)
        have := hd x y z (List.mem_cons_of_mem _ hx) (List.mem_cons_of_mem _ hy) (List.mem_cons_of_mem _ hz) (by rw [ix_cons xw, ix_cons yw]; omega) (by rw [ix_cons yw, ix_cons zw]; omega)
        rwa [ix_app (hp'.mem_iff.mpr hx), ix_app (hp'.mem_iff.mpr hy), ix_app (hp'.mem_iff.mpr hz)] at this
      · have hle : u :: l' ≠ [] := by simp
        have hs := List.dropLast_concat_getLast hle
        generalize (u :: l').dropLast = m at hs
        generalize hv : (u :: l').getLast hle = v at hs
        have vl : v ∈ u :: l' := by rw [← hs]; simp
        by_cases hwv : w = v
        · subst hwv
          rw [← hs] at nd hp hd hn ⊢
          have hm : w ∉ m := fun k => (List.nodup_append.mp nd).2.2 w k w (by simp) rfl
          have hp' : b'.Perm m := (List.perm_append_right_iff [w]).mp hp
          refine .high (pk_of n m b' (by simpa using hn) (List.nodup_append.mp nd).1 hp' fun x y z hx hy hz h1 h2 => ?_)
          have := hd x y z (List.mem_append_left _ hx) (List.mem_append_left _ hy) (List.mem_append_left _ hz) (by rw [ix_app hx, ix_app hy]; exact h1) (by rw [ix_app hy, ix_app hz]; exact h2)
          rwa [ix_app (hp'.mem_iff.mpr hx), ix_app (hp'.mem_iff.mpr hy), ix_app (hp'.mem_iff.mpr hz)] at this
        · exfalso
          have h1 : ix (u :: l') u < ix (u :: l') w := by
            rw [ix_head, ix_cons hwu]; unfold ix; omega
          have h2 : ix (u :: l') w < ix (u :: l') v := by
            have := last_ix (b := m) (w := v) (x := w) (by rw [hs]; exact nd) (by rw [hs]; exact wl)
            have ne := ix_ne (x := m ++ [v]) (a := w) (b := v) (by rw [hs]; exact wl) (by simp) hwv
            rw [hs] at this ne
            omega
          have := hd u w v List.mem_cons_self wl vl h1 h2
          have q1 := last_ix nb (hp.mem_iff.mpr (List.mem_cons_self (a := u) (l := l')))
          have q2 := last_ix nb (hp.mem_iff.mpr vl)
          omega
    | [], hn, _, _, _, _ => cases hn
theorem pk_iff {l b : List Int} (nd : l.Nodup) (hp : b.Perm l) : Pk l b ↔ NoDent l b := ⟨fun h => h.noDent nd, pk_of _ l b rfl nd hp⟩
theorem heads_full {n : Int} {ax b : List Int} {R : Type} {no : R} (ha : Bal n ax) (hb : Bal n b) : ∀ (rest done : List Int) (lo hi : Int), b = done ++ rest → 0 ≤ lo → lo ≤ hi → hi < ax.length → (∀ o ∈ ax, o ∈ done ↔ lo ≤ ix ax o ∧ ix ax o ≤ hi) →
    (∃ s, foldR (R := R) (fun (s_3 : (Int × Int)) option_4 => ((idxQ ax option_4).bind fun ix_5 => (if (!decide (ix_5 ∈ [((s_3.1 - (1 : Int)), (s_3.2 + (1 : Int))).1, ((s_3.1 - (1 : Int)), (s_3.2 + (1 : Int))).2])) then (some (.out no)) else (some (.go ((if ix_5 < s_3.1 then ix_5 else s_3.1), (if ix_5 > s_3.2 then ix_5 else s_3.2))))))) rest (lo, hi) = some (.go s) ∧ ∀ y ∈ rest, ∀ x z, x ∈ ax → z ∈ ax → ix ax x < ix ax y → ix ax y < ix ax z → ix b y < ix b x ∨ ix b y < ix b z) ∨
    (foldR (R := R) (fun (s_3 : (Int × Int)) option_4 => ((idxQ ax option_4).bind fun ix_5 => (if (!decide (ix_5 ∈ [((s_3.1 - (1 : Int)), (s_3.2 + (1 : Int))).1, ((s_3.1 - (1 : Int)), (s_3.2 + (1 : Int))).2])) then (some (.out no)) else (some (.go ((if ix_5 < s_3.1 then ix_5 else s_3.1), (if ix_5 > s_3.2 then ix_5 else s_3.2))))))) rest (lo, hi) = some (.out no) ∧ ¬ NoDent ax b)
  | [], _, lo, hi, _, _, _, _, _ => .inl ⟨_, rfl, fun y hy => nomatch hy⟩
  | o :: rest, done, lo, hi, e, l0, lh, hl, hd => by
    have ob : o ∈ b := by rw [e]; simp
    have oa : o ∈ ax := ha.mem.mpr (hb.mem.mp ob)
    have bnd := hb.nodup
    rw [e] at bnd
    have od : o ∉ done := fun k => (List.nodup_append.mp bnd).2.2 o k o List.mem_cons_self rfl
    have rk : ix b o = done.length := by
      rw [e]; unfold ix
      rw [List.idxOf_append, if_neg od, List.idxOf_cons, beq_self_eq_true]; simp
    have rd : ∀ {u : Int}, u ∈ done → ix b u < done.length := fun {u} hu => by rw [e, ix_app hu]; exact ix_lt hu
    have ro : ∀ {u : Int}, u ∈ ax → u ∉ done → u ≠ o → ix b o < ix b u := fun {u} hu h1 h2 => by
      have ub : u ∈ b := hb.mem.mpr (ha.mem.mp hu)
      have h3 : (done.length : Int) ≤ ix b u := by rw [e]; unfold ix; rw [List.idxOf_append, if_neg h1]; omega
      have := ix_ne ub ob h2
      omega
    have al : ∀ {j : Int}, 0 ≤ j → j < ax.length → ∃ u ∈ ax, ix ax u = j := fun {j} h0 h1 => by
      obtain ⟨u, _, hu, hg⟩ := atI_ok (xs := ax) h0 h1
      exact ⟨u, hu, by unfold ix; rw [idx_of ha.nodup hg]; omega⟩
    have out := mt (hd o oa).mpr od
    have p0 : 0 ≤ ix ax o := by unfold ix; omega
    have p1 := ix_lt oa
    by_cases hp : ix ax o = lo - 1 ∨ ix ax o = hi + 1
    · have good : ∀ x z, x ∈ ax → z ∈ ax → ix ax x < ix ax o → ix ax o < ix ax z → ix b o < ix b x ∨ ix b o < ix b z := fun x z hx hz h1 h2 => by
        have xo : x ≠ o := fun k => by subst k; omega
        have zo : z ≠ o := fun k => by subst k; omega
        by_cases hxd : x ∈ done
        · by_cases hzd : z ∈ done
          · have a1 := (hd x hx).mp hxd
            have a2 := (hd z hz).mp hzd
            omega
          · exact .inr (ro hz hzd zo)
        · exact .inl (ro hx hxd xo)
      have ih := heads_full (R := R) (no := no) ha hb rest (done ++ [o]) (if ix ax o < lo then ix ax o else lo) (if ix ax o > hi then ix ax o else hi) (by rw [e]; simp) (by split <;> omega) (by split <;> split <;> omega) (by split <;> omega) (fun u hu => by
        rw [List.mem_append, List.mem_singleton, hd u hu]
        constructor
        · rintro (h | h)
          · constructor <;> split <;> omega
          · subst h; constructor <;> split <;> omega
        · rintro ⟨h1, h2⟩
          by_cases h : lo ≤ ix ax u ∧ ix ax u ≤ hi
          · exact .inl h
          · right
            refine idx_inj hu oa ?_
            unfold ix at *
            split at h1 <;> split at h2 <;> omega)
      have hc : (ix ax o) ∈ [lo - 1, hi + 1] := by rcases hp with h | h <;> rw [h] <;> simp
      simp only [foldR, idx_ok oa, Option.bind_some]
      rw [decide_eq_true hc]
      rcases ih with ⟨s, es, hg⟩ | ⟨es, hn⟩
      · refine .inl ⟨s, es, fun y hy => ?_⟩
        rcases List.mem_cons.mp hy with rfl | hy
        · exact good
        · exact hg y hy
      · exact .inr ⟨es, hn⟩
    · right
      have hc : ¬ ((ix ax o) ∈ [lo - 1, hi + 1]) := by
        simp only [List.mem_cons, List.not_mem_nil, or_false]; exact hp
      refine ⟨by simp only [foldR, idx_ok oa, Option.bind_some]; rw [decide_eq_false hc]; rfl, fun nd => ?_⟩
      by_cases h : ix ax o < lo
      · obtain ⟨y, hy, ey⟩ := al (j := lo - 1) (by omega) (by omega)
        obtain ⟨z, hz, ez⟩ := al (j := lo) (by omega) (by omega)
        have yd := mt (hd y hy).mp (by omega)
        have zd := (hd z hz).mpr (by omega)
        have yo : y ≠ o := fun k => by subst k; omega
        have := ro hy yd yo
        have := rd zd
        rcases nd o y z oa hy hz (by omega) (by omega) with h | h <;> omega
      · obtain ⟨y, hy, ey⟩ := al (j := hi + 1) (by omega) (by omega)
        obtain ⟨z, hz, ez⟩ := al (j := hi) (by omega) (by omega)
        have yd := mt (hd y hy).mp (by omega)
        have zd := (hd z hz).mpr (by omega)
        have yo : y ≠ o := fun k => by subst k; omega
        have := ro hy yd yo
        have := rd zd
        rcases nd z y o hz hy oa (by omega) (by omega) with h | h <;> omega
def everyF : Nat → List Int → List (List Int)
  | 0, l => [l]
  | k + 1, l => (everyF k (l.drop 1)).map (· ++ l.take 1) ++ (everyF k (l.take (l.length - 1))).map (· ++ l.drop (l.length - 1))
theorem end_take {l : List Int} (h : l ≠ []) : ∃ v, l.drop (l.length - 1) = [v] ∧ l.take (l.length - 1) ++ [v] = l := by
  have hs := List.dropLast_concat_getLast h
  refine ⟨l.getLast h, ?_, ?_⟩
  · have : l.take (l.length - 1) ++ l.drop (l.length - 1) = l := List.take_append_drop _ _
    rw [← List.dropLast_eq_take] at this
    exact List.append_cancel_left (this.trans hs.symm)
  · rw [← List.dropLast_eq_take]; exact hs
theorem pk_one {w : Int} {b : List Int} (h : Pk [w] b) : b = [w] := List.perm_singleton.mp h.perm
theorem mem_every : ∀ (k : Nat) (l b : List Int), l.length = k + 1 → (b ∈ everyF k l ↔ Pk l b)
  | 0, l, b, hl => by
    obtain ⟨w, rfl⟩ := List.length_eq_one_iff.mp hl
    unfold everyF
    rw [List.mem_singleton]
    exact ⟨fun e => by subst e; exact .low .nil, pk_one⟩
  | k + 1, l, b, hl => by
    have hne : l ≠ [] := fun e => by rw [e] at hl; cases hl
    obtain ⟨v, e1, e2⟩ := end_take hne
    match l, hl, hne, e1, e2 with
    | w :: l', hl, hne, e1, e2 =>
      unfold everyF
      rw [e1, List.mem_append, List.mem_map, List.mem_map]
      have hl' : l'.length = k + 1 := by simpa using hl
      have hm : ((w :: l').take ((w :: l').length - 1)).length = k + 1 := by rw [List.length_take]; omega
      generalize (w :: l').take ((w :: l').length - 1) = m at e2 hm
      constructor
      · rintro (⟨c, hc, rfl⟩ | ⟨c, hc, rfl⟩)
        · exact .low ((mem_every k _ _ hl').mp hc)
        · rw [← e2]; exact .high ((mem_every k _ _ hm).mp hc)
      · intro h
        generalize hL : w :: l' = L at h e2
        cases h with
        | nil => cases hL
        | @low w1 l1 b1 h =>
          obtain ⟨rfl, rfl⟩ := List.cons.inj hL
          exact .inl ⟨b1, (mem_every k _ _ hl').mpr h, rfl⟩
        | @high w1 l1 b1 h =>
          obtain ⟨rfl, h2⟩ := List.append_inj' e2 rfl
          cases h2
          exact .inr ⟨b1, (mem_every k _ _ hm).mpr h, rfl⟩
theorem len_every : ∀ (k : Nat) (l : List Int), (everyF k l).length = 2 ^ k
  | 0, _ => rfl
  | k + 1, l => by
    unfold everyF
    rw [List.length_append, List.length_map, List.length_map, len_every k, len_every k, Nat.pow_succ]; omega
theorem nodup_map_app {L : List (List Int)} (h : L.Nodup) (t : List Int) : (L.map (· ++ t)).Nodup := by
  unfold List.Nodup
  rw [List.pairwise_map]
  exact h.imp fun ne e => ne (List.append_cancel_right e)
theorem nodup_every : ∀ (k : Nat) (l : List Int), l.length = k + 1 → l.Nodup → (everyF k l).Nodup
  | 0, _, _, _ => by unfold everyF; simp
  | k + 1, l, hl, nd => by
    have hne : l ≠ [] := fun e => by rw [e] at hl; cases hl
    obtain ⟨v, e1, e2⟩ := end_take hne
    match l, hl, hne, e1, e2, nd with
    | w :: l', hl, hne, e1, e2, nd =>
      unfold everyF
      have hl' : l'.length = k + 1 := by simpa using hl
      have hm : ((w :: l').take ((w :: l').length - 1)).length = k + 1 := by rw [List.length_take]; omega
      have ndm : ((w :: l').take ((w :: l').length - 1)).Nodup := nd.sublist (List.take_sublist _ _)
      rw [e1]
      rw [List.nodup_append]
      refine ⟨nodup_map_app (nodup_every k _ hl' (List.nodup_cons.mp nd).2) _, nodup_map_app (nodup_every k _ hm ndm) _, ?_⟩
      intro a ha c hc e
      obtain ⟨a', _, rfl⟩ := List.mem_map.mp ha
      obtain ⟨c', _, rfl⟩ := List.mem_map.mp hc
      have e3 : ([w] : List Int) = [v] := List.append_inj_right' e (by simp)
      have wv : w = v := (List.cons.inj e3).1
      have : (w :: l').getLast? = some v := by rw [← e2]; simp
      cases l' with
      | nil => simp at hl'
      | cons x l'' =>
        rw [List.getLast?_cons_cons] at this
        exact (List.nodup_cons.mp nd).1 (wv ▸ List.mem_of_getLast? this)
def pas : Nat → Int → Nat
  | 0, p => if p = 0 then 1 else 0
  | k + 1, p => pas k (p - 1) + pas k p
def hdI (b : List Int) : Int := b.headD 0
theorem hd_app {b t : List Int} (h : b ≠ []) : hdI (b ++ t) = hdI b := by
  cases b with
  | nil => exact absurd rfl h
  | cons x b => rfl
theorem hd_mem {b : List Int} (h : b ≠ []) : hdI b ∈ b := by
  cases b with
  | nil => exact absurd rfl h
  | cons x b => exact List.mem_cons_self
theorem cnt_every : ∀ (k : Nat) (l : List Int) (p : Int), l.length = k + 1 → l.Nodup → ((everyF k l).filter fun b => decide (ix l (hdI b) = p)).length = pas k p
  | 0, l, p, hl, nd => by
    obtain ⟨w, rfl⟩ := List.length_eq_one_iff.mp hl
    unfold everyF pas
    have : ix [w] (hdI [w]) = 0 := ix_head
    rw [List.filter_cons, this]
    by_cases h : p = 0
    · subst h; rfl
    · rw [if_neg (by simpa using fun e => h e.symm), if_neg h]; rfl
  | k + 1, l, p, hl, nd => by
    have hne : l ≠ [] := fun e => by rw [e] at hl; cases hl
    obtain ⟨v, e1, e2⟩ := end_take hne
    match l, hl, hne, e1, e2, nd with
    | w :: l', hl, hne, e1, e2, nd =>
      unfold everyF pas
      have hl' : l'.length = k + 1 := by simpa using hl
      have hm : ((w :: l').take ((w :: l').length - 1)).length = k + 1 := by rw [List.length_take]; omega
      have ndm : ((w :: l').take ((w :: l').length - 1)).Nodup := nd.sublist (List.take_sublist _ _)
      rw [e1, List.filter_append, List.length_append, List.filter_map, List.filter_map, List.length_map, List.length_map]
      generalize (w :: l').take ((w :: l').length - 1) = m at e2 hm ndm ⊢
      have q1 := cnt_every k l' (p - 1) hl' (List.nodup_cons.mp nd).2
      have q2 := cnt_every k m p hm ndm
      have nz : ∀ {L b : List Int}, L.length = k + 1 → b ∈ everyF k L → b ≠ [] ∧ hdI b ∈ L := fun {L b} hL hb => by
        have hp := ((mem_every k _ _ hL).mp hb).perm
        have : b ≠ [] := fun e => by rw [e] at hp; have := hp.length_eq; rw [hL] at this; cases this
        exact ⟨this, hp.mem_iff.mp (hd_mem this)⟩
      congr 1
      · rw [← q1]
        congr 1
        refine List.filter_congr fun b hb => ?_
        obtain ⟨b0, bm⟩ := nz hl' hb
        have bw : hdI b ≠ w := fun e => (List.nodup_cons.mp nd).1 (e ▸ bm)
        show decide (ix (w :: l') (hdI (b ++ [w])) = p) = _
        rw [hd_app b0, ix_cons bw, Bool.eq_iff_iff, decide_eq_true_eq, decide_eq_true_eq]
        omega
      · rw [← q2]
        congr 1
        refine List.filter_congr fun b hb => ?_
        obtain ⟨b0, bm⟩ := nz hm hb
        show decide (ix (w :: l') (hdI (b ++ [v])) = p) = _
        rw [hd_app b0, ← e2, ix_app bm]
end Tv
namespace Tv
open PySem Dv
theorem same_perm {α : Type} {l m : List α} (h1 : l.Nodup) (h2 : m.Nodup) (h : ∀ x, x ∈ l ↔ x ∈ m) : l.Perm m := (List.perm_ext_iff_of_nodup h1 h2).mpr h
theorem min_ok {xs : List Int} (h : xs ≠ []) : ∃ m, minQ xs = some m ∧ m ∈ xs ∧ ∀ y ∈ xs, m ≤ y := by
  cases xs with
  | nil => exact absurd rfl h
  | cons a r =>
    obtain ⟨h1, h2, h3⟩ := minI_ok r a
    refine ⟨_, rfl, ?_, fun y hy => ?_⟩
    · rcases h1 with h1 | h1
      · rw [h1]; exact List.mem_cons_self
      · exact List.mem_cons_of_mem _ h1
    · rcases List.mem_cons.mp hy with rfl | hy
      · exact h2
      · exact h3 y hy
theorem max_ok {xs : List Int} (h : xs ≠ []) : ∃ m, maxQ xs = some m ∧ m ∈ xs ∧ ∀ y ∈ xs, y ≤ m := by
  cases xs with
  | nil => exact absurd rfl h
  | cons a r =>
    obtain ⟨h1, h2, h3⟩ := maxI_ok r a
    refine ⟨_, rfl, ?_, fun y hy => ?_⟩
    · rcases h1 with h1 | h1
      · rw [h1]; exact List.mem_cons_self
      · exact List.mem_cons_of_mem _ h1
    · rcases List.mem_cons.mp hy with rfl | hy
      · exact h2
      · exact h3 y hy
def seg (ax : List Int) (i m : Nat) : List Int := (ax.drop i).take m
def nt (ax : List Int) (j : Int) : Int := (ax[j.toNat]?).getD 0
theorem nt_ok {ax : List Int} {j : Int} (h0 : 0 ≤ j) (h1 : j < ax.length) : ixQ ax j = some (nt ax j) ∧ nt ax j ∈ ax ∧ ax[j.toNat]? = some (nt ax j) := by
  obtain ⟨x, e, hm, hg⟩ := atI_ok h0 h1
  have : nt ax j = x := by unfold nt; rw [hg]; rfl
  rw [this]
  exact ⟨e, hm, hg⟩
theorem nt_ix {ax : List Int} (nd : ax.Nodup) {j : Int} (h0 : 0 ≤ j) (h1 : j < ax.length) : ix ax (nt ax j) = j := by
  obtain ⟨_, _, hg⟩ := nt_ok h0 h1
  unfold ix
  rw [idx_of nd hg]
  omega
theorem seg_len {ax : List Int} {i m : Nat} (h : i + m ≤ ax.length) : (seg ax i m).length = m := by
  unfold seg; rw [List.length_take, List.length_drop]; omega
theorem seg_low {ax : List Int} {i m : Nat} (h : i + m < ax.length) : seg ax i (m + 1) = nt ax i :: seg ax (i + 1) m := by
  unfold seg nt
  rw [Int.toNat_natCast, List.getElem?_eq_getElem (by omega), List.drop_eq_getElem_cons (by omega)]
  rfl
theorem seg_high {ax : List Int} {i m : Nat} (h : i + m < ax.length) : seg ax i (m + 1) = seg ax i m ++ [nt ax ((i + m : Nat) : Int)] := by
  unfold seg nt
  rw [Int.toNat_natCast, List.getElem?_eq_getElem (by omega), List.take_succ, List.getElem?_drop, List.getElem?_eq_getElem (by omega)]
  rfl
theorem seg_all (ax : List Int) : seg ax 0 ax.length = ax := by unfold seg; rw [List.drop_zero, List.take_length]
theorem seg_nodup {ax : List Int} (nd : ax.Nodup) (i m : Nat) : (seg ax i m).Nodup := (nd.sublist (List.drop_sublist _ _)).sublist (List.take_sublist _ _)
theorem mem_seg {ax : List Int} (nd : ax.Nodup) {i m : Nat} {o : Int} (h : o ∈ seg ax i m) : o ∈ ax ∧ (i : Int) ≤ ix ax o ∧ ix ax o < i + m := by
  obtain ⟨j, hj⟩ := List.mem_iff_getElem?.mp h
  have hjl := (List.getElem?_eq_some_iff.mp hj).1
  unfold seg at hj hjl
  rw [List.length_take, List.length_drop] at hjl
  rw [List.getElem?_take_of_lt (by omega), List.getElem?_drop] at hj
  refine ⟨List.mem_of_getElem? hj, ?_⟩
  unfold ix
  rw [idx_of nd hj]
  omega
theorem seg_mem {ax : List Int} {i m : Nat} {j : Int} (h : i + m ≤ ax.length) (h0 : (i : Int) ≤ j) (h1 : j < i + m) : nt ax j ∈ seg ax i m := by
  obtain ⟨_, _, hg⟩ := nt_ok (ax := ax) (j := j) (by omega) (by omega)
  refine List.mem_of_getElem? (i := j.toNat - i) ?_
  unfold seg
  rw [List.getElem?_take_of_lt (by omega), List.getElem?_drop, show i + (j.toNat - i) = j.toNat by omega]
  exact hg
def grow (ax row : List Int) : List (List Int) := (if 0 < (minQ (row.map fun o => ix ax o)).getD 0 then [row ++ [nt ax ((minQ (row.map fun o => ix ax o)).getD 0 - 1)]] else []) ++ (if (maxQ (row.map fun o => ix ax o)).getD 0 < (ax.length : Int) - 1 then [row ++ [nt ax ((maxQ (row.map fun o => ix ax o)).getD 0 + 1)]] else [])
section
variable {ax : List Int} (nd : ax.Nodup)
include nd
theorem ends_ok {i m : Nat} (h : i + (m + 1) ≤ ax.length) {row : List Int} (hp : Pk (seg ax i (m + 1)) row) : minQ (row.map fun o => ix ax o) = some (i : Int) ∧ maxQ (row.map fun o => ix ax o) = some ((i : Int) + m) := by
  have hl := hp.perm.length_eq
  rw [seg_len h] at hl
  have hne : (row.map fun o => ix ax o) ≠ [] := fun e => by
    have := congrArg List.length e
    rw [List.length_map, hl] at this
    cases this
  have bd : ∀ y ∈ row.map (fun o => ix ax o), (i : Int) ≤ y ∧ y ≤ i + m := fun y hy => by
    obtain ⟨o, ho, rfl⟩ := List.mem_map.mp hy
    have := mem_seg nd (hp.perm.mem_iff.mp ho)
    omega
  have lo : (i : Int) ∈ row.map fun o => ix ax o := List.mem_map.mpr ⟨nt ax i, hp.perm.mem_iff.mpr (seg_mem h (by omega) (by omega)), nt_ix nd (by omega) (by omega)⟩
  have hi : (i : Int) + m ∈ row.map fun o => ix ax o := List.mem_map.mpr ⟨nt ax (i + m), hp.perm.mem_iff.mpr (seg_mem h (by omega) (by omega)), nt_ix nd (by omega) (by omega)⟩
  obtain ⟨a, e1, a1, a2⟩ := min_ok hne
  obtain ⟨b, e2, b1, b2⟩ := max_ok hne
  have := a2 _ lo
  have := b2 _ hi
  have := bd a a1
  have := bd b b1
  exact ⟨by rw [e1]; congr 1; omega, by rw [e2]; congr 1; omega⟩
theorem grow_ok {i m : Nat} (h : i + (m + 1) ≤ ax.length) {row : List Int} (hp : Pk (seg ax i (m + 1)) row) : grow ax row = (if 0 < (i : Int) then [row ++ [nt ax ((i : Int) - 1)]] else []) ++ (if (i : Int) + m < (ax.length : Int) - 1 then [row ++ [nt ax ((i : Int) + m + 1)]] else []) := by
  obtain ⟨e1, e2⟩ := ends_ok nd h hp
  unfold grow
  rw [e1, e2]
  rfl
def Lv (ax : List Int) (m : Nat) (L : List (List Int)) : Prop := L.Nodup ∧ ∀ r, r ∈ L ↔ ∃ i, i + m ≤ ax.length ∧ Pk (seg ax i m) r
theorem lv_one : Lv ax 1 (ax.map fun o => [o]) := by
  refine ⟨?_, fun r => ?_⟩
  · unfold List.Nodup
    rw [List.pairwise_map]
    exact nd.imp fun ne e => ne (List.cons.inj e).1
  · rw [List.mem_map]
    constructor
    · rintro ⟨o, ho, rfl⟩
      have hl := idx_lt ho
      refine ⟨ax.idxOf o, by omega, ?_⟩
      rw [seg_low (by omega)]
      have : nt ax (ax.idxOf o : Nat) = o := by
        unfold nt; rw [Int.toNat_natCast, idx_get ho]; rfl
      rw [this]
      unfold seg
      rw [List.take_zero]
      exact .low .nil
    · rintro ⟨i, hi, hp⟩
      rw [seg_low (by omega)] at hp
      unfold seg at hp
      rw [List.take_zero] at hp
      rw [pk_one hp]
      exact ⟨_, (nt_ok (by omega) (by omega)).2.1, rfl⟩
theorem lv_step {m : Nat} {L : List (List Int)} (h : Lv ax (m + 1) L) : Lv ax (m + 2) (L.flatMap (grow ax)) := by
  obtain ⟨h1, h2⟩ := h
  have hg : ∀ r ∈ L, ∃ i : Nat, i + (m + 1) ≤ ax.length ∧ Pk (seg ax i (m + 1)) r ∧ grow ax r = (if 0 < (i : Int) then [r ++ [nt ax ((i : Int) - 1)]] else []) ++ (if (i : Int) + m < (ax.length : Int) - 1 then [r ++ [nt ax ((i : Int) + m + 1)]] else []) := fun r hr => by
    obtain ⟨i, hi, hp⟩ := (h2 r).mp hr
    exact ⟨i, hi, hp, grow_ok nd hi hp⟩
  refine ⟨?_, fun r => ?_⟩
  · unfold List.Nodup
    rw [List.pairwise_flatMap]
    refine ⟨fun r hr => ?_, ?_⟩
    · obtain ⟨i, hi, hp, e⟩ := hg r hr
      rw [e]
      split
      · split
        · rename_i q1 q2
          rw [List.singleton_append, List.pairwise_cons]
          refine ⟨fun x hx e => ?_, by simp⟩
          rw [List.mem_singleton] at hx
          subst hx
          have := (List.cons.inj (List.append_cancel_left e)).1
          have := congrArg (ix ax) this
          rw [nt_ix nd (by omega) (by omega), nt_ix nd (by omega) (by omega)] at this
          omega
        · simp
      · split <;> simp
    · refine List.Pairwise.imp_of_mem (fun {a b} ha hb ne => ?_) h1
      intro x hx y hy e
      obtain ⟨i, _, _, ea⟩ := hg a ha
      obtain ⟨j, _, _, eb⟩ := hg b hb
      have fa : ∃ u, x = a ++ [u] := by
        rw [ea, List.mem_append] at hx
        rcases hx with hx | hx <;> split at hx <;> first | (rw [List.mem_singleton] at hx; exact ⟨_, hx⟩) | cases hx
      have fb : ∃ u, y = b ++ [u] := by
        rw [eb, List.mem_append] at hy
        rcases hy with hy | hy <;> split at hy <;> first | (rw [List.mem_singleton] at hy; exact ⟨_, hy⟩) | cases hy
      obtain ⟨u, rfl⟩ := fa
      obtain ⟨v, rfl⟩ := fb
      exact ne (List.append_inj_left' e rfl)
  · rw [List.mem_flatMap]
    constructor
    · rintro ⟨a, ha, hr⟩
      obtain ⟨i, hi, hp, e⟩ := hg a ha
      rw [e, List.mem_append] at hr
      rcases hr with hr | hr
      · split at hr
        · rename_i q
          rw [List.mem_singleton] at hr
          subst hr
          obtain ⟨i', rfl⟩ : ∃ i', i = i' + 1 := ⟨i - 1, by omega⟩
          refine ⟨i', by omega, ?_⟩
          rw [seg_low (by omega), show ((i' + 1 : Nat) : Int) - 1 = (i' : Int) by omega]
          exact .low hp
        · cases hr
      · split at hr
        · rename_i q
          rw [List.mem_singleton] at hr
          subst hr
          refine ⟨i, by omega, ?_⟩
          rw [seg_high (by omega), show ((i + (m + 1) : Nat) : Int) = (i : Int) + m + 1 by omega]
          exact .high hp
        · cases hr
    · rintro ⟨i, hi, hp⟩
      have s1 := seg_low (ax := ax) (i := i) (m := m + 1) (by omega)
      have s2 := seg_high (ax := ax) (i := i) (m := m + 1) (by omega)
      generalize hS : seg ax i (m + 1 + 1) = S at hp s1 s2
      cases hp with
      | nil => cases s1
      | @low w l b h =>
        obtain ⟨rfl, rfl⟩ := List.cons.inj s1
        have hb : b ∈ L := (h2 b).mpr ⟨i + 1, by omega, h⟩
        refine ⟨b, hb, ?_⟩
        rw [grow_ok nd (by omega) h, if_pos (by omega), show ((i + 1 : Nat) : Int) - 1 = (i : Int) by omega]
        simp
      | @high w l b h =>
        obtain ⟨rfl, e⟩ := List.append_inj' s2 rfl
        cases e
        have hb : b ∈ L := (h2 b).mpr ⟨i, by omega, h⟩
        refine ⟨b, hb, ?_⟩
        rw [grow_ok nd (by omega) h, if_pos (c := (i : Int) + m < (ax.length : Int) - 1) (by omega), show ((i + (m + 1) : Nat) : Int) = (i : Int) + m + 1 by omega]
        simp
theorem grow_len {i m : Nat} (h : i + (m + 1) ≤ ax.length) {row : List Int} (hp : Pk (seg ax i (m + 1)) row) : (grow ax row).length ≤ 2 := by
  rw [grow_ok nd h hp]
  split <;> split <;> simp
theorem lv_len {m : Nat} {L : List (List Int)} (h : Lv ax (m + 1) L) : (L.flatMap (grow ax)).length ≤ 2 * L.length := by
  have : ∀ l : List (List Int), (∀ r ∈ l, r ∈ L) → (l.flatMap (grow ax)).length ≤ 2 * l.length := by
    intro l
    induction l with
    | nil => intro _; simp
    | cons a l ih =>
      intro hs
      obtain ⟨i, hi, hp⟩ := (h.2 a).mp (hs a List.mem_cons_self)
      have := grow_len nd hi hp
      have := ih fun r hr => hs r (List.mem_cons_of_mem _ hr)
      rw [List.flatMap_cons, List.length_append, List.length_cons]
      omega
  exact this L fun _ h => h
end
def bfsIn (v_axis : List Int) : List (List Int) → List Int → Option (List (List Int)) := fun (s_5 : ((List (List Int)))) ballot_6 => ((lcQ (fun option_7 => (some true)) (fun option_7 => ((idxQ v_axis option_7).bind fun ix_8 => (some ix_8))) ballot_6).bind fun lc_9 => ((minQ lc_9).bind fun min_10 => ((maxQ lc_9).bind fun max_11 => ((if (decide ((0 : Int) < min_10)) then ((ixQ v_axis (min_10 - (1 : Int))).bind fun at_13 => ((fewQ (ballot_6 ++ [at_13])).bind fun row_14 => ((pushQ s_5 row_14).bind fun longer_15 => (some longer_15)))) else (some s_5)).bind fun j_12 => ((if (decide (max_11 < ((v_axis.length : Int) - (1 : Int)))) then ((ixQ v_axis (max_11 + (1 : Int))).bind fun at_17 => ((fewQ (ballot_6 ++ [at_17])).bind fun row_18 => ((pushQ j_12 row_18).bind fun longer_19 => (some longer_19)))) else (some j_12)).bind fun j_16 => (some j_16))))))
section
variable {ax : List Int} (nd : ax.Nodup) (l9 : ax.length ≤ 9)
include nd l9
theorem bfs_in {i m : Nat} (h : i + (m + 1) ≤ ax.length) {row : List Int} (hp : Pk (seg ax i (m + 1)) row) {acc : List (List Int)} (hl : acc.length + 2 ≤ 1000000) : bfsIn ax acc row = some (acc ++ grow ax row) := by
  obtain ⟨e1, e2⟩ := ends_ok nd h hp
  have hrow := hp.perm.length_eq
  rw [seg_len h] at hrow
  have e0 : lcQ (fun (option_7 : Int) => (some true)) (fun option_7 => ((idxQ ax option_7).bind fun ix_8 => (some ix_8))) row = some (row.map fun o => ix ax o) := lcQ_all (fun o => ix ax o) row fun o ho => by
    rw [idx_ok (mem_seg nd (hp.perm.mem_iff.mp ho)).1]; rfl
  unfold bfsIn
  rw [grow_ok nd h hp, e0, Option.bind_some, e1, Option.bind_some, e2, Option.bind_some]
  have fw : ∀ x : Int, fewQ (row ++ [x]) = some (row ++ [x]) := fun x => fewQ_ok (by rw [List.length_append, List.length_singleton]; omega)
  by_cases h1 : 0 < (i : Int)
  · have p1 : ∀ x : List Int, pushQ acc x = some (acc ++ [x]) := fun x => pushQ_ok (by omega)
    rw [if_pos (decide_eq_true h1), if_pos h1, (nt_ok (ax := ax) (j := (i : Int) - 1) (by omega) (by omega)).1, Option.bind_some, fw, Option.bind_some, p1, Option.bind_some, Option.bind_some]
    by_cases h2 : (i : Int) + m < (ax.length : Int) - 1
    · have p2 : ∀ x y : List Int, pushQ (acc ++ [x]) y = some (acc ++ [x] ++ [y]) := fun x y => pushQ_ok (by rw [List.length_append, List.length_singleton]; omega)
      rw [if_pos (decide_eq_true h2), if_pos h2, (nt_ok (ax := ax) (j := (i : Int) + m + 1) (by omega) (by omega)).1, Option.bind_some, fw, Option.bind_some, p2, Option.bind_some, Option.bind_some, List.append_assoc]
    · rw [if_neg (by simpa using h2), if_neg h2, Option.bind_some, List.append_nil]
  · rw [if_neg (by simpa using h1), if_neg h1, Option.bind_some]
    by_cases h2 : (i : Int) + m < (ax.length : Int) - 1
    · have p2 : ∀ y : List Int, pushQ acc y = some (acc ++ [y]) := fun y => pushQ_ok (by omega)
      rw [if_pos (decide_eq_true h2), if_pos h2, (nt_ok (ax := ax) (j := (i : Int) + m + 1) (by omega) (by omega)).1, Option.bind_some, fw, Option.bind_some, p2, Option.bind_some, Option.bind_some]
      rfl
    · rw [if_neg (by simpa using h2), if_neg h2, Option.bind_some]
      simp
theorem bfs_row {m : Nat} {L : List (List Int)} (hL : Lv ax (m + 1) L) : ∀ (l acc : List (List Int)), (∀ r ∈ l, r ∈ L) → acc.length + 2 * l.length ≤ 900000 → foldQ (bfsIn ax) l acc = some (acc ++ l.flatMap (grow ax))
  | [], acc, _, _ => by simp [foldQ]
  | r :: l, acc, hs, hl => by
    rw [List.length_cons] at hl
    obtain ⟨i, hi, hp⟩ := (hL.2 r).mp (hs r List.mem_cons_self)
    have := grow_len nd hi hp
    rw [foldQ, bfs_in nd l9 hi hp (by omega), Option.bind_some, bfs_row hL l _ (fun x hx => hs x (List.mem_cons_of_mem _ hx)) (by rw [List.length_append]; omega), List.flatMap_cons, List.append_assoc]
theorem bfs_out : ∀ (g : List Int) (m : Nat) (L : List (List Int)), Lv ax (m + 1) L → L.length ≤ 9 * 2 ^ m → m + g.length ≤ 9 → ∃ L', foldQ (fun (s_3 : ((List (List Int)))) (turn_4 : Int) => ((foldQ (bfsIn ax) s_3 ([] : List (List Int))).bind fun s_5 => (some s_5))) g L = some L' ∧ Lv ax (m + g.length + 1) L'
  | [], m, L, h, _, _ => ⟨L, rfl, h⟩
  | x :: g, m, L, h, hl, hm => by
    rw [List.length_cons] at hm
    have h29 : 2 ^ m ≤ 2 ^ 9 := Nat.pow_le_pow_right (by decide) (by omega)
    have h512 : (2 : Nat) ^ 9 = 512 := by decide
    have e := bfs_row nd l9 h L [] (fun _ h => h) (by simp; omega)
    rw [List.nil_append] at e
    have hlen := lv_len nd h
    obtain ⟨L', e2, h2⟩ := bfs_out g (m + 1) _ (lv_step nd h) (by rw [Nat.pow_succ]; omega) (by omega)
    refine ⟨L', ?_, by rw [List.length_cons, show m + (g.length + 1) + 1 = m + 1 + g.length + 1 by omega]; exact h2⟩
    rw [foldQ, e, Option.bind_some, Option.bind_some]
    exact e2
end
def pkd (n : Int) (ax : List Int) : List (List Int) := (rowsN n n.toNat).filter fun b => decide (b ∈ everyF (n.toNat - 1) ax)
section
variable {n : Int} {ax : List Int} (ha : Bal n ax) (n1 : 1 ≤ n)
include ha n1
theorem mem_pkd {b : List Int} : b ∈ pkd n ax ↔ Pk ax b := by
  have hl := ha.len
  unfold pkd
  rw [List.mem_filter, decide_eq_true_eq, mem_every _ _ _ (by omega), bal_rows]
  exact ⟨fun h => h.2, fun h => ⟨h.perm.trans ha, h⟩⟩
omit ha n1 in
theorem pkd_sorted : (pkd n ax).Pairwise (ltI · · = true) := (rowsN_sorted _).filter _
omit ha n1 in
theorem pkd_nodup : (pkd n ax).Nodup := (rowsN_nodup _).filter _
theorem pkd_perm : (pkd n ax).Perm (everyF (n.toNat - 1) ax) := same_perm pkd_nodup (nodup_every _ _ (by have := ha.len; omega) ha.nodup) fun b => by
  rw [mem_pkd ha n1, mem_every _ _ _ (by have := ha.len; omega)]
theorem pkd_len : (pkd n ax).length = 2 ^ (n.toNat - 1) := by rw [(pkd_perm ha n1).length_eq, len_every]
theorem pkd_bal {b : List Int} (h : b ∈ pkd n ax) : Bal n b ∧ NoDent ax b := by
  have := (mem_pkd ha n1).mp h
  exact ⟨this.perm.trans ha, this.noDent ha.nodup⟩
theorem pkd_iff {b : List Int} (hb : Bal n b) : b ∈ pkd n ax ↔ NoDent ax b := by
  rw [mem_pkd ha n1, pk_iff ha.nodup (hb.trans ha.symm)]
theorem bfs_ok (n9 : n ≤ 9) : ((rngQ 0 ((ax.length : Int) - (1 : Int))).bind fun rg_2 => ((foldQ (fun (s_3 : ((List (List Int)))) (turn_4 : Int) => ((foldQ (bfsIn ax) s_3 ([] : List (List Int))).bind fun s_5 => (some s_5))) rg_2 (ax.map fun option_1 => [option_1])).bind fun s_3 => ((srtRQ s_3).bind fun srt_20 => (some srt_20)))) = some (pkd n ax) := by
  have hl := ha.len
  have e1 : rngQ 0 ((ax.length : Int) - 1) = some (rgF 0 ((ax.length : Int) - 1)) := rngQ_ok (by decide) (by decide) (by omega) (by omega) (by omega)
  have hg : (rgF 0 ((ax.length : Int) - 1)).length = n.toNat - 1 := by rw [rgF_len]; omega
  obtain ⟨L, e2, h2⟩ := bfs_out ha.nodup (by omega) (rgF 0 ((ax.length : Int) - 1)) 0 _ (lv_one ha.nodup) (by rw [List.length_map]; omega) (by omega)
  rw [e1, Option.bind_some, e2, Option.bind_some]
  rw [hg, show 0 + (n.toNat - 1) + 1 = ax.length by omega] at h2
  have hm : ∀ r, r ∈ L ↔ Pk ax r := fun r => by
    rw [h2.2 r]
    constructor
    · rintro ⟨i, hi, hp⟩
      obtain rfl : i = 0 := by omega
      rwa [seg_all] at hp
    · intro h; exact ⟨0, by omega, by rwa [seg_all]⟩
  have hp : L.Perm (pkd n ax) := same_perm h2.1 pkd_nodup fun r => by rw [hm, mem_pkd ha n1]
  have hne : (L.all fun r => !r.isEmpty) = true := by
    rw [List.all_eq_true]
    intro r hr
    have := ((hm r).mp hr).perm.length_eq
    cases r with
    | nil => simp at this; omega
    | cons a r => rfl
  have e3 : srtRQ L = some (pkd n ax) := by
    show gateQ _ (sortR L) = _
    rw [gate_true hne, sortR_uniq hp pkd_sorted]
  rw [e3, Option.bind_some]
end
end Tv
namespace Tv
open PySem Dv
def stLaw (s_40 : (List Int) × (List Int)) (option_41 : Int) : Option ((List Int) × (List Int)) := ((ixQ s_40.2 (0 : Int)).bind fun at_42 => ((pushQ s_40.1 (if (decide (at_42 = option_41)) then (0 : Int) else (1 : Int))).bind fun steps_43 => (some (steps_43, ((s_40.2.filter fun one_44 => (!decide (one_44 = option_41))).map fun one_44 => one_44)))))
def stProg (s_1 : (List Int) × (List Int)) (option_2 : Int) : Option ((List Int) × (List Int)) := ((ixQ s_1.2 (0 : Int)).bind fun at_3 => ((pushQ s_1.1 (if (decide (at_3 = option_2)) then (0 : Int) else (1 : Int))).bind fun found_4 => ((remQ s_1.2 option_2).bind fun left_5 => (some (found_4, left_5)))))
def stBy (s_1 : (List Int) × (List Int)) (step_2 : Int) : Option ((List Int) × (List Int)) := ((if (decide (step_2 = (0 : Int))) then ((popQ s_1.2 (0 : Int)).bind fun p_4 => (some (p_4.1, p_4.2))) else ((popEQ s_1.2).bind fun p_5 => (some (p_5.1, p_5.2)))).bind fun if_6 => ((pushQ s_1.1 if_6.1).bind fun found_7 => (some (found_7, if_6.2))))
theorem filt_low {w : Int} {l : List Int} (h : w ∉ l) : ((w :: l).filter fun o => !decide (o = w)).map (fun o => o) = l := by
  rw [List.map_id', List.filter_cons, if_neg (by simp), List.filter_eq_self]
  intro a ha
  simp only [Bool.not_eq_true', decide_eq_false_iff_not]
  exact fun e => h (e ▸ ha)
theorem filt_high {w : Int} {l : List Int} (h : w ∉ l) : ((l ++ [w]).filter fun o => !decide (o = w)).map (fun o => o) = l := by
  rw [List.map_id', List.filter_append, List.filter_cons, if_neg (by simp), List.filter_nil, List.append_nil, List.filter_eq_self]
  intro a ha
  simp only [Bool.not_eq_true', decide_eq_false_iff_not]
  exact fun e => h (e ▸ ha)
theorem rem_low {w : Int} {l : List Int} : remQ (w :: l) w = some l := by
  unfold remQ
  rw [gate_true (by simp), List.erase_cons_head]
theorem rem_high {w : Int} {l : List Int} (h : w ∉ l) : remQ (l ++ [w]) w = some l := by
  unfold remQ
  rw [gate_true (by simp), List.erase_append_right _ h, List.erase_cons_head, List.append_nil]
theorem st_ex {l b : List Int} (h : Pk l b) : l.Nodup → l ≠ [] → l.length ≤ 9 → ∃ st : List Int, st.length = l.length - 1 ∧ (∀ x ∈ st, x = 0 ∨ x = 1) ∧ ∀ acc : List Int, acc.length + l.length ≤ 100 → foldQ stLaw (b.drop 1).reverse (acc, l) = some (acc ++ st, [hdI b]) ∧ foldQ stProg (b.drop 1).reverse (acc, l) = some (acc ++ st, [hdI b]) ∧ foldQ stBy st (acc, l) = some (acc ++ (b.drop 1).reverse, [hdI b]) := by
  induction h with
  | nil => intro _ h; exact absurd rfl h
  | @low w l b h ih =>
    intro nd _ l9
    obtain ⟨hw, nd'⟩ := List.nodup_cons.mp nd
    by_cases hl : l = []
    · subst hl
      have hb : b = [] := List.perm_nil.mp h.perm
      subst hb
      exact ⟨[], rfl, (fun _ h => nomatch h), fun acc _ => by simp [foldQ, hdI]⟩
    · obtain ⟨st, s1, s2, s3⟩ := ih nd' hl (by rw [List.length_cons] at l9; omega)
      have hbl := h.perm.length_eq
      match b, h, hbl, s3 with
      | [], _, hbl, _ => exact absurd (List.length_eq_zero_iff.mp hbl.symm) hl
      | c :: t, h, hbl, s3 =>
        have hpos : 0 < l.length := List.length_pos_iff.mpr hl
        refine ⟨0 :: st, by rw [List.length_cons, s1, List.length_cons]; omega, fun x hx => ?_, fun acc ha => ?_⟩
        · rcases List.mem_cons.mp hx with rfl | hx
          · exact .inl rfl
          · exact s2 x hx
        · rw [List.length_cons] at ha
          have e : ((c :: t ++ [w]).drop 1).reverse = w :: ((c :: t).drop 1).reverse := by simp
          have i0 : ixQ (w :: l) (0 : Int) = some w := by
            obtain ⟨x, e, _, hg⟩ := atI_ok (xs := w :: l) (i := 0) (by decide) (by simp)
            rw [e]; simpa using hg.symm
          have pp : ∀ x : Int, pushQ acc x = some (acc ++ [x]) := fun x => pushQ_ok (by omega)
          obtain ⟨g1, g2, _⟩ := s3 (acc ++ [0]) (by rw [List.length_append, List.length_singleton]; omega)
          obtain ⟨_, _, g3⟩ := s3 (acc ++ [w]) (by rw [List.length_append, List.length_singleton]; omega)
          have p0 : popQ (w :: l) (0 : Int) = some (w, l) := by
            obtain ⟨x, e, hg⟩ := popQ_ok (us := w :: l) (j := 0) (by decide) (by simp) (by rw [List.length_cons]; omega)
            rw [e]
            have : w = x := by simpa using hg
            rw [this]; rfl
          rw [e]
          refine ⟨?_, ?_, ?_⟩
          · have s : stLaw (acc, w :: l) w = some (acc ++ [0], l) := by
              unfold stLaw; dsimp only; rw [i0, Option.bind_some, decide_eq_true rfl, if_pos rfl, pp, Option.bind_some, filt_low hw]
            rw [foldQ, s, Option.bind_some, g1, List.append_assoc]; rfl
          · have s : stProg (acc, w :: l) w = some (acc ++ [0], l) := by
              unfold stProg; dsimp only; rw [i0, Option.bind_some, decide_eq_true rfl, if_pos rfl, pp, Option.bind_some, rem_low]; rfl
            rw [foldQ, s, Option.bind_some, g2, List.append_assoc]; rfl
          · have s : stBy (acc, w :: l) 0 = some (acc ++ [w], l) := by
              unfold stBy; dsimp only; rw [decide_eq_true rfl, if_pos rfl, p0, Option.bind_some, Option.bind_some, pp, Option.bind_some]
            rw [foldQ, s, Option.bind_some, g3, List.append_assoc]; rfl
  | @high w l b h ih =>
    intro nd _ l9
    have nd2 := (List.perm_append_comm (l₁ := l) (l₂ := [w])).nodup_iff.mp nd
    have hw : w ∉ l := (List.nodup_cons.mp nd2).1
    have nd' : l.Nodup := (List.nodup_cons.mp nd2).2
    rw [List.length_append, List.length_singleton] at l9
    by_cases hl : l = []
    · subst hl
      have hb : b = [] := List.perm_nil.mp h.perm
      subst hb
      exact ⟨[], rfl, (fun _ h => nomatch h), fun acc _ => by simp [foldQ, hdI]⟩
    · obtain ⟨st, s1, s2, s3⟩ := ih nd' hl (by omega)
      have hbl := h.perm.length_eq
      match b, h, hbl, s3 with
      | [], _, hbl, _ => exact absurd (List.length_eq_zero_iff.mp hbl.symm) hl
      | c :: t, h, hbl, s3 =>
        have hpos : 0 < l.length := List.length_pos_iff.mpr hl
        refine ⟨1 :: st, by rw [List.length_cons, s1, List.length_append, List.length_singleton]; omega, fun x hx => ?_, fun acc ha => ?_⟩
        · rcases List.mem_cons.mp hx with rfl | hx
          · exact .inr rfl
          · exact s2 x hx
        · rw [List.length_append, List.length_singleton] at ha
          have e : ((c :: t ++ [w]).drop 1).reverse = w :: ((c :: t).drop 1).reverse := by simp
          obtain ⟨v, l0, hv⟩ : ∃ v l0, l = v :: l0 := by
            cases l with
            | nil => exact absurd rfl hl
            | cons v l0 => exact ⟨v, l0, rfl⟩
          have vw : v ≠ w := fun e => hw (by rw [hv, e]; exact List.mem_cons_self)
          have i0 : ixQ (l ++ [w]) (0 : Int) = some v := by
            obtain ⟨x, e, _, hg⟩ := atI_ok (xs := l ++ [w]) (i := 0) (by decide) (by simp)
            rw [e]
            rw [hv] at hg
            simpa using hg.symm
          have pp : ∀ x : Int, pushQ acc x = some (acc ++ [x]) := fun x => pushQ_ok (by omega)
          obtain ⟨g1, g2, _⟩ := s3 (acc ++ [1]) (by rw [List.length_append, List.length_singleton]; omega)
          obtain ⟨_, _, g3⟩ := s3 (acc ++ [w]) (by rw [List.length_append, List.length_singleton]; omega)
          have p0 : popEQ (l ++ [w]) = some (w, l) := by
            unfold popEQ
            simp
          have hh : hdI (c :: t ++ [w]) = hdI (c :: t) := rfl
          rw [e, hh]
          refine ⟨?_, ?_, ?_⟩
          · have s : stLaw (acc, l ++ [w]) w = some (acc ++ [1], l) := by
              unfold stLaw; dsimp only; rw [i0, Option.bind_some, decide_eq_false vw, if_neg (by decide), pp, Option.bind_some, filt_high hw]
            rw [foldQ, s, Option.bind_some, g1, List.append_assoc]; rfl
          · have s : stProg (acc, l ++ [w]) w = some (acc ++ [1], l) := by
              unfold stProg; dsimp only; rw [i0, Option.bind_some, decide_eq_false vw, if_neg (by decide), pp, Option.bind_some, rem_high hw]; rfl
            rw [foldQ, s, Option.bind_some, g2, List.append_assoc]; rfl
          · have s : stBy (acc, l ++ [w]) 1 = some (acc ++ [w], l) := by
              unfold stBy; dsimp only; rw [decide_eq_false (by decide), if_neg (by decide), p0, Option.bind_some, Option.bind_some, pp, Option.bind_some]
            rw [foldQ, s, Option.bind_some, g3, List.append_assoc]; rfl
def axRow (option_3 : Int) (s_4 : List (List Int)) (axis_5 : List Int) : Option (List (List Int)) := ((fewQ (option_3 :: (axis_5 ++ []))).bind fun row_6 => ((fewQ (axis_5 ++ [option_3])).bind fun row_7 => ((catQ s_4 (row_6 :: [row_7])).bind fun longer_8 => (some longer_8))))
def Axs (b : List Int) (L : List (List Int)) : Prop := L.Nodup ∧ ∀ l, l ∈ L ↔ Pk l b
theorem axs_one (w : Int) : Axs [w] [[w]] := ⟨by simp, fun l => by
  rw [List.mem_singleton]
  exact ⟨fun e => by subst e; exact .low .nil, fun h => List.perm_singleton.mp h.perm.symm⟩⟩
theorem axs_step {b : List Int} {L : List (List Int)} {o : Int} (h : Axs b L) (hb : b ≠ []) (ho : o ∉ b) : Axs (b ++ [o]) (L.flatMap fun l => [o :: l, l ++ [o]]) := by
  obtain ⟨h1, h2⟩ := h
  have hlo : ∀ l ∈ L, l ≠ [] ∧ o ∉ l := fun l hl => by
    have hp := ((h2 l).mp hl).perm
    exact ⟨fun e => hb (List.perm_nil.mp (e ▸ hp)), fun k => ho (hp.mem_iff.mpr k)⟩
  have cross : ∀ a ∈ L, ∀ c ∈ L, o :: a ≠ c ++ [o] := fun a ha c hc e => by
    obtain ⟨c0, co⟩ := hlo c hc
    cases c with
    | nil => exact c0 rfl
    | cons x c => exact co ((List.cons.inj e).1 ▸ List.mem_cons_self)
  refine ⟨?_, fun l => ?_⟩
  · unfold List.Nodup
    rw [List.pairwise_flatMap]
    refine ⟨fun a ha => ?_, List.Pairwise.imp_of_mem (fun {a c} ha hc ne => ?_) h1⟩
    · rw [List.pairwise_cons]
      exact ⟨fun x hx => by rw [List.mem_singleton] at hx; subst hx; exact cross a ha a ha, by simp⟩
    · intro x hx y hy e
      simp only [List.mem_cons, List.not_mem_nil, or_false] at hx hy
      rcases hx with rfl | rfl <;> rcases hy with rfl | rfl
      · exact ne (List.cons.inj e).2
      · exact cross a ha c hc e
      · exact cross c hc a ha e.symm
      · exact ne (List.append_cancel_right e)
  · rw [List.mem_flatMap]
    constructor
    · rintro ⟨a, ha, hl⟩
      simp only [List.mem_cons, List.not_mem_nil, or_false] at hl
      rcases hl with rfl | rfl
      · exact .low ((h2 a).mp ha)
      · exact .high ((h2 a).mp ha)
    · intro h
      generalize hB : b ++ [o] = B at h
      cases h with
      | nil => simp at hB
      | @low w l1 b1 h =>
        obtain ⟨rfl, e⟩ := List.append_inj' hB rfl
        cases e
        exact ⟨l1, (h2 l1).mpr h, by simp⟩
      | @high w l1 b1 h =>
        obtain ⟨rfl, e⟩ := List.append_inj' hB rfl
        cases e
        exact ⟨l1, (h2 l1).mpr h, by simp⟩
theorem ax_row {o : Int} : ∀ (rows acc : List (List Int)), (∀ r ∈ rows, r.length ≤ 100) → acc.length + 2 * rows.length ≤ 900000 → foldQ (axRow o) rows acc = some (acc ++ rows.flatMap fun l => [o :: l, l ++ [o]])
  | [], acc, _, _ => by simp [foldQ]
  | r :: rows, acc, hr, hl => by
    rw [List.length_cons] at hl
    have h100 := hr r List.mem_cons_self
    have s : axRow o acc r = some (acc ++ [o :: r, r ++ [o]]) := by
      unfold axRow
      rw [List.append_nil, fewQ_ok (by rw [List.length_cons]; omega), Option.bind_some, fewQ_ok (by rw [List.length_append, List.length_singleton]; omega), Option.bind_some, catQ_ok (by simp; omega), Option.bind_some]
    rw [foldQ, s, Option.bind_some, ax_row rows _ (fun x hx => hr x (List.mem_cons_of_mem _ hx)) (by rw [List.length_append]; simp; omega), List.flatMap_cons, List.append_assoc]
theorem fm_len2 {o : Int} (L : List (List Int)) : (L.flatMap fun l => [o :: l, l ++ [o]]).length = 2 * L.length := by
  induction L with
  | nil => rfl
  | cons a L ih => rw [List.flatMap_cons, List.length_append, ih, List.length_cons]; simp; omega
theorem ax_out : ∀ (rest b : List Int) (L : List (List Int)), Axs b L → b ≠ [] → (b ++ rest).Nodup → b.length + rest.length ≤ 10 → L.length ≤ 2 ^ b.length → ∃ L', foldQ (fun (s_2 : ((List (List Int)))) option_3 => ((foldQ (axRow option_3) s_2 ([] : List (List Int))).bind fun s_4 => (some s_4))) rest L = some L' ∧ Axs (b ++ rest) L'
  | [], b, L, h, _, _, _, _ => ⟨L, rfl, by rw [List.append_nil]; exact h⟩
  | o :: rest, b, L, h, hb, nd, h9, hl => by
    rw [List.length_cons] at h9
    have ho : o ∉ b := fun k => (List.nodup_append.mp nd).2.2 o k o List.mem_cons_self rfl
    have h29 : 2 ^ b.length ≤ 2 ^ 10 := Nat.pow_le_pow_right (by decide) (by omega)
    have h512 : (2 : Nat) ^ 10 = 1024 := by decide
    have e := ax_row (o := o) L [] (fun r hr => by have := ((h.2 r).mp hr).perm.length_eq; omega) (by simp; omega)
    rw [List.nil_append] at e
    obtain ⟨L', e2, h2⟩ := ax_out rest (b ++ [o]) _ (axs_step h hb ho) (by simp) (by rw [List.append_assoc]; exact nd) (by rw [List.length_append, List.length_singleton]; omega) (by rw [fm_len2, List.length_append, List.length_singleton, Nat.pow_succ]; omega)
    refine ⟨L', ?_, by rw [List.append_assoc] at h2; exact h2⟩
    rw [foldQ, e, Option.bind_some, Option.bind_some]
    exact e2
theorem axs_ok {n : Int} {b : List Int} (hb : Bal n b) (n1 : 1 ≤ n) (n9 : n ≤ 9) : ((ixQ b (0 : Int)).bind fun at_1 => ((foldQ (fun (s_2 : ((List (List Int)))) option_3 => ((foldQ (axRow option_3) s_2 ([] : List (List Int))).bind fun s_4 => (some s_4))) (cut b (some (1 : Int)) none) [[at_1]]).bind fun s_2 => ((srtRQ s_2).bind fun srt_9 => (some srt_9)))) = some ((rowsN n n.toNat).filter fun l => decide (b ∈ everyF (n.toNat - 1) l)) := by
  have hl := hb.len
  match b, hb, hl with
  | [], _, hl => simp at hl; omega
  | c :: t, hb, hl =>
    have i0 : ixQ (c :: t) (0 : Int) = some c := by
      obtain ⟨x, e, _, hg⟩ := atI_ok (xs := c :: t) (i := 0) (by decide) (by simp)
      rw [e]; simpa using hg.symm
    rw [i0, Option.bind_some, cut_drop _ (by decide)]
    show ((foldQ _ t [[c]]).bind _) = _
    obtain ⟨L, e, h1, h2⟩ := ax_out t [c] [[c]] (axs_one c) (by simp) hb.nodup (by rw [List.length_cons] at hl; simp; omega) (by simp)
    rw [e, Option.bind_some]
    have h2 : ∀ l, l ∈ L ↔ Pk l (c :: t) := h2
    have hlen : ∀ l, Pk l (c :: t) → l.length = n.toNat := fun l h => by rw [← h.perm.length_eq, hl]
    have hp : L.Perm ((rowsN n n.toNat).filter fun l => decide ((c :: t) ∈ everyF (n.toNat - 1) l)) := same_perm h1 ((rowsN_nodup _).filter _) fun l => by
      rw [h2, List.mem_filter, decide_eq_true_eq, bal_rows]
      constructor
      · intro h
        exact ⟨h.perm.symm.trans hb, (mem_every _ _ _ (by have := hlen l h; omega)).mpr h⟩
      · rintro ⟨h3, h4⟩
        exact (mem_every _ _ _ (by have := h3.len; omega)).mp h4
    have hne : (L.all fun r => !r.isEmpty) = true := by
      rw [List.all_eq_true]
      intro r hr
      have := hlen r ((h2 r).mp hr)
      cases r with
      | nil => simp at this; omega
      | cons a r => rfl
    have e3 : srtRQ L = some ((rowsN n n.toNat).filter fun l => decide ((c :: t) ∈ everyF (n.toNat - 1) l)) := by
      show gateQ _ (sortR L) = _
      rw [gate_true hne, sortR_uniq hp ((rowsN_sorted _).filter _)]
    rw [e3, Option.bind_some]
def ixA {α : Type} [DecidableEq α] (l : List α) (b : α) : Int := (l.idxOf b : Int)
theorem idx_okA {α : Type} [DecidableEq α] {l : List α} {b : α} (h : b ∈ l) : idxQ l b = some (ixA l b) := idx_ok h
theorem idx_range {α : Type} [DecidableEq α] {l : List α} (nd : l.Nodup) : (l.map fun b => ixA l b) = rgF 0 l.length := by
  unfold ixA
  apply List.ext_getElem?
  intro i
  rw [List.getElem?_map]
  by_cases h : i < l.length
  · rw [List.getElem?_eq_getElem h, rgF_ix (by omega), Option.map_some, nd.idxOf_getElem i h]
    congr 1
    omega
  · rw [List.getElem?_eq_none (by omega), List.getElem?_eq_none (by rw [rgF_len]; omega)]; rfl
theorem get_range {α : Type} {d : α} (l : List α) : ((rgF 0 l.length).map fun i => (l[i.toNat]?).getD d) = l := by
  apply List.ext_getElem?
  intro i
  rw [List.getElem?_map]
  by_cases h : i < l.length
  · rw [rgF_ix (by omega), Option.map_some, show ((0 : Int) + (i : Int)).toNat = i by omega, List.getElem?_eq_getElem h]; rfl
  · rw [List.getElem?_eq_none (by rw [rgF_len]; omega), List.getElem?_eq_none (by omega)]; rfl
end Tv
namespace Tv
open PySem Dv
theorem cut_but {α : Type} {xs : List α} (h : xs ≠ []) : cut xs none (some (-(1 : Int))) = xs.take (xs.length - 1) := by
  have hp := List.length_pos_iff.mpr h
  unfold cut HT.sIx
  dsimp only
  rw [if_pos (by decide), List.drop_zero]
  congr 1
  omega
theorem cut_end {α : Type} {xs : List α} (h : xs ≠ []) : cut xs (some (-(1 : Int))) none = xs.drop (xs.length - 1) := by
  have hp := List.length_pos_iff.mpr h
  unfold cut HT.sIx
  dsimp only
  rw [if_pos (by decide), show (-(1 : Int) + (xs.length : Int)).toNat = xs.length - 1 by omega, List.take_of_length_le (by rw [List.length_drop]; omega)]
theorem zip_filter {α : Type} (f : α → Int) (m : Int) : ∀ E : List α, ((E.zip (E.map f)).filter fun q => decide (q.2 = m)).map (fun q => q.1) = E.filter fun o => decide (f o = m)
  | [] => rfl
  | a :: E => by
    have ih := zip_filter f m E
    rw [List.map_cons, List.zip_cons_cons, List.filter_cons, List.filter_cons]
    by_cases h : f a = m
    · rw [if_pos (by simpa using h), if_pos (by simpa using h), List.map_cons, ih]
    · rw [if_neg (by simpa using h), if_neg (by simpa using h), ih]
theorem min_same {xs ys : List Int} {a b : Int} (ha : minQ xs = some a) (hb : minQ ys = some b) (h : ∀ x, x ∈ xs ↔ x ∈ ys) : a = b := by
  have nx : xs ≠ [] := fun e => by rw [e] at ha; cases ha
  have ny : ys ≠ [] := fun e => by rw [e] at hb; cases hb
  obtain ⟨a', e1, a1, a2⟩ := min_ok nx
  obtain ⟨b', e2, b1, b2⟩ := min_ok ny
  rw [ha] at e1; cases e1
  rw [hb] at e2; cases e2
  have := a2 b ((h b).mpr b1)
  have := b2 a ((h a).mp a1)
  omega
theorem swap_split {xs : List Int} {i : Nat} (h : i + 1 < xs.length) : ∃ x y, xs[i]? = some x ∧ xs[i + 1]? = some y ∧ xs = xs.take i ++ [x, y] ++ xs.drop (i + 2) := by
  refine ⟨xs[i], xs[i + 1], List.getElem?_eq_getElem (by omega), List.getElem?_eq_getElem h, ?_⟩
  have e1 := List.take_append_drop i xs
  rw [List.drop_eq_getElem_cons (by omega), List.drop_eq_getElem_cons h] at e1
  rw [List.append_assoc]
  exact e1.symm
end Tv
namespace Tv
open PySem Dv
def swp (b : List Int) (i : Nat) : List Int := b.take i ++ [(b[i + 1]?).getD 0, (b[i]?).getD 0] ++ b.drop (i + 2)
def tau (i : Int) (r : Int) : Int := if r = i then i + 1 else if r = i + 1 then i else r
theorem swp_eq {b : List Int} {i : Nat} (h : i + 1 < b.length) : ∃ x y, b[i]? = some x ∧ b[i + 1]? = some y ∧ b = b.take i ++ [x, y] ++ b.drop (i + 2) ∧ swp b i = b.take i ++ [y, x] ++ b.drop (i + 2) := by
  obtain ⟨x, y, hx, hy, e⟩ := swap_split h
  exact ⟨x, y, hx, hy, e, by unfold swp; rw [hx, hy]; rfl⟩
theorem swp_perm {b : List Int} {i : Nat} (h : i + 1 < b.length) : (swp b i).Perm b := by
  obtain ⟨x, y, _, _, e, e2⟩ := swp_eq h
  rw [e2]
  conv => rhs; rw [e]
  exact (List.Perm.append_left _ (List.Perm.swap x y [])).append_right _
theorem swp_ix {b : List Int} (nd : b.Nodup) {i : Nat} (h : i + 1 < b.length) {o : Int} (ho : o ∈ b) : ix (swp b i) o = tau i (ix b o) := by
  obtain ⟨x, y, hx, hy, e, e2⟩ := swp_eq h
  have nd' := (swp_perm h).nodup_iff.mpr nd
  have lt := idx_lt ho
  have hg := idx_get ho
  have tl : (b.take i).length = i := by rw [List.length_take]; omega
  have key : ∀ j : Nat, (swp b i)[j]? = some o → ix (swp b i) o = j := fun j hj => by unfold ix; rw [idx_of nd' hj]
  have hs : ∀ j : Nat, j ≠ i → j ≠ i + 1 → (swp b i)[j]? = b[j]? := fun j h1 h2 => by
    rw [e2]
    conv => rhs; rw [e]
    by_cases hj : j < i
    · rw [List.append_assoc, List.append_assoc, List.getElem?_append_left (by omega), List.getElem?_append_left (by omega)]
    · rw [List.getElem?_append_right (by rw [List.length_append]; simp; omega), List.getElem?_append_right (by rw [List.length_append]; simp; omega)]
      simp
  have s0 : (swp b i)[i]? = some y := by
    rw [e2, List.append_assoc, List.getElem?_append_right (by omega), tl, Nat.sub_self]; rfl
  have s1 : (swp b i)[i + 1]? = some x := by
    rw [e2, List.append_assoc, List.getElem?_append_right (by omega), tl, show i + 1 - i = 1 by omega]; rfl
  unfold tau
  by_cases h1 : b.idxOf o = i
  · rw [h1, hx] at hg
    cases hg
    rw [if_pos (by unfold ix; omega), key _ s1]; omega
  · by_cases h2 : b.idxOf o = i + 1
    · rw [h2, hy] at hg
      cases hg
      rw [if_neg (by unfold ix; omega), if_pos (by unfold ix; omega), key _ s0]
    · rw [if_neg (by unfold ix; omega), if_neg (by unfold ix; omega)]
      exact key _ (by rw [hs _ h1 h2]; exact hg)
theorem least {P : Nat → Prop} : ∀ k : Nat, P k → ∃ m, m ≤ k ∧ P m ∧ ∀ j, j < m → ¬ P j := by
  intro k
  induction k using Nat.strongRecOn with
  | _ k ih =>
    intro hk
    by_cases h : ∃ j, j < k ∧ P j
    · obtain ⟨j, hj, pj⟩ := h
      obtain ⟨m, h1, h2, h3⟩ := ih j hj pj
      exact ⟨m, by omega, h2, h3⟩
    · exact ⟨k, Nat.le_refl _, hk, fun j hj pj => h ⟨j, hj, pj⟩⟩
theorem toward {ax x y : List Int} (px : x.Perm ax) (py : y.Perm ax) (nd : ax.Nodup) (dx : NoDent ax x) (dy : NoDent ax y) (h : ∃ i : Nat, i + 1 < x.length ∧ ∃ a b, x[i]? = some a ∧ x[i + 1]? = some b ∧ ix y b < ix y a) :
    ∃ i : Nat, i + 1 < x.length ∧ (∃ a b, x[i]? = some a ∧ x[i + 1]? = some b ∧ ix y b < ix y a) ∧ NoDent ax (swp x i) := by
  obtain ⟨i0, h0⟩ := h
  obtain ⟨i, _, ⟨hi, a, b, ha, hb, hab⟩, hmin⟩ := least (P := fun i => i + 1 < x.length ∧ ∃ a b, x[i]? = some a ∧ x[i + 1]? = some b ∧ ix y b < ix y a) i0 h0
  have ndx := px.nodup_iff.mpr nd
  have mx : ∀ {o : Int}, o ∈ ax → o ∈ x := fun h => px.mem_iff.mpr h
  have my : ∀ {o : Int}, o ∈ x → o ∈ y := fun h => py.mem_iff.mpr (px.mem_iff.mp h)
  have up : ∀ d k : Nat, k + d = i → ∀ c, x[k]? = some c → ix y c ≤ ix y a := by
    intro d
    induction d with
    | zero => intro k hk c hc; obtain rfl : k = i := by omega
              rw [ha] at hc; cases hc; exact Int.le_refl _
    | succ d ih =>
      intro k hk c hc
      have hk1 : k + 1 < x.length := by omega
      have hc2 : x[k + 1]? = some x[k + 1] := List.getElem?_eq_getElem hk1
      have h1 := ih (k + 1) (by omega) _ hc2
      have h2 : ¬ ix y x[k + 1] < ix y c := fun z => hmin k (by omega) ⟨hk1, c, _, hc, hc2, z⟩
      omega
  have below : ∀ {c : Int}, c ∈ x → ix x c < i → ix y c < ix y a := fun {c} hc hlt => by
    have hg := idx_get hc
    have h1 := up (i - x.idxOf c) (x.idxOf c) (by unfold ix at hlt; omega) c hg
    have ne : c ≠ a := fun e => by
      subst e
      unfold ix at hlt
      rw [idx_of ndx ha] at hlt
      omega
    have := ix_ne (my hc) (my (List.mem_of_getElem? ha)) ne
    omega
  have at_i : ∀ {c : Int}, c ∈ x → ix x c = i → c = a := fun {c} hc e => by
    have hg := idx_get hc
    rw [show x.idxOf c = i by unfold ix at e; omega, ha] at hg
    cases hg; rfl
  have at_i1 : ∀ {c : Int}, c ∈ x → ix x c = i + 1 → c = b := fun {c} hc e => by
    have hg := idx_get hc
    rw [show x.idxOf c = i + 1 by unfold ix at e; omega, hb] at hg
    cases hg; rfl
  refine ⟨i, hi, ⟨a, b, ha, hb, hab⟩, fun u v w hu hv hw h1 h2 => ?_⟩
  rw [swp_ix ndx hi (mx hu), swp_ix ndx hi (mx hv), swp_ix ndx hi (mx hw)]
  have uv : u ≠ v := fun e => by subst e; omega
  have wv : w ≠ v := fun e => by subst e; omega
  have uw : u ≠ w := fun e => by subst e; omega
  have n1 := ix_ne (mx hu) (mx hv) uv
  have n2 := ix_ne (mx hw) (mx hv) wv
  have n3 := ix_ne (mx hu) (mx hw) uw
  by_cases g : tau i (ix x v) < tau i (ix x u) ∨ tau i (ix x v) < tau i (ix x w)
  · exact g
  · exfalso
    have gx := dx u v w hu hv hw h1 h2
    have gy := dy u v w hu hv hw h1 h2
    have q0 : 0 ≤ ix x u := by unfold ix; omega
    rcases gx with gx | gx
    · have : ix x v = i ∧ ix x u = i + 1 ∧ ix x w < i := by
        unfold tau at g
        split at g <;> split at g <;> split at g <;> (try split at g) <;> (try split at g) <;> (try split at g) <;> omega
      obtain ⟨e1, e2, e3⟩ := this
      obtain rfl := at_i (mx hv) e1
      obtain rfl := at_i1 (mx hu) e2
      have := below (mx hw) e3
      omega
    · have : ix x v = i ∧ ix x w = i + 1 ∧ ix x u < i := by
        unfold tau at g
        split at g <;> split at g <;> split at g <;> (try split at g) <;> (try split at g) <;> (try split at g) <;> omega
      obtain ⟨e1, e2, e3⟩ := this
      obtain rfl := at_i (mx hv) e1
      obtain rfl := at_i1 (mx hw) e2
      have := below (mx hu) e3
      omega
theorem top_of (f : Nat → Int) (i : Nat) : ∀ d : Nat, ∃ m, i ≤ m ∧ m ≤ i + d ∧ ∀ t, i ≤ t → t ≤ i + d → f t ≤ f m
  | 0 => by
    refine ⟨i, by omega, by omega, fun t h1 h2 => ?_⟩
    have : t = i := by omega
    rw [this]
    exact Int.le_refl _
  | d + 1 => by
    obtain ⟨m, h1, h2, h3⟩ := top_of f i d
    by_cases h : f m < f (i + d + 1)
    · refine ⟨i + d + 1, by omega, by omega, fun t t1 t2 => ?_⟩
      by_cases ht : t = i + d + 1
      · subst ht; exact Int.le_refl _
      · have := h3 t t1 (by omega); omega
    · refine ⟨m, h1, by omega, fun t t1 t2 => ?_⟩
      by_cases ht : t = i + d + 1
      · subst ht; omega
      · exact h3 t t1 (by omega)
theorem noDent_of {ax b : List Int} (nd : ax.Nodup) (hp : b.Perm ax) (h : ∀ j : Nat, 0 < j → j + 1 < ax.length → ¬ (ix b (nt ax ((j : Int) - 1)) < ix b (nt ax j) ∧ ix b (nt ax ((j : Int) + 1)) < ix b (nt ax j))) : NoDent ax b := by
  intro u v w hu hv hw h1 h2
  by_cases g : ix b v < ix b u ∨ ix b v < ix b w
  · exact g
  · exfalso
    have at_ : ∀ {o : Int}, o ∈ ax → nt ax ((ax.idxOf o : Nat) : Int) = o := fun {o} ho => by
      unfold nt; rw [Int.toNat_natCast, idx_get ho]; rfl
    have lu := idx_lt hu
    have lv := idx_lt hv
    have lw := idx_lt hw
    have i1 : ax.idxOf u < ax.idxOf v := by unfold ix at h1; omega
    have i2 : ax.idxOf v < ax.idxOf w := by unfold ix at h2; omega
    have nuv := ix_ne (hp.mem_iff.mpr hu) (hp.mem_iff.mpr hv) (fun e => by subst e; omega)
    have nwv := ix_ne (hp.mem_iff.mpr hw) (hp.mem_iff.mpr hv) (fun e => by subst e; omega)
    obtain ⟨m, m1, m2, m3⟩ := top_of (fun t => ix b (nt ax (t : Int))) (ax.idxOf u) (ax.idxOf w - ax.idxOf u)
    have fv := m3 (ax.idxOf v) (by omega) (by omega)
    rw [at_ hv] at fv
    have mu : m ≠ ax.idxOf u := fun e => by subst e; rw [at_ hu] at fv; omega
    have mw : m ≠ ax.idxOf w := fun e => by subst e; rw [at_ hw] at fv; omega
    have ne : ∀ {s t : Nat}, s < ax.length → t < ax.length → s ≠ t → ix b (nt ax (s : Int)) ≠ ix b (nt ax (t : Int)) := fun {s t} hs ht hst => by
      refine ix_ne (hp.mem_iff.mpr (nt_ok (by omega) (by omega)).2.1) (hp.mem_iff.mpr (nt_ok (by omega) (by omega)).2.1) fun e => hst ?_
      have := congrArg (ix ax) e
      rw [nt_ix nd (by omega) (by omega), nt_ix nd (by omega) (by omega)] at this
      omega
    have k1 := m3 (m - 1) (by omega) (by omega)
    have k2 := m3 (m + 1) (by omega) (by omega)
    have k3 := ne (s := m - 1) (t := m) (by omega) (by omega) (by omega)
    have k4 := ne (s := m + 1) (t := m) (by omega) (by omega) (by omega)
    refine h m (by omega) (by omega) ?_
    rw [show (m : Int) - 1 = ((m - 1 : Nat) : Int) by omega, show (m : Int) + 1 = ((m + 1 : Nat) : Int) by omega]
    exact ⟨by omega, by omega⟩
theorem foldR_any {α R : Type} {p : α → Bool} {r : R} {f : Unit → α → Option (Step Unit R)} : ∀ (l : List α), (∀ x ∈ l, f () x = some (if p x then .out r else .go ())) → foldR f l () = some (if l.any p then .out r else .go ())
  | [], _ => rfl
  | x :: l, h => by
    rw [foldR, h x List.mem_cons_self, Option.bind_some, List.any_cons]
    cases e : p x with
    | true => rfl
    | false => exact foldR_any l fun y hy => h y (List.mem_cons_of_mem _ hy)
end Tv
namespace Tv
open PySem Dv
theorem fold_filterM {α β : Type} {f : List β → α → Option (List β)} {P : α → Bool} {g : α → β} : ∀ (rows : List α) (acc : List β), (∀ b ∈ rows, ∀ s : List β, s.length < 1000000 → f s b = some (if P b then s ++ [g b] else s)) → acc.length + rows.length ≤ 1000000 → foldQ f rows acc = some (acc ++ (rows.filter P).map g)
  | [], acc, _, _ => by simp [foldQ]
  | b :: rows, acc, h, hl => by
    rw [List.length_cons] at hl
    rw [foldQ, h b List.mem_cons_self acc (by omega), Option.bind_some]
    cases e : P b with
    | true => rw [if_pos rfl, fold_filterM rows (acc ++ [g b]) (fun c hc => h c (List.mem_cons_of_mem _ hc)) (by rw [List.length_append, List.length_singleton]; omega), List.filter_cons_of_pos e, List.append_assoc]; rfl
    | false => rw [if_neg (by decide), fold_filterM rows acc (fun c hc => h c (List.mem_cons_of_mem _ hc)) (by omega), List.filter_cons_of_neg (by rw [e]; decide)]
end Tv
namespace Tv
open PySem Dv
def dnF (a b : Int) : List Int := (List.range (a - b).toNat).map fun (k : Nat) => a - (k : Int)
def dnQ (a b : Int) : Option (List Int) := if (rangeOk a && rangeOk b && decide ((a - b).toNat ≤ 1000000)) = true then some (dnF a b) else none
theorem oi_rng3 {env : Env} {fs : M (List RV)} {a b : Int} (h : Pas env fs [.int a, .int b, .int (-(1 : Int))]) : Oj (fun r => Pi env (iCall rng3 fs) (r.map iI)) (dnQ a b) := fun r e => by
  unfold dnQ at e
  split at e
  · rename_i hh
    cases e
    rw [Bool.and_eq_true, decide_eq_true_eq] at hh
    refine pi_call h ?_ (by rw [List.length_map]; unfold dnF; rw [List.length_map, List.length_range]; exact hh.2) (fun x hx => by obtain ⟨i, _, rfl⟩ := List.mem_map.mp hx; trivial)
    have : (rangeOk a && rangeOk b && decide ((-(1 : Int)) = -1)) = true := by rw [hh.1]; rfl
    show (if (rangeOk a && rangeOk b && decide ((-(1 : Int)) = -1)) = true then _ else _) = _
    rw [if_pos this]
    simp only [dnF, List.map_map]
    rfl
  · cases e
theorem g_boolI (x : Int) : gBool [mI x] = some (mB (x != 0)) := rfl
theorem g_boolB (x : Bool) : gBool [mB x] = some (mB x) := rfl
theorem dnQ_ok {a b : Int} (h1 : -1000000 ≤ a) (h2 : a ≤ 100000) (h3 : -100000 ≤ b) (h4 : b ≤ 100000) : dnQ a b = some (dnF a b) := by
  unfold dnQ rangeOk
  rw [if_pos]
  simp only [Bool.and_eq_true, decide_eq_true_eq]
  omega
theorem mem_dnF {a b x : Int} : x ∈ dnF a b ↔ b < x ∧ x ≤ a := by
  unfold dnF
  rw [List.mem_map]
  constructor
  · rintro ⟨k, hk, rfl⟩
    rw [List.mem_range] at hk
    omega
  · rintro ⟨h1, h2⟩
    exact ⟨(a - x).toNat, by rw [List.mem_range]; omega, by omega⟩
end Tv
namespace Tv
open PySem Dv
theorem lent_set {env : Env} {i : Nat} {k1 : Kn} {K : List D → Kn} {xs : List D} (l : Lent k1 K xs) (h : env[i]? = some k1) (ys : List D) : Lent (K ys) K ys ∧ (env.set i (K ys))[i]? = some (K ys) := by
  have hi : i < env.length := (List.getElem?_eq_some_iff.mp h).1
  refine ⟨?_, List.getElem?_set_self hi⟩
  cases l with
  | ow => exact .ow
  | bo => exact .bo
theorem setIx_go {β : Type} {em : β → D} {env : Env} {i : Nat} {us zs : List β} {x : β} {t : Int} {k1 : Kn} {K : List D → Kn} {fb : ES} {ρ : Rho} (l : Lent k1 K (us.map em)) (h : env[i]? = some k1) (wx : wf (em x)) (hb : Pv env fb (.int t)) (e : setQ us t x = some zs) (q : Ag env ρ) : ∃ ρ', setIxM i (em x) fb ρ = .ok () ρ' ∧ Ag (env.set i (K (zs.map em))) ρ' := by
  unfold setQ at e
  cases e2 : L2.ixN us.length t with
  | none => rw [e2] at e; cases e
  | some j =>
    rw [e2] at e
    cases e
    obtain ⟨ev, _, lb, lp⟩ := lent_at l q h
    obtain ⟨⟨r5, e5, l5⟩, _⟩ := hb ρ q
    have w : wl (us.map em) := by
      cases l with
      | ow => exact (q.get h).2
      | bo => exact (q.get h).2
    have ww : wl ((us.set j x).map em) := by
      refine ⟨by simpa using w.1, wfs_iff.mpr fun y hy => ?_⟩
      obtain ⟨z, hz, rfl⟩ := List.mem_map.mp hy
      rcases List.mem_or_eq_of_mem_set hz with hz | rfl
      · exact wfs_iff.mp w.2 _ (List.mem_map_of_mem hz)
      · exact wx
    obtain ⟨_, ag⟩ := lp _ ww
    refine ⟨_, ?_, ag⟩
    simp only [setIxM, M.bind, ev, e5, val, l5, Dv.isInt, M.opt, lb, List.length_map, e2]
    rw [← List.map_set]
theorem go_set2 {R β : Type} {em : β → D} {env : Env} {i : Nat} {us : List β} {x y : β} {s t : Int} {k : List β → Option R} {k1 : Kn} {K : List D → Kn} {fa fx fy : ES} {rest : SS} {P : R → Fl → Prop} {E : R → Env} (l : Lent k1 K (us.map em)) (h : env[i]? = some k1) (ha : Pe env fa (.tup [em x, em y])) (hx : Pv env fx (.int s)) (hy : ∀ zs : List β, Pv (env.set i (K (zs.map em))) fy (.int t)) (g : ∀ zs : List β, Go (env.set i (K (zs.map em))) rest (k zs) P E) :
    Go env (sSeq (sSet2Ix i fa fx fy) rest) ((setQ us s x).bind fun z1 => (setQ z1 t y).bind k) P E := fun r e => by
  cases e1 : setQ us s x with
  | none => rw [e1] at e; cases e
  | some z1 =>
    rw [e1, Option.bind_some] at e
    cases e2 : setQ z1 t y with
    | none => rw [e2] at e; cases e
    | some z2 =>
      rw [e2, Option.bind_some] at e
      refine go_seq (fun ρ q => ?_) (g z2) r e
      obtain ⟨e4, w4⟩ := ha ρ q
      have ww := (wf_tup.mp w4).2
      have wx : wf (em x) := wfs_iff.mp ww _ (by simp)
      have wy : wf (em y) := wfs_iff.mp ww _ (by simp)
      obtain ⟨ρ1, f1, a1⟩ := setIx_go l h wx hx e1 q
      obtain ⟨l2, h2⟩ := lent_set l h (z1.map em)
      obtain ⟨ρ2, f2, a2⟩ := setIx_go l2 h2 wy (hy z1) e2 a1
      rw [List.set_set] at a2
      refine ⟨ρ2, ?_, a2⟩
      simp only [sSet2Ix, M.bind, e4, imm, f1, f2]
      rfl
end Tv
namespace K10
open PySem Dv Tv
abbrev c_big1 : Int := 10000000000000000
abbrev c_big2 : Int := 10000000000000000000000000000000000000000000000000000000000
abbrev c_big3 : Int := 100000000000000000000000000000000000000000000000000000000000
def T__law_bag (v_script : (List Int)) (v_spot : Int) : Option (List Int) := ((if (decide (v_spot < (v_script.length : Int))) then ((ixQ v_script v_spot).bind fun at_1 => (some at_1)) else (some (((149 : Int) * v_spot) + (83 : Int)))).bind fun if_2 => ((mulQ c_big2 c_big3).bind fun mul_3 => ((modQ (if ((if if_2 < 0 then -if_2 else if_2) - c_big1) > (0 : Int) then ((if if_2 < 0 then -if_2 else if_2) - c_big1) else (0 : Int)) mul_3).bind fun mod_4 => (some (mod_4 :: (((((((if if_2 < 0 then -if_2 else if_2) % (1152921504606846999 : Int)) * (101 : Int)) + ((1049 : Int) * v_spot)) + ((59 : Int) * (if (decide (if_2 < (0 : Int))) then 1 else 0))) + (29 : Int)) :: [(0 : Int)]))))))
theorem t__law_bag (v_script : (List Int)) (v_spot : Int) (w : wfs [(mL mI) v_script, mI v_spot]) : Oj (fun r => F__law_bag ([(mL mI) v_script, mI v_spot].map .im) = some (.nw (r.map mI), []) ∧ wl (r.map mI)) (T__law_bag v_script v_spot) :=
  fd_ok (n := 2) (m := 4) (s := s__law_bag) (fr := fun (r : (List Int)) => .nw (r.map mI)) (E := fun _ => [.a, .a, .a, .a]) (by unfold T__law_bag; exact
  (go_b (fun if_2 hif_2 => (go_set hif_2 rfl (go_b (fun mul_3 hmul_3 => (go_b (fun mod_4 hmod_4 => (go_set hmod_4 rfl (go_last (go_retL (pn_lst (ta_cons (pe_var rfl) (ta_cons (pe_bin (Pe.v (pe_bin (Pe.v (pe_bin (Pe.v (pe_mulR (Pe.v (pe_mod (Pe.v (pe_call (pas_cons (Pe.v (pe_var rfl)) pas_nil) (g_abs _) trivial)) (Pe.v (pe_c (d := .int 1152921504606846999) (by exact trivial))) (by decide))) (Pe.v (pe_c (d := .int 101) (by exact trivial))) (by decide))) (Pe.v (pe_mulL (Pe.v (pe_c (d := .int 1049) (by exact trivial))) (Pe.v (pe_var rfl)) (by decide))) (g_add _ _) (by exact trivial))) (Pe.v (pe_mulL (Pe.v (pe_c (d := .int 59) (by exact trivial))) (Pe.v (pe_call (pas_cons (Pe.v (pe_bin (Pe.v (pe_var rfl)) (Pe.v (pe_c (d := .int 0) (by exact trivial))) (g_lt _ _) (by exact trivial))) pas_nil) (g_intB _) trivial)) (by decide))) (g_add _ _) (by exact trivial))) (Pe.v (pe_c (d := .int 29) (by exact trivial))) (g_add _ _) (by exact trivial)) (ta_cons (pe_c (d := .int 0) (by exact trivial)) ta_nil))) (show (3 : Nat) ≤ 1000000 by decide)) rfl (wa_m (wa_m (wa_m (wa_m .nil))))))))
  (oe_mod (Pe.v (pe_call (pas_cons (Pe.v (pe_c (d := .int 0) (by exact trivial))) (pas_cons (Pe.v (pe_bin (Pe.v (pe_call (pas_cons (Pe.v (pe_var rfl)) pas_nil) (g_abs _) trivial)) (Pe.v (pe_bin (d := .int 10000000000000000) (Pe.v (pe_c (d := .int 10) (by exact trivial))) (Pe.v (pe_c (d := .int 16) (by exact trivial))) (by kernel_rfl) trivial)) (g_sub _ _) (by exact trivial))) pas_nil)) (g_max2 _ _) trivial)) (Pe.v hmul_3))))
  (oe_mul (Pe.v (pe_bin (d := .int 10000000000000000000000000000000000000000000000000000000000) (Pe.v (pe_c (d := .int 10) (by exact trivial))) (Pe.v (pe_c (d := .int 58) (by exact trivial))) (by kernel_rfl) trivial)) (Pe.v (pe_bin (d := .int 100000000000000000000000000000000000000000000000000000000000) (Pe.v (pe_c (d := .int 10) (by exact trivial))) (Pe.v (pe_c (d := .int 59) (by exact trivial))) (by kernel_rfl) trivial))))))
  (oj_if (em := mI) (pb_cmp (Pe.v (pe_var rfl)) (Pe.v (pe_call (pas_cons (Pe.v (pe_var rfl)) pas_nil) (g_lenL _) trivial)) (g_lt _ _)) (fun _ => (oj_b (fun at_1 hat_1 => (oj_some (pe_call (pas_cons (Pe.v hat_1) pas_nil) (g_int _) trivial))) (oe_ixL (Pe.v (pe_var rfl)) (Pe.v (pe_var rfl))))) (fun _ => (oj_some (pe_bin (Pe.v (pe_mulL (Pe.v (pe_c (d := .int 149) (by exact trivial))) (Pe.v (pe_var rfl)) (by decide))) (Pe.v (pe_c (d := .int 83) (by exact trivial))) (g_add _ _) (by exact trivial))))))) rfl (wf_svs w)
def T__law_draw (v_bag : (List Int)) (v_total : Int) : Option (Int × (List Int)) := ((ixQ v_bag (0 : Int)).bind fun at_1 => (if (decide ((0 : Int) < at_1)) then ((ixQ v_bag (0 : Int)).bind fun at_2 => ((modQ at_2 v_total).bind fun mod_3 => ((ixQ v_bag (0 : Int)).bind fun at_4 => ((divQ at_4 v_total).bind fun div_5 => ((setQ v_bag (0 : Int) div_5).bind fun bag_6 => (some (mod_3, bag_6))))))) else ((ixQ v_bag (2 : Int)).bind fun at_7 => ((setQ v_bag (2 : Int) (at_7 + (1 : Int))).bind fun bag_8 => ((ixQ bag_8 (1 : Int)).bind fun at_9 => ((ixQ bag_8 (2 : Int)).bind fun at_10 => ((mulQ ((at_9 + ((86028121 : Int) * at_10)) % (2305843009213693951 : Int)) ((at_9 + ((86028121 : Int) * at_10)) % (2305843009213693951 : Int))).bind fun mul_11 => ((ixQ bag_8 (2 : Int)).bind fun at_12 => ((modQ (((((mul_11 + ((107 : Int) * at_12)) % (2305843009213693921 : Int)) * (3999971 : Int)) + ((at_9 + ((86028121 : Int) * at_10)) % (2305843009213693951 : Int))) / (65539 : Int)) v_total).bind fun mod_13 => (some (mod_13, bag_8)))))))))))
theorem t__law_draw (v_bag : (List Int)) (v_total : Int) (v : wl (v_bag.map mI)) (w : wfs [mI v_total]) : Oj (fun r => F__law_draw (SV.bo (v_bag.map mI) :: [mI v_total].map .im) = some (.im (mI r.1), [some (r.2.map mI)]) ∧ wf (mI r.1) ∧ wl (r.2.map mI)) (T__law_draw v_bag v_total) :=
  fd_okB (n := 2) (m := 5) (s := s__law_draw) (fr := fun (r : (Int × (List Int))) => .im (mI r.1)) (bv := fun r => r.2.map mI) (E := fun _ => [.a, .a, .a, .a]) (by unfold T__law_draw; exact
  (go_b (fun at_1 hat_1 => (go_if (pb_cmp (Pe.v hat_1) (Pe.v (pe_c (d := .int 0) (by exact trivial))) (g_gt _ _)) (fun _ => (go_assoc (go_b (fun at_2 hat_2 => (go_b (fun mod_3 hmod_3 => (go_set hmod_3 rfl (go_assoc (go_b (fun at_4 hat_4 => (go_b (fun div_5 hdiv_5 => (gr_setIx (em := mI) .bo rfl hdiv_5 (Pe.v (pe_c (d := .int 0) (by exact trivial))) (fun bag_6 => (go_ret (pe_var rfl) rfl (.same (wa_m (wa_m (wa_u (wa_u .nil)))))))))
  (oe_div (Pe.v hat_4) (Pe.v (pe_var rfl)))))
  (oe_ixL (pv_bo rfl) (Pe.v (pe_c (d := .int 0) (by exact trivial))))))))
  (oe_mod (Pe.v (pe_call (pas_cons (Pe.v hat_2) pas_nil) (g_int _) trivial)) (Pe.v (pe_var rfl)))))
  (oe_ixL (pv_bo rfl) (Pe.v (pe_c (d := .int 0) (by exact trivial)))))))
  (fun _ => (go_sn (go_b (fun at_7 hat_7 => (gr_setIx (em := mI) .bo rfl (pe_bin (Pe.v hat_7) (Pe.v (pe_c (d := .int 1) (by exact trivial))) (g_add _ _) (by exact trivial)) (Pe.v (pe_c (d := .int 2) (by exact trivial))) (fun bag_8 => (go_b (fun at_9 hat_9 => (go_b (fun at_10 hat_10 => (go_set (pe_mod (Pe.v (pe_call (pas_cons (Pe.v (pe_bin (Pe.v hat_9) (Pe.v (pe_mulL (Pe.v (pe_c (d := .int 86028121) (by exact trivial))) (Pe.v hat_10) (by decide))) (g_add _ _) (by exact trivial))) pas_nil) (g_int _) trivial)) (Pe.v (pe_c (d := .int 2305843009213693951) (by exact trivial))) (by decide)) rfl (go_b (fun mul_11 hmul_11 => (go_b (fun at_12 hat_12 => (go_set (pe_bin (Pe.v (pe_mulR (Pe.v (pe_mod (Pe.v (pe_call (pas_cons (Pe.v (pe_bin (Pe.v hmul_11) (Pe.v (pe_mulL (Pe.v (pe_c (d := .int 107) (by exact trivial))) (Pe.v hat_12) (by decide))) (g_add _ _) (by exact trivial))) pas_nil) (g_int _) trivial)) (Pe.v (pe_c (d := .int 2305843009213693921) (by exact trivial))) (by decide))) (Pe.v (pe_c (d := .int 3999971) (by exact trivial))) (by decide))) (Pe.v (pe_var rfl)) (g_add _ _) (by exact trivial)) rfl (go_last (go_b (fun mod_13 hmod_13 => (go_ret hmod_13 rfl (.same (wa_m (wa_u (wa_m (wa_m .nil)))))))
  (oe_mod (Pe.v (pe_call (pas_cons (Pe.v (pe_div (Pe.v (pe_var rfl)) (Pe.v (pe_c (d := .int 65539) (by exact trivial))) (c_div (by decide) (by decide)))) pas_nil) (g_int _) trivial)) (Pe.v (pe_var rfl)))))))
  (oe_ixL (pv_bo rfl) (Pe.v (pe_c (d := .int 2) (by exact trivial))))))
  (oe_mul (Pe.v (pe_var rfl)) (Pe.v (pe_var rfl))))))
  (oe_ixL (pv_bo rfl) (Pe.v (pe_c (d := .int 2) (by exact trivial))))))
  (oe_ixL (pv_bo rfl) (Pe.v (pe_c (d := .int 1) (by exact trivial))))))))
  (oe_ixL (pv_bo rfl) (Pe.v (pe_c (d := .int 2) (by exact trivial)))))))))
  (oe_ixL (pv_bo rfl) (Pe.v (pe_c (d := .int 0) (by exact trivial)))))) rfl (fun _ => rfl) v w
def T__law_mixed_t1 (p_found : (List Int)) (p_at : Int) (p_other : Int) : Option ((List Int)) := ((ixQ p_found p_other).bind fun at_5 => ((ixQ p_found p_at).bind fun at_6 => ((setQ p_found p_at at_5).bind fun found_7 => ((setQ found_7 p_other at_6).bind fun found_8 => (some found_8)))))
def T__law_mixed (v_bag : (List Int)) (v_items : (List Int)) : Option ((List Int) × (List Int)) := ((dnQ ((v_items.length : Int) - (1 : Int)) (0 : Int)).bind fun rg_1 => ((foldQ (fun (s_2 : ((List Int) × (List Int))) at_3 => ((T__law_draw s_2.2 (at_3 + (1 : Int))).bind fun r_4 => ((T__law_mixed_t1 s_2.1 at_3 r_4.1).map (fun (u : ((List Int))) => (u, r_4.2))))) rg_1 (v_items, v_bag)).bind fun s_2 => (some (s_2.1, s_2.2))))
theorem t__law_mixed (v_bag : (List Int)) (v_items : (List Int)) (v : wl (v_bag.map mI)) (w : wfs [(mL mI) v_items]) : Oj (fun r => F__law_mixed (SV.bo (v_bag.map mI) :: [(mL mI) v_items].map .im) = some (.nw (r.1.map mI), [some (r.2.map mI)]) ∧ wl (r.1.map mI) ∧ wl (r.2.map mI)) (T__law_mixed v_bag v_items) :=
  fd_okB (n := 2) (m := 5) (s := s__law_mixed) (fr := fun (r : ((List Int) × (List Int))) => .nw (r.1.map mI)) (bv := fun r => r.2.map mI) (E := fun _ => [.a, .a, .a, .a]) (by unfold T__law_mixed; exact
  (go_own (xs := List.map mI v_items) (pn_listL (pas_cons (Pe.v (pe_var rfl)) pas_nil)) rfl (go_b (fun rg_1 hrg_1 => (go_for (E' := fun (s_2 : ((List Int) × (List Int))) => [bo (s_2.2.map mI), im ((mL mI) v_items), ow (s_2.1.map mI), .i, .i]) hrg_1 (.same (.same (.same (wi_u (wi_u .nil))))) (fun s_2 at_3 => (tg_set rfl)) (fun s_2 at_3 => (go_b (Q := fun (r_4 : (Int × (List Int))) => Re [bo (s_2.2.map mI), im ((mL mI) v_items), ow (s_2.1.map mI), im (mI at_3), .i] _ (mI r_4.1) [bo (r_4.2.map mI), im ((mL mI) v_items), ow (s_2.1.map mI), im (mI at_3), .i]) (fun r_4 hr_4 => (gr_set hr_4 rfl (go_map (φ := (fun (u : ((List Int))) => (u, r_4.2))) (by unfold T__law_mixed_t1; exact
  (go_last (go_b (fun at_9 hat_9 => (go_b (fun at_10 hat_10 => (go_set2 (em := mI) (x := at_9) (y := at_10) .ow rfl (pe_tup (pai_cons hat_9 (pai_cons hat_10 pai_nil)) (show (2 : Nat) ≤ 1000000 by decide)) (Pe.v (pe_var rfl)) (fun found_11 => (Pe.v (pe_var rfl))) (fun found_12 => (go_nil (.inl rfl) (.same (.same (.same (wi_m (wi_m .nil)))))))))
  (oe_ixL (pv_ow rfl) (Pe.v (pe_var rfl)))))
  (oe_ixL (pv_ow rfl) (Pe.v (pe_var rfl)))))))))
  (or_userL (em := fun (r : (Int × (List Int))) => mI r.1) (bv := fun (r : (Int × (List Int))) => r.2.map mI) .bo rfl (ra_cons (Pe.r (pe_bin (Pe.v (pe_var rfl)) (Pe.v (pe_c (d := .int 1) (by exact trivial))) (g_add _ _) (by exact trivial))) ra_nil) .bo rfl (t__law_draw s_2.2 (at_3 + (1 : Int))))))
  (fun s_2 => (go_last (go_retO rfl rfl (.same (wa_m (wa_o (wa_i (wa_i .nil))))))))))
  (oi_rng3 (pas_cons (Pe.v (pe_bin (Pe.v (pe_call (pas_cons (pv_ow rfl) pas_nil) (g_lenL _) trivial)) (Pe.v (pe_c (d := .int 1) (by exact trivial))) (g_sub _ _) (by exact trivial))) (pas_cons (Pe.v (pe_c (d := .int 0) (by exact trivial))) (pas_cons (Pe.v (pe_un (Pe.v (pe_c (d := .int 1) (by exact trivial))) (g_neg _) (by exact trivial))) pas_nil))))))) rfl (fun _ => rfl) v w
def T__law_of_peak : Nat → (List Int) → Int → Int → (List Int) → Option (List (List Int))
  | 0, _, _, _, _ => none
  | fuel + 1, v_axis, v_low, v_high, v_found => (if ((decide (v_low = (0 : Int))) && (decide (v_high = ((v_axis.length : Int) - (1 : Int))))) then (some [v_found]) else ((if (decide ((0 : Int) < v_low)) then ((ixQ v_axis (v_low - (1 : Int))).bind fun at_1 => ((catQ v_found [at_1]).bind fun cat_2 => ((T__law_of_peak fuel v_axis (v_low - (1 : Int)) v_high cat_2).bind fun r_3 => (some r_3)))) else (some ([] : List (List Int)))).bind fun if_4 => ((if (decide (v_high < ((v_axis.length : Int) - (1 : Int)))) then ((ixQ v_axis (v_high + (1 : Int))).bind fun at_5 => ((catQ v_found [at_5]).bind fun cat_6 => ((T__law_of_peak fuel v_axis v_low (v_high + (1 : Int)) cat_6).bind fun r_7 => (some r_7)))) else (some ([] : List (List Int)))).bind fun if_8 => ((catQ if_4 if_8).bind fun cat_9 => (some cat_9)))))
theorem t__law_of_peak : ∀ (fuel : Nat) (v_axis : (List Int)) (v_low : Int) (v_high : Int) (v_found : (List Int)) (w : wfs [(mT mI) v_axis, mI v_low, mI v_high, (mT mI) v_found]), Oj (fun r => F__law_of_peak fuel ([(mT mI) v_axis, mI v_low, mI v_high, (mT mI) v_found].map .im) = some (.nw (r.map (mT mI)), []) ∧ wl (r.map (mT mI))) (T__law_of_peak fuel v_axis v_low v_high v_found)
  | 0, _, _, _, _, _ => fun _ e => nomatch e
  | fuel + 1, v_axis, v_low, v_high, v_found, w => fd_ok (n := 4) (m := 5) (s := s__law_of_peak (F__law_of_peak fuel)) (fr := fun (r : (List (List Int))) => .nw (r.map (mT mI))) (E := fun _ => [.a, .a, .a, .a, .a]) (by rw [T__law_of_peak]; exact
  (go_if (pb_and (pb_cmp (Pe.v (pe_var rfl)) (Pe.v (pe_c (d := .int 0) (by exact trivial))) (g_eq eqI (by decide) v_low (0 : Int))) (fun _ => (pb_cmp (Pe.v (pe_var rfl)) (Pe.v (pe_bin (Pe.v (pe_call (pas_cons (Pe.v (pe_var rfl)) pas_nil) (g_lenT _) trivial)) (Pe.v (pe_c (d := .int 1) (by exact trivial))) (g_sub _ _) (by exact trivial))) (g_eq eqI (by decide) v_high ((v_axis.length : Int) - (1 : Int)))))) (fun _ => (go_retL (pn_lst (ta_cons (pe_var rfl) ta_nil) (show (1 : Nat) ≤ 1000000 by decide)) rfl (wa_m (wa_m (wa_m (wa_m (wa_u .nil)))))))
  (fun _ => (go_sn (go_b (fun if_4 hif_4 => (go_set hif_4 rfl (go_last (go_b (fun if_8 hif_8 => (go_b (fun cat_9 hcat_9 => (go_retL hcat_9 rfl (wa_m (wa_m (wa_m (wa_m (wa_m .nil)))))))
  (on_cat (Pe.v (pe_var rfl)) (Pe.v hif_8))))
  (oj_if (em := (mL (mT mI))) (pb_cmp (Pe.v (pe_var rfl)) (Pe.v (pe_bin (Pe.v (pe_call (pas_cons (Pe.v (pe_var rfl)) pas_nil) (g_lenT _) trivial)) (Pe.v (pe_c (d := .int 1) (by exact trivial))) (g_sub _ _) (by exact trivial))) (g_lt _ _)) (fun _ => (oj_b (fun at_5 hat_5 => (oj_b (fun cat_6 hcat_6 => (oj_b (fun r_7 hr_7 => (oj_some hr_7)) (oj_userN (pai_cons (pe_var rfl) (pai_cons (pe_var rfl) (pai_cons (pe_bin (Pe.v (pe_var rfl)) (Pe.v (pe_c (d := .int 1) (by exact trivial))) (g_add _ _) (by exact trivial)) (pai_cons hcat_6 pai_nil)))) (t__law_of_peak fuel v_axis v_low (v_high + (1 : Int)) cat_6)))) (oe_catT (Pe.v (pe_var rfl)) (Pe.v (pe_tup (ta_cons hat_5 ta_nil) (show (1 : Nat) ≤ 1000000 by decide)))))) (oe_ixT (Pe.v (pe_var rfl)) (Pe.v (pe_bin (Pe.v (pe_var rfl)) (Pe.v (pe_c (d := .int 1) (by exact trivial))) (g_add _ _) (by exact trivial)))))) (fun _ => (oj_some (pe_n (pn_lst ta_nil (show (0 : Nat) ≤ 1000000 by decide))))))))))
  (oj_if (em := (mL (mT mI))) (pb_cmp (Pe.v (pe_var rfl)) (Pe.v (pe_c (d := .int 0) (by exact trivial))) (g_gt _ _)) (fun _ => (oj_b (fun at_1 hat_1 => (oj_b (fun cat_2 hcat_2 => (oj_b (fun r_3 hr_3 => (oj_some hr_3)) (oj_userN (pai_cons (pe_var rfl) (pai_cons (pe_bin (Pe.v (pe_var rfl)) (Pe.v (pe_c (d := .int 1) (by exact trivial))) (g_sub _ _) (by exact trivial)) (pai_cons (pe_var rfl) (pai_cons hcat_2 pai_nil)))) (t__law_of_peak fuel v_axis (v_low - (1 : Int)) v_high cat_2)))) (oe_catT (Pe.v (pe_var rfl)) (Pe.v (pe_tup (ta_cons hat_1 ta_nil) (show (1 : Nat) ≤ 1000000 by decide)))))) (oe_ixT (Pe.v (pe_var rfl)) (Pe.v (pe_bin (Pe.v (pe_var rfl)) (Pe.v (pe_c (d := .int 1) (by exact trivial))) (g_sub _ _) (by exact trivial)))))) (fun _ => (oj_some (pe_n (pn_lst ta_nil (show (0 : Nat) ≤ 1000000 by decide))))))))))) rfl (wf_svs w)
def T__law_places (v_row : (List Int)) : Option (List Int) := ((repQ [(0 : Int)] (v_row.length : Int)).bind fun rep_1 => ((foldQ (fun (s_2 : ((List Int))) place_3 => ((setQ s_2 place_3.2 place_3.1).bind fun found_4 => (some found_4))) (enumI v_row) rep_1).bind fun s_2 => (some s_2)))
theorem t__law_places (v_row : (List Int)) (w : wfs [(mT mI) v_row]) : Oj (fun r => F__law_places ([(mT mI) v_row].map .im) = some (.nw (r.map mI), []) ∧ wl (r.map mI)) (T__law_places v_row) :=
  fd_ok (n := 1) (m := 4) (s := s__law_places) (fr := fun (r : (List Int)) => .nw (r.map mI)) (E := fun _ => [.a, .a, .a, .a]) (by unfold T__law_places; exact
  (go_b (fun rep_1 hrep_1 => (go_own (xs := List.map mI rep_1) hrep_1 rfl (go_for (E' := fun (s_2 : ((List Int))) => [im ((mT mI) v_row), ow (s_2.map mI), .i, .i]) (ti_enumAT (pai_cons (pe_var rfl) pai_nil)) (.same (.same (wi_u (wi_u .nil)))) (fun s_2 place_3 => (tg_tw rfl (tgs_cons (tg_set rfl) (tgs_cons (tg_set rfl) tgs_nil)))) (fun s_2 place_3 => (go_last (gr_setIx (em := mI) .ow rfl (pe_var rfl) (Pe.v (pe_var rfl)) (fun found_4 => (go_nil (.inl rfl) (.same (.same (wi_m (wi_m .nil)))))))))
  (fun s_2 => (go_last (go_retO rfl rfl (wa_m (wa_o (wa_i (wa_i .nil))))))))))
  (on_rep (pn_lst (ta_cons (pe_c (d := .int 0) (by exact trivial)) ta_nil) (show (1 : Nat) ≤ 1000000 by decide)) (Pe.v (pe_call (pas_cons (Pe.v (pe_var rfl)) pas_nil) (g_lenT _) trivial))))) rfl (wf_svs w)
abbrev c_GREAT : Int := 1000000000000000000000000000000000000000000000000000000000000
def T_is_whole (v_value : Int) : Option Bool := (some (true && ((!false) && ((decide ((-c_GREAT) < v_value)) && (decide (v_value < c_GREAT))))))
theorem t_is_whole (v_value : Int) (w : wfs [mI v_value]) : Oj (fun r => F_is_whole ([mI v_value].map .im) = some (.im (mB r), []) ∧ wf (mB r)) (T_is_whole v_value) :=
  fd_ok (n := 1) (m := 1) (s := s_is_whole) (fr := fun r => .im (mB r)) (E := fun _ => [.a]) (by unfold T_is_whole; exact
  (go_last (go_ret (pe_andB (pe_un (Pe.v (pe_var rfl)) rfl trivial) (fun _ => (pe_andB (pe_not (Pe.v (pe_un (Pe.v (pe_var rfl)) rfl trivial)) (t_bl _)) (fun _ => (pe_chain (Pe.v (pe_un (Pe.v (pe_c (by exact trivial))) (g_neg _) (by exact trivial))) (Pe.v (pe_var rfl)) (g_lt _ _) (Pe.v (pe_c (by exact trivial))) (g_lt _ _)))))) rfl (wa_m .nil)))) rfl (wf_svs w)
def P_is_whole (v_value : Int) : Bool := (true && ((!false) && ((decide ((-c_GREAT) < v_value)) && (decide (v_value < c_GREAT)))))
theorem e_is_whole (v_value : Int) : T_is_whole v_value = some (P_is_whole v_value) := by unfold T_is_whole P_is_whole; first | rfl | (repeat' split) <;> rfl
theorem p_is_whole (v_value : Int) (w : wfs [mI v_value]) : F_is_whole ([mI v_value].map .im) = some (.im (mB (P_is_whole v_value)), []) ∧ wf (mB (P_is_whole v_value)) := t_is_whole v_value w _ (e_is_whole v_value)
def T_is_within (v_value : Int) (v_low : Int) (v_high : Int) : Option Bool := (some ((P_is_whole v_value) && ((decide (v_low ≤ v_value)) && (decide (v_value ≤ v_high)))))
theorem t_is_within (v_value : Int) (v_low : Int) (v_high : Int) (w : wfs [mI v_value, mI v_low, mI v_high]) : Oj (fun r => F_is_within ([mI v_value, mI v_low, mI v_high].map .im) = some (.im (mB r), []) ∧ wf (mB r)) (T_is_within v_value v_low v_high) :=
  fd_ok (n := 3) (m := 3) (s := s_is_within) (fr := fun r => .im (mB r)) (E := fun _ => [.a, .a, .a]) (by unfold T_is_within; exact
  (go_last (go_ret (pe_andB (pe_user (pai_cons (pe_var rfl) pai_nil) (p_is_whole v_value)) (fun _ => (pe_chain (Pe.v (pe_var rfl)) (Pe.v (pe_var rfl)) (g_le _ _) (Pe.v (pe_var rfl)) (g_le _ _)))) rfl (wa_m (wa_m (wa_m .nil)))))) rfl (wf_svs w)
def P_is_within (v_value : Int) (v_low : Int) (v_high : Int) : Bool := ((P_is_whole v_value) && ((decide (v_low ≤ v_value)) && (decide (v_value ≤ v_high))))
theorem e_is_within (v_value : Int) (v_low : Int) (v_high : Int) : T_is_within v_value v_low v_high = some (P_is_within v_value v_low v_high) := by unfold T_is_within P_is_within; first | rfl | (repeat' split) <;> rfl
theorem p_is_within (v_value : Int) (v_low : Int) (v_high : Int) (w : wfs [mI v_value, mI v_low, mI v_high]) : F_is_within ([mI v_value, mI v_low, mI v_high].map .im) = some (.im (mB (P_is_within v_value v_low v_high)), []) ∧ wf (mB (P_is_within v_value v_low v_high)) := t_is_within v_value v_low v_high w _ (e_is_within v_value v_low v_high)
def T_require_size (v_size : Int) : Option Unit := (if (!(P_is_within v_size (1 : Int) (9 : Int))) then none else (some ()))
theorem t_require_size (v_size : Int) (w : wfs [mI v_size]) : Oj (fun r => F_require_size ([mI v_size].map .im) = some (.im (mU r), []) ∧ wf (mU r)) (T_require_size v_size) :=
  fd_ok (n := 1) (m := 1) (s := s_require_size) (fr := fun r => .im (mU r)) (E := fun _ => [.a]) (by unfold T_require_size; exact
  (go_last (go_if (pb_not (pb_val (Pe.v (pe_user (pai_cons (pe_var rfl) (pai_cons (pe_c (d := .int 1) (by exact trivial)) (pai_cons (pe_c (by exact trivial)) pai_nil))) (p_is_within v_size (1 : Int) (9 : Int)))) (t_bl _))) (fun _ => go_never)
  (fun _ => (go_sn (go_nil rfl (wa_m .nil))))))) rfl (wf_svs w)
def T_is_option (v_size : Int) (v_value : Int) : Option Bool := (some (P_is_within v_value (0 : Int) (v_size - (1 : Int))))
theorem t_is_option (v_size : Int) (v_value : Int) (w : wfs [mI v_size, mI v_value]) : Oj (fun r => F_is_option ([mI v_size, mI v_value].map .im) = some (.im (mB r), []) ∧ wf (mB r)) (T_is_option v_size v_value) :=
  fd_ok (n := 2) (m := 2) (s := s_is_option) (fr := fun r => .im (mB r)) (E := fun _ => [.a, .a]) (by unfold T_is_option; exact
  (go_last (go_ret (pe_user (pai_cons (pe_var rfl) (pai_cons (pe_c (d := .int 0) (by exact trivial)) (pai_cons (pe_bin (Pe.v (pe_var rfl)) (Pe.v (pe_c (d := .int 1) (by exact trivial))) (g_sub _ _) (by exact trivial)) pai_nil))) (p_is_within v_value (0 : Int) (v_size - (1 : Int)))) rfl (wa_m (wa_m .nil))))) rfl (wf_svs w)
def P_is_option (v_size : Int) (v_value : Int) : Bool := (P_is_within v_value (0 : Int) (v_size - (1 : Int)))
theorem e_is_option (v_size : Int) (v_value : Int) : T_is_option v_size v_value = some (P_is_option v_size v_value) := by unfold T_is_option P_is_option; first | rfl | (repeat' split) <;> rfl
theorem p_is_option (v_size : Int) (v_value : Int) (w : wfs [mI v_size, mI v_value]) : F_is_option ([mI v_size, mI v_value].map .im) = some (.im (mB (P_is_option v_size v_value)), []) ∧ wf (mB (P_is_option v_size v_value)) := t_is_option v_size v_value w _ (e_is_option v_size v_value)
def T_is_row_of (v_size : Int) (v_value : (List Int)) : Option Bool := (if ((!true) || ((!decide ((v_value.length : Int) = v_size)) || (!((v_value.map fun one_1 => (P_is_option v_size one_1)).all id)))) then (some false) else ((setIQ v_value).bind fun set_2 => (some (decide ((set_2.length : Int) = v_size)))))
theorem t_is_row_of (v_size : Int) (v_value : (List Int)) (w : wfs [mI v_size, (mT mI) v_value]) : Oj (fun r => F_is_row_of ([mI v_size, (mT mI) v_value].map .im) = some (.im (mB r), []) ∧ wf (mB r)) (T_is_row_of v_size v_value) :=
  fd_ok (n := 2) (m := 3) (s := s_is_row_of) (fr := fun r => .im (mB r)) (E := fun _ => [.a, .a, .a]) (by unfold T_is_row_of; exact
  (go_if (pb_or (pb_not (pb_val (Pe.v (pe_un (Pe.v (pe_var rfl)) rfl trivial)) (t_bl _))) (fun _ => (pb_or (pb_cmp (Pe.v (pe_call (pas_cons (Pe.v (pe_var rfl)) pas_nil) (g_lenT _) trivial)) (Pe.v (pe_var rfl)) (g_ne eqI (by decide) (v_value.length : Int) v_size)) (fun _ => (pb_not (pb_val (Pe.v (pe_call (pas_cons (Pe.v (pe_n (pn_lc0 (em := mB) (ti_T (pe_var rfl)) rfl (by decide) (fun one_1 => (tg_set rfl)) (fun one_1 => (pe_user (pai_cons (pe_var rfl) (pai_cons (pe_var rfl) pai_nil)) (p_is_option v_size one_1)))))) pas_nil) (g_all _) trivial)) (t_bl _))))))) (fun _ => (go_ret (pe_c (d := .bl false) (by exact trivial)) rfl (wa_m (wa_m (wa_u .nil)))))
  (fun _ => (go_sn (go_last (go_b (fun set_2 hset_2 => (go_ret (pe_bin (Pe.v (pe_call (pas_cons (Pe.v hset_2) pas_nil) (g_lenS _) trivial)) (Pe.v (pe_var rfl)) (g_eq eqI (by decide) (set_2.length : Int) v_size) (by exact trivial)) rfl (wa_m (wa_m (wa_u .nil)))))
  (oe_setT (pas_cons (Pe.v (pe_var rfl)) pas_nil)))))))) rfl (wf_svs w)
def T_require_axis (v_size : Int) (v_axis : (List Int)) : Option Unit := ((T_require_size v_size).bind fun r_1 => ((T_is_row_of v_size v_axis).bind fun r_2 => (if (!r_2) then none else (some ()))))
theorem t_require_axis (v_size : Int) (v_axis : (List Int)) (w : wfs [mI v_size, (mT mI) v_axis]) : Oj (fun r => F_require_axis ([mI v_size, (mT mI) v_axis].map .im) = some (.im (mU r), []) ∧ wf (mU r)) (T_require_axis v_size v_axis) :=
  fd_ok (n := 2) (m := 2) (s := s_require_axis) (fr := fun r => .im (mU r)) (E := fun _ => [.a, .a]) (by unfold T_require_axis; exact
  (go_b (fun r_1 hr_1 => (go_expr hr_1 (go_last (go_b (fun r_2 hr_2 => (go_if (pb_not (pb_val (Pe.v hr_2) (t_bl _))) (fun _ => go_never)
  (fun _ => (go_sn (go_nil rfl (wa_m (wa_m .nil)))))))
  (oj_user (pai_cons (pe_var rfl) (pai_cons (pe_var rfl) pai_nil)) (t_is_row_of v_size v_axis))))))
  (oj_user (pai_cons (pe_var rfl) pai_nil) (t_require_size v_size)))) rfl (wf_svs w)
def T_require_option (v_size : Int) (v_value : Int) : Option Unit := (if (!(P_is_option v_size v_value)) then none else (some ()))
theorem t_require_option (v_size : Int) (v_value : Int) (w : wfs [mI v_size, mI v_value]) : Oj (fun r => F_require_option ([mI v_size, mI v_value].map .im) = some (.im (mU r), []) ∧ wf (mU r)) (T_require_option v_size v_value) :=
  fd_ok (n := 2) (m := 2) (s := s_require_option) (fr := fun r => .im (mU r)) (E := fun _ => [.a, .a]) (by unfold T_require_option; exact
  (go_last (go_if (pb_not (pb_val (Pe.v (pe_user (pai_cons (pe_var rfl) (pai_cons (pe_var rfl) pai_nil)) (p_is_option v_size v_value))) (t_bl _))) (fun _ => go_never)
  (fun _ => (go_sn (go_nil rfl (wa_m (wa_m .nil)))))))) rfl (wf_svs w)
def T_is_sure_in (v_axis : (List Int)) (v_peak : Int) (v_one : Int) (v_other : Int) : Option Bool := (some ((!decide (v_one = v_other)) && (((decide (v_peak ≤ v_one)) && (decide (v_one < v_other))) || (((decide (v_other < v_one)) && (decide (v_one ≤ v_peak))) || (decide (v_one = v_peak))))))
theorem t_is_sure_in (v_axis : (List Int)) (v_peak : Int) (v_one : Int) (v_other : Int) (w : wfs [(mT mI) v_axis, mI v_peak, mI v_one, mI v_other]) : Oj (fun r => F_is_sure_in ([(mT mI) v_axis, mI v_peak, mI v_one, mI v_other].map .im) = some (.im (mB r), []) ∧ wf (mB r)) (T_is_sure_in v_axis v_peak v_one v_other) :=
  fd_ok (n := 4) (m := 4) (s := s_is_sure_in) (fr := fun r => .im (mB r)) (E := fun _ => [.a, .a, .a, .a]) (by unfold T_is_sure_in; exact
  (go_last (go_ret (pe_andB (pe_bin (Pe.v (pe_var rfl)) (Pe.v (pe_var rfl)) (g_ne eqI (by decide) v_one v_other) (by exact trivial)) (fun _ => (pe_orB (pe_chain (Pe.v (pe_var rfl)) (Pe.v (pe_var rfl)) (g_le _ _) (Pe.v (pe_var rfl)) (g_lt _ _)) (fun _ => (pe_orB (pe_chain (Pe.v (pe_var rfl)) (Pe.v (pe_var rfl)) (g_lt _ _) (Pe.v (pe_var rfl)) (g_le _ _)) (fun _ => (pe_bin (Pe.v (pe_var rfl)) (Pe.v (pe_var rfl)) (g_eq eqI (by decide) v_one v_peak) (by exact trivial)))))))) rfl (wa_m (wa_m (wa_m (wa_m .nil))))))) rfl (wf_svs w)
def P_is_sure_in (v_axis : (List Int)) (v_peak : Int) (v_one : Int) (v_other : Int) : Bool := ((!decide (v_one = v_other)) && (((decide (v_peak ≤ v_one)) && (decide (v_one < v_other))) || (((decide (v_other < v_one)) && (decide (v_one ≤ v_peak))) || (decide (v_one = v_peak)))))
theorem e_is_sure_in (v_axis : (List Int)) (v_peak : Int) (v_one : Int) (v_other : Int) : T_is_sure_in v_axis v_peak v_one v_other = some (P_is_sure_in v_axis v_peak v_one v_other) := by unfold T_is_sure_in P_is_sure_in; first | rfl | (repeat' split) <;> rfl
theorem p_is_sure_in (v_axis : (List Int)) (v_peak : Int) (v_one : Int) (v_other : Int) (w : wfs [(mT mI) v_axis, mI v_peak, mI v_one, mI v_other]) : F_is_sure_in ([(mT mI) v_axis, mI v_peak, mI v_one, mI v_other].map .im) = some (.im (mB (P_is_sure_in v_axis v_peak v_one v_other)), []) ∧ wf (mB (P_is_sure_in v_axis v_peak v_one v_other)) := t_is_sure_in v_axis v_peak v_one v_other w _ (e_is_sure_in v_axis v_peak v_one v_other)
def T_sure_pairs (v_size : Int) (v_axis : (List Int)) (v_option : Int) : Option (List (Int × Int)) := ((T_require_axis v_size v_axis).bind fun r_1 => ((T_require_option v_size v_option).bind fun r_2 => ((idxQ v_axis v_option).bind fun ix_3 => ((rngQ 0 v_size).bind fun rg_4 => ((foldQ (fun (s_5 : ((List (Int × Int)))) one_6 => ((rngQ 0 v_size).bind fun rg_7 => ((lcQ (fun other_8 => ((idxQ v_axis one_6).bind fun ix_9 => ((idxQ v_axis other_8).bind fun ix_10 => (some (P_is_sure_in v_axis ix_3 ix_9 ix_10))))) (fun other_8 => (some other_8)) rg_7).bind fun lc_11 => ((catQ s_5 (lc_11.map fun other_12 => (one_6, other_12))).bind fun found_13 => (some found_13))))) rg_4 ([] : List (Int × Int))).bind fun s_5 => (some s_5))))))
theorem t_sure_pairs (v_size : Int) (v_axis : (List Int)) (v_option : Int) (w : wfs [mI v_size, (mT mI) v_axis, mI v_option]) : Oj (fun r => F_sure_pairs ([mI v_size, (mT mI) v_axis, mI v_option].map .im) = some (.im ((mT (mP mI mI)) r), []) ∧ wf ((mT (mP mI mI)) r)) (T_sure_pairs v_size v_axis v_option) :=
  fd_ok (n := 3) (m := 8) (s := s_sure_pairs) (fr := fun r => .im ((mT (mP mI mI)) r)) (E := fun _ => [.a, .a, .a, .a, .a, .a, .a, .a]) (by unfold T_sure_pairs; exact
  (go_b (fun r_1 hr_1 => (go_expr hr_1 (go_b (fun r_2 hr_2 => (go_expr hr_2 (go_b (fun ix_3 hix_3 => (gr_parN (rps_v (d := mI ix_3) (Pe.r hix_3) (rps_n (xs := List.map (mP mI mI) ([] : List (Int × Int))) (Pn.r (pn_lst ta_nil (show (0 : Nat) ≤ 1000000 by decide))) .nil)) rfl (go_b (fun rg_4 hrg_4 => (go_for (E' := fun (s_5 : ((List (Int × Int)))) => [im (mI v_size), im ((mT mI) v_axis), im (mI v_option), im (mI ix_3), ow (s_5.map (mP mI mI)), .i, .i, un]) hrg_4 (.same (.same (.same (.same (.same (wi_u (wi_u (.same .nil)))))))) (fun s_5 one_6 => (tg_set rfl)) (fun s_5 one_6 => (go_b (fun rg_7 hrg_7 => (go_b (fun lc_11 hlc_11 => (go_setL (xs := List.map mI lc_11) hlc_11 rfl (go_last (go_extend (em := (mP mI mI)) rfl (pe_n (pn_lc0 (em := (mP mI mI)) (ti_L (pe_var rfl)) rfl (by decide) (fun other_12 => (tg_set rfl)) (fun other_12 => (pe_tup (pai_cons (pe_var rfl) (pai_cons (pe_var rfl) pai_nil)) (show (2 : Nat) ≤ 1000000 by decide))))) (fun found_13 => (go_nil (.inl rfl) (.same (.same (.same (.same (.same (wi_m (wi_m (.same .nil))))))))))))))
  (oj_lc (em := mI) hrg_7 rfl (by decide) (fun other_8 => (tg_set rfl)) (fun other_8 => (oj_b (fun ix_9 hix_9 => (oj_b (fun ix_10 hix_10 => (oj_some (pb_val (Pe.v (pe_user (pai_cons (pe_var rfl) (pai_cons (pe_var rfl) (pai_cons hix_9 (pai_cons hix_10 pai_nil)))) (p_is_sure_in v_axis ix_3 ix_9 ix_10))) (t_bl _)))) (oe_idxT (Pe.v (pe_var rfl)) (Pe.v (pe_var rfl))))) (oe_idxT (Pe.v (pe_var rfl)) (Pe.v (pe_var rfl))))) (fun other_8 => (oj_some (pe_var rfl))))))
  (oi_rng1 (pas_cons (Pe.v (pe_var rfl)) pas_nil))))
  (fun s_5 => (go_last (go_ret (pe_tupleL (pas_cons (pv_ow rfl) pas_nil)) rfl (wa_m (wa_m (wa_m (wa_m (wa_o (wa_i (wa_i (wa_u .nil)))))))))))))
  (oi_rng1 (pas_cons (Pe.v (pe_var rfl)) pas_nil)))))
  (oe_idxT (Pe.v (pe_var rfl)) (Pe.v (pe_var rfl))))))
  (oj_user (pai_cons (pe_var rfl) (pai_cons (pe_var rfl) pai_nil)) (t_require_option v_size v_option)))))
  (oj_user (pai_cons (pe_var rfl) (pai_cons (pe_var rfl) pai_nil)) (t_require_axis v_size v_axis)))) rfl (wf_svs w)
def T_turned (v_size : Int) (v_axis : (List Int)) : Option (List Int) := ((T_require_axis v_size v_axis).bind fun r_1 => (some v_axis.reverse))
theorem t_turned (v_size : Int) (v_axis : (List Int)) (w : wfs [mI v_size, (mT mI) v_axis]) : Oj (fun r => F_turned ([mI v_size, (mT mI) v_axis].map .im) = some (.im ((mT mI) r), []) ∧ wf ((mT mI) r)) (T_turned v_size v_axis) :=
  fd_ok (n := 2) (m := 2) (s := s_turned) (fr := fun r => .im ((mT mI) r)) (E := fun _ => [.a, .a]) (by unfold T_turned; exact
  (go_b (fun r_1 hr_1 => (go_expr hr_1 (go_last (go_ret (pe_revT (Pe.v (pe_var rfl))) rfl (wa_m (wa_m .nil))))))
  (oj_user (pai_cons (pe_var rfl) (pai_cons (pe_var rfl) pai_nil)) (t_require_axis v_size v_axis)))) rfl (wf_svs w)
def T_is_whole_2 (v_value : D) : Option Bool := ((isiQ "int" v_value).bind fun is_1 => ((if is_1 then ((isiQ "bool" v_value).bind fun is_2 => ((if (!is_2) then ((chQ (blQ (gLtA (mI (-c_GREAT)) v_value)) (blQ (gLtA v_value (mI c_GREAT)))).bind fun b_3 => (some b_3)) else (some false)).bind fun b_4 => (some b_4))) else (some false)).bind fun b_5 => (some b_5)))
theorem t_is_whole_2 (v_value : D) (w : wfs [mD v_value]) : Oj (fun r => F_is_whole ([mD v_value].map .im) = some (.im (mB r), []) ∧ wf (mB r)) (T_is_whole_2 v_value) :=
  fd_ok (n := 1) (m := 1) (s := s_is_whole) (fr := fun r => .im (mB r)) (E := fun _ => [.a]) (by unfold T_is_whole_2; exact
  (go_last (go_b (fun is_1 his_1 => (go_b (fun b_5 hb_5 => (go_ret hb_5 rfl (wa_m .nil)))
  (oj_andB his_1 (fun _ => (oj_b (fun is_2 his_2 => (oj_b (fun b_4 hb_4 => (oj_some hb_4)) (oj_andB (pe_not (Pe.v his_2) (t_bl _)) (fun _ => (oj_b (fun b_3 hb_3 => (oj_some hb_3)) (oe_chain (Pe.v (pe_un (Pe.v (pe_c (by exact trivial))) (g_neg _) (by exact trivial))) (Pe.v (pe_var rfl)) (Pe.v (pe_c (by exact trivial))))))))) (oe_isi (Pe.v (pe_var rfl))))))))
  (oe_isi (Pe.v (pe_var rfl)))))) rfl (wf_svs w)
def T_is_within_2 (v_value : D) (v_low : Int) (v_high : Int) : Option Bool := ((T_is_whole_2 v_value).bind fun r_1 => ((if r_1 then ((chQ (blQ (gLeA (mI v_low) v_value)) (blQ (gLeA v_value (mI v_high)))).bind fun b_2 => (some b_2)) else (some false)).bind fun b_3 => (some b_3)))
theorem t_is_within_2 (v_value : D) (v_low : Int) (v_high : Int) (w : wfs [mD v_value, mI v_low, mI v_high]) : Oj (fun r => F_is_within ([mD v_value, mI v_low, mI v_high].map .im) = some (.im (mB r), []) ∧ wf (mB r)) (T_is_within_2 v_value v_low v_high) :=
  fd_ok (n := 3) (m := 3) (s := s_is_within) (fr := fun r => .im (mB r)) (E := fun _ => [.a, .a, .a]) (by unfold T_is_within_2; exact
  (go_last (go_b (fun r_1 hr_1 => (go_b (fun b_3 hb_3 => (go_ret hb_3 rfl (wa_m (wa_m (wa_m .nil)))))
  (oj_andB hr_1 (fun _ => (oj_b (fun b_2 hb_2 => (oj_some hb_2)) (oe_chain (Pe.v (pe_var rfl)) (Pe.v (pe_var rfl)) (Pe.v (pe_var rfl))))))))
  (oj_user (pai_cons (pe_var rfl) pai_nil) (t_is_whole_2 v_value))))) rfl (wf_svs w)
def T_is_option_2 (v_size : Int) (v_value : D) : Option Bool := ((T_is_within_2 v_value (0 : Int) (v_size - (1 : Int))).bind fun r_1 => (some r_1))
theorem t_is_option_2 (v_size : Int) (v_value : D) (w : wfs [mI v_size, mD v_value]) : Oj (fun r => F_is_option ([mI v_size, mD v_value].map .im) = some (.im (mB r), []) ∧ wf (mB r)) (T_is_option_2 v_size v_value) :=
  fd_ok (n := 2) (m := 2) (s := s_is_option) (fr := fun r => .im (mB r)) (E := fun _ => [.a, .a]) (by unfold T_is_option_2; exact
  (go_last (go_b (fun r_1 hr_1 => (go_ret hr_1 rfl (wa_m (wa_m .nil))))
  (oj_user (pai_cons (pe_var rfl) (pai_cons (pe_c (d := .int 0) (by exact trivial)) (pai_cons (pe_bin (Pe.v (pe_var rfl)) (Pe.v (pe_c (d := .int 1) (by exact trivial))) (g_sub _ _) (by exact trivial)) pai_nil))) (t_is_within_2 v_value (0 : Int) (v_size - (1 : Int))))))) rfl (wf_svs w)
def T_is_row_of_2 (v_size : Int) (v_value : D) : Option Bool := ((isiQ "tuple" v_value).bind fun is_1 => ((if (!is_1) then (some true) else ((lenQ v_value).bind fun len_2 => ((if (!decide (len_2 = v_size)) then (some true) else ((seqQ v_value).bind fun seq_3 => ((lcQ (fun one_4 => (some true)) (fun one_4 => ((T_is_option_2 v_size one_4).bind fun r_5 => (some r_5))) seq_3).bind fun lc_6 => (some (!(lc_6.all id)))))).bind fun b_7 => (some b_7)))).bind fun b_8 => (if b_8 then (some false) else (((deT deI) v_value).bind fun de_9 => ((setIQ de_9).bind fun set_10 => (some (decide ((set_10.length : Int) = v_size))))))))
theorem t_is_row_of_2 (v_size : Int) (v_value : D) (w : wfs [mI v_size, mD v_value]) : Oj (fun r => F_is_row_of ([mI v_size, mD v_value].map .im) = some (.im (mB r), []) ∧ wf (mB r)) (T_is_row_of_2 v_size v_value) :=
  fd_ok (n := 2) (m := 3) (s := s_is_row_of) (fr := fun r => .im (mB r)) (E := fun _ => [.a, .a, .a]) (by unfold T_is_row_of_2; exact
  (go_b (fun is_1 his_1 => (go_b (fun b_8 hb_8 => (go_if hb_8 (fun _ => (go_ret (pe_c (d := .bl false) (by exact trivial)) rfl (wa_m (wa_m (wa_u .nil)))))
  (fun _ => (go_sn (go_last (go_b (fun de_9 hde_9 => (go_b (fun set_10 hset_10 => (go_ret (pe_bin (Pe.v (pe_call (pas_cons (Pe.v hset_10) pas_nil) (g_lenS _) trivial)) (Pe.v (pe_var rfl)) (g_eq eqI (by decide) (set_10.length : Int) v_size) (by exact trivial)) rfl (wa_m (wa_m (wa_u .nil)))))
  (oe_setT (pas_cons (Pe.v hde_9) pas_nil))))
  (oe_de (de_T de_I) (pe_var rfl))))))))
  (oj_or (pb_not (pb_val (Pe.v his_1) (t_bl _))) (fun _ => (oj_b (fun len_2 hlen_2 => (oj_b (fun b_7 hb_7 => (oj_some hb_7)) (oj_or (pb_cmp (Pe.v hlen_2) (Pe.v (pe_var rfl)) (g_ne eqI (by decide) len_2 v_size)) (fun _ => (oj_b (fun seq_3 hseq_3 => (oj_b (fun lc_6 hlc_6 => (oj_some (pb_not (pb_val (Pe.v (pe_call (pas_cons (Pe.v (pe_n hlc_6)) pas_nil) (g_all _) trivial)) (t_bl _))))) (oj_lc (em := mB) hseq_3 rfl (by decide) (fun one_4 => (tg_set rfl)) (fun one_4 => (oj_some pb_yes)) (fun one_4 => (oj_b (fun r_5 hr_5 => (oj_some hr_5)) (oj_user (pai_cons (pe_var rfl) (pai_cons (pe_var rfl) pai_nil)) (t_is_option_2 v_size one_4))))))) (ti_D (pe_var rfl))))))) (oe_lenD (pas_cons (Pe.v (pe_var rfl)) pas_nil)))))))
  (oe_isi (Pe.v (pe_var rfl))))) rfl (wf_svs w)
def T_is_axis (v_size : Int) (v_value : D) : Option Bool := ((T_require_size v_size).bind fun r_1 => ((T_is_row_of_2 v_size v_value).bind fun r_2 => (some r_2)))
theorem t_is_axis (v_size : Int) (v_value : D) (w : wfs [mI v_size, mD v_value]) : Oj (fun r => F_is_axis ([mI v_size, mD v_value].map .im) = some (.im (mB r), []) ∧ wf (mB r)) (T_is_axis v_size v_value) :=
  fd_ok (n := 2) (m := 2) (s := s_is_axis) (fr := fun r => .im (mB r)) (E := fun _ => [.a, .a]) (by unfold T_is_axis; exact
  (go_b (fun r_1 hr_1 => (go_expr hr_1 (go_last (go_b (fun r_2 hr_2 => (go_ret hr_2 rfl (wa_m (wa_m .nil))))
  (oj_user (pai_cons (pe_var rfl) (pai_cons (pe_var rfl) pai_nil)) (t_is_row_of_2 v_size v_value))))))
  (oj_user (pai_cons (pe_var rfl) pai_nil) (t_require_size v_size)))) rfl (wf_svs w)
def T__law_right_t1 (p_size : Int) (p_row : (List Int)) : Option Bool := ((catQ p_row [(0 : Int)]).bind fun cat_31 => ((catQ [p_size] (cut p_row (some (1 : Int)) none)).bind fun cat_33 => ((if (decide (p_size = (1 : Int))) then (some true) else ((lcQ (fun value_34 => (some true)) (fun value_34 => ((T_is_axis p_size value_34).bind fun r_35 => (some r_35))) (((mT mI) p_row) :: (((mL mI) p_row) :: (((mT mI) (cut p_row (some (1 : Int)) none)) :: (((mT mI) cat_31) :: ((mU ()) :: (((mT mI) ([] : List Int)) :: (((mT mB) (p_row.map fun one_32 => (one_32 != 0))) :: [((mT mI) cat_33)])))))))).bind fun lc_36 => ((repQ [false] (7 : Int)).bind fun rep_37 => ((catQ [true] rep_37).bind fun cat_38 => ((samQ (mL mB) lc_36 cat_38).bind fun same_39 => (some same_39)))))).bind fun b_40 => (some b_40))))
def T__law_right (v_bag : (List Int)) (v_most : Int) : Option (Bool × (List Int)) := ((T__law_draw v_bag v_most).bind fun r_1 => ((rngQ 0 ((1 : Int) + r_1.1)).bind fun rg_2 => ((T__law_mixed r_1.2 rg_2).bind fun r_3 => ((T__law_draw r_3.2 ((1 : Int) + r_1.1)).bind fun r_4 => ((idxQ r_3.1 r_4.1).bind fun ix_5 => ((T__law_of_peak 12 r_3.1 ix_5 ix_5 [r_4.1]).bind fun r_6 => ((lcQ (fun row_7 => (some true)) (fun row_7 => ((T__law_places row_7).bind fun r_8 => (some r_8))) r_6).bind fun lc_9 => ((rngQ 0 ((1 : Int) + r_1.1)).bind fun rg_10 => ((foldQ (fun (s_11 : ((List (Int × Int)))) one_12 => ((rngQ 0 ((1 : Int) + r_1.1)).bind fun rg_13 => ((lcQ (fun other_14 => ((if (!decide (one_12 = other_14)) then ((lcQ (fun row_15 => ((ixQ row_15 one_12).bind fun at_16 => ((ixQ row_15 other_14).bind fun at_18 => (some (decide (at_18 < at_16)))))) (fun row_15 => (some row_15)) lc_9).bind fun lc_19 => (some (decide (lc_19 = ([] : List (List Int)))))) else (some false)).bind fun b_20 => (some b_20))) (fun other_14 => (some (one_12, other_14))) rg_13).bind fun lc_21 => ((catQ s_11 lc_21).bind fun due_22 => (some due_22))))) rg_10 ([] : List (Int × Int))).bind fun s_11 => ((T_sure_pairs ((1 : Int) + r_1.1) r_3.1 r_4.1).bind fun r_23 => ((samQ (mT (mP mI mI)) r_23 s_11).bind fun same_24 => ((if (!same_24) then (some true) else ((T_turned ((1 : Int) + r_1.1) r_3.1).bind fun r_25 => ((T_sure_pairs ((1 : Int) + r_1.1) r_25 r_4.1).bind fun r_26 => ((samQ (mT (mP mI mI)) r_26 s_11).bind fun same_27 => (some (!same_27)))))).bind fun b_28 => (if b_28 then (some (false, r_4.2)) else ((rngQ 0 ((1 : Int) + r_1.1)).bind fun rg_29 => ((T__law_mixed r_4.2 rg_29).bind fun r_30 => ((T__law_right_t1 ((1 : Int) + r_1.1) r_30.1).map (fun (r : Bool) => (r, r_30.2))))))))))))))))))
theorem t__law_right (v_bag : (List Int)) (v_most : Int) (v : wl (v_bag.map mI)) (w : wfs [mI v_most]) : Oj (fun r => F__law_right (SV.bo (v_bag.map mI) :: [mI v_most].map .im) = some (.im (mB r.1), [some (r.2.map mI)]) ∧ wf (mB r.1) ∧ wl (r.2.map mI)) (T__law_right v_bag v_most) :=
  fd_okB (n := 2) (m := 13) (s := s__law_right) (fr := fun (r : (Bool × (List Int))) => .im (mB r.1)) (bv := fun r => r.2.map mI) (E := fun _ => [.a, .a, .a, .a, .a, .a, .a, .a, .a, .a, .a, .a]) (by unfold T__law_right; exact
  (go_b (Q := fun (r_1 : (Int × (List Int))) => Re [bo (v_bag.map mI), im (mI v_most), un, un, un, un, un, un, un, un, un, un, un] _ (mI r_1.1) [bo (r_1.2.map mI), im (mI v_most), un, un, un, un, un, un, un, un, un, un, un]) (fun r_1 hr_1 => (gr_set (re_bin (Pe.r (pe_c (d := .int 1) (by exact trivial))) hr_1 (g_add _ _) (by exact trivial)) rfl (go_b (fun rg_2 hrg_2 => (go_b (Q := fun (r_3 : ((List Int) × (List Int))) => Re [bo (r_1.2.map mI), im (mI v_most), im (mI ((1 : Int) + r_1.1)), un, un, un, un, un, un, un, un, un, un] _ _ [bo (r_3.2.map mI), im (mI v_most), im (mI ((1 : Int) + r_1.1)), un, un, un, un, un, un, un, un, un, un]) (fun r_3 hr_3 => (go_b (Q := fun (r_4 : (Int × (List Int))) => Re [bo (r_3.2.map mI), im (mI v_most), im (mI ((1 : Int) + r_1.1)), un, un, un, un, un, un, un, un, un, un] _ (mI r_4.1) [bo (r_4.2.map mI), im (mI v_most), im (mI ((1 : Int) + r_1.1)), un, un, un, un, un, un, un, un, un, un]) (fun r_4 hr_4 => (gr_parVV  (re_tupleL hr_3) hr_4 rfl rfl (go_b (fun ix_5 hix_5 => (go_set hix_5 rfl (go_b (fun r_6 hr_6 => (go_b (fun lc_9 hlc_9 => (go_set (pe_n hlc_9) rfl (go_own (xs := List.map (mP mI mI) ([] : List (Int × Int))) (pn_lst ta_nil (show (0 : Nat) ≤ 1000000 by decide)) rfl (go_b (fun rg_10 hrg_10 => (go_for (E' := fun (s_11 : ((List (Int × Int)))) => [bo (r_4.2.map mI), im (mI v_most), im (mI ((1 : Int) + r_1.1)), im ((mT mI) r_3.1), im (mI r_4.1), im (mI ix_5), im ((mL (mL mI)) lc_9), ow (s_11.map (mP mI mI)), .i, un, un, un, un]) hrg_10 (.same (.same (.same (.same (.same (.same (.same (.same (wi_u (.same (.same (.same (.same .nil))))))))))))) (fun s_11 one_12 => (tg_set rfl)) (fun s_11 one_12 => (go_last (go_b (fun rg_13 hrg_13 => (go_b (fun lc_21 hlc_21 => (go_extend (em := (mP mI mI)) rfl (pe_n hlc_21) (fun due_22 => (go_nil (.inl rfl) (.same (.same (.same (.same (.same (.same (.same (.same (wi_m (.same (.same (.same (.same .nil)))))))))))))))))
  (oj_lc (em := (mP mI mI)) hrg_13 rfl (by decide) (fun other_14 => (tg_set rfl)) (fun other_14 => (oj_b (fun b_20 hb_20 => (oj_some hb_20)) (oj_and (pb_cmp (Pe.v (pe_var rfl)) (Pe.v (pe_var rfl)) (g_ne eqI (by decide) one_12 other_14)) (fun _ => (oj_b (fun lc_19 hlc_19 => (oj_some (pb_cmp (Pe.v (pe_n hlc_19)) (Pe.v (pe_n (pn_lst ta_nil (show (0 : Nat) ≤ 1000000 by decide)))) (g_eq (eqL (eqL eqI)) (by decide) lc_19 ([] : List (List Int)))))) (oj_lc (em := (mL mI)) (ti_L (pe_var rfl)) rfl (by decide) (fun row_15 => (tg_set rfl)) (fun row_15 => (oj_b (fun at_16 hat_16 => (oj_b (fun at_18 hat_18 => (oj_some (pb_cmp (Pe.v hat_16) (Pe.v hat_18) (g_gt _ _)))) (oe_ixL (Pe.v (pe_var rfl)) (Pe.v (pe_var rfl))))) (oe_ixL (Pe.v (pe_var rfl)) (Pe.v (pe_var rfl))))) (fun row_15 => (oj_some (pe_var rfl))))))))) (fun other_14 => (oj_some (pe_tup (pai_cons (pe_var rfl) (pai_cons (pe_var rfl) pai_nil)) (show (2 : Nat) ≤ 1000000 by decide)))))))
  (oi_rng1 (pas_cons (Pe.v (pe_var rfl)) pas_nil)))))
  (fun s_11 => (go_b (fun r_23 hr_23 => (go_b (fun same_24 hsame_24 => (go_b (fun b_28 hb_28 => (go_if hb_28 (fun _ => (go_ret (pe_c (d := .bl false) (by exact trivial)) rfl (.same (wa_m (wa_m (wa_m (wa_m (wa_m (wa_m (wa_o (wa_i (wa_u (wa_u (wa_u (wa_u .nil)))))))))))))))
  (fun _ => (go_sn (go_b (fun rg_29 hrg_29 => (go_b (Q := fun (r_30 : ((List Int) × (List Int))) => Re [bo (r_4.2.map mI), im (mI v_most), im (mI ((1 : Int) + r_1.1)), im ((mT mI) r_3.1), im (mI r_4.1), im (mI ix_5), im ((mL (mL mI)) lc_9), ow (s_11.map (mP mI mI)), .i, un, un, un, un] _ _ [bo (r_30.2.map mI), im (mI v_most), im (mI ((1 : Int) + r_1.1)), im ((mT mI) r_3.1), im (mI r_4.1), im (mI ix_5), im ((mL (mL mI)) lc_9), ow (s_11.map (mP mI mI)), .i, un, un, un, un]) (fun r_30 hr_30 => (gr_set hr_30 rfl (go_map (φ := (fun (r : Bool) => (r, r_30.2))) (by unfold T__law_right_t1; exact
  (go_b (fun cat_41 hcat_41 => (go_b (fun cat_43 hcat_43 => (go_set (pe_n (pn_lst (ta_cons (em := mD) (x := ((mT mI) r_30.1)) (pe_tupleL (pas_cons (Pe.v (pe_var rfl)) pas_nil)) (ta_cons (em := mD) (x := ((mL mI) r_30.1)) (pe_var rfl) (ta_cons (em := mD) (x := ((mT mI) (cut r_30.1 (some (1 : Int)) none))) (pe_tupleL (pas_cons (Pe.v (pe_cutL (Pe.v (pe_var rfl)) (po_some (Pe.v (pe_c (d := .int 1) (by exact trivial)))) po_none)) pas_nil)) (ta_cons (em := mD) (x := ((mT mI) cat_41)) hcat_41 (ta_cons (em := mD) (x := (mU ())) (pe_c (d := .non) (by exact trivial)) (ta_cons (em := mD) (x := ((mT mI) ([] : List Int))) (pe_tup ta_nil (show (0 : Nat) ≤ 1000000 by decide)) (ta_cons (em := mD) (x := ((mT mB) (r_30.1.map fun one_42 => (one_42 != 0)))) (pe_tupleL (pas_cons (Pe.v (pe_n (pn_lc0 (em := mB) (ti_L (pe_var rfl)) rfl (by decide) (fun one_42 => (tg_set rfl)) (fun one_42 => (pe_call (pas_cons (Pe.v (pe_var rfl)) pas_nil) (g_boolI _) trivial))))) pas_nil)) (ta_cons (em := mD) (x := ((mT mI) cat_43)) hcat_43 ta_nil)))))))) (show (8 : Nat) ≤ 1000000 by decide))) rfl (go_last (go_b (fun b_50 hb_50 => (go_ret hb_50 rfl (.same (wa_m (wa_m (wa_m (wa_m (wa_m (wa_m (wa_o (wa_i (wa_m (wa_m (wa_u (wa_u .nil)))))))))))))))
  (oj_orB (pe_bin (Pe.v (pe_var rfl)) (Pe.v (pe_c (d := .int 1) (by exact trivial))) (g_eq eqI (by decide) ((1 : Int) + r_1.1) (1 : Int)) (by exact trivial)) (fun _ => (oj_b (fun lc_46 hlc_46 => (oj_b (fun rep_47 hrep_47 => (oj_b (fun cat_48 hcat_48 => (oj_b (fun same_49 hsame_49 => (oj_some hsame_49)) (oe_sam (pas_cons (Pe.v (pe_n hlc_46)) pas_nil) (pas_cons (Pe.v hcat_48) pas_nil)))) (oe_catL (Pe.v (pe_n (pn_lst (ta_cons (pe_c (d := .bl true) (by exact trivial)) ta_nil) (show (1 : Nat) ≤ 1000000 by decide)))) (Pe.v (pe_n hrep_47))))) (on_rep (pn_lst (ta_cons (pe_c (d := .bl false) (by exact trivial)) ta_nil) (show (1 : Nat) ≤ 1000000 by decide)) (Pe.v (pe_c (d := .int 7) (by exact trivial)))))) (oj_lc (em := mB) (ti_L (pe_var rfl)) rfl (by decide) (fun value_44 => (tg_set rfl)) (fun value_44 => (oj_some pb_yes)) (fun value_44 => (oj_b (fun r_45 hr_45 => (oj_some hr_45)) (oj_user (pai_cons (pe_var rfl) (pai_cons (pe_var rfl) pai_nil)) (t_is_axis ((1 : Int) + r_1.1) value_44))))))))))))
  (oe_catT (Pe.v (pe_tup (ta_cons (pe_var rfl) ta_nil) (show (1 : Nat) ≤ 1000000 by decide))) (Pe.v (pe_tupleL (pas_cons (Pe.v (pe_cutL (Pe.v (pe_var rfl)) (po_some (Pe.v (pe_c (d := .int 1) (by exact trivial)))) po_none)) pas_nil))))))
  (oe_catT (Pe.v (pe_tupleL (pas_cons (Pe.v (pe_var rfl)) pas_nil))) (Pe.v (pe_tup (ta_cons (pe_c (d := .int 0) (by exact trivial)) ta_nil) (show (1 : Nat) ≤ 1000000 by decide)))))))))
  (or_userLN (el := fun (r : ((List Int) × (List Int))) => r.1.map mI) (bv := fun (r : ((List Int) × (List Int))) => r.2.map mI) .bo rfl (ra_cons (Pe.r (pe_n hrg_29)) ra_nil) .bo rfl (t__law_mixed r_4.2 rg_29))))
  (on_rg (pr_one (Pe.v (pe_var rfl)))))))))
  (oj_or hsame_24 (fun _ => (oj_b (fun r_25 hr_25 => (oj_b (fun r_26 hr_26 => (oj_b (fun same_27 hsame_27 => (oj_some hsame_27)) (ob_dif (pas_cons (Pe.v hr_26) pas_nil) (pas_cons (Pe.v (pe_tupleL (pas_cons (pv_ow rfl) pas_nil))) pas_nil)))) (oj_user (pai_cons (pe_var rfl) (pai_cons hr_25 (pai_cons (pe_var rfl) pai_nil))) (t_sure_pairs ((1 : Int) + r_1.1) r_25 r_4.1)))) (oj_user (pai_cons (pe_var rfl) (pai_cons (pe_var rfl) pai_nil)) (t_turned ((1 : Int) + r_1.1) r_3.1)))))))
  (ob_dif (pas_cons (Pe.v hr_23) pas_nil) (pas_cons (Pe.v (pe_tupleL (pas_cons (pv_ow rfl) pas_nil))) pas_nil))))
  (oj_user (pai_cons (pe_var rfl) (pai_cons (pe_var rfl) (pai_cons (pe_var rfl) pai_nil))) (t_sure_pairs ((1 : Int) + r_1.1) r_3.1 r_4.1))))))
  (oi_rng1 (pas_cons (Pe.v (pe_var rfl)) pas_nil))))))
  (oj_lc (em := (mL mI)) (ti_L hr_6) rfl (by decide) (fun row_7 => (tg_set rfl)) (fun row_7 => (oj_some pb_yes)) (fun row_7 => (oj_b (fun r_8 hr_8 => (oj_some hr_8)) (oj_userN (pai_cons (pe_var rfl) pai_nil) (t__law_places row_7)))))))
  (oj_userN (pai_cons (pe_var rfl) (pai_cons (pe_var rfl) (pai_cons (pe_var rfl) (pai_cons (pe_tup (ta_cons (pe_var rfl) ta_nil) (show (1 : Nat) ≤ 1000000 by decide)) pai_nil)))) (t__law_of_peak 12 r_3.1 ix_5 ix_5 [r_4.1])))))
  (oe_idxT (Pe.v (pe_var rfl)) (Pe.v (pe_var rfl))))))
  (or_userL (em := fun (r : (Int × (List Int))) => mI r.1) (bv := fun (r : (Int × (List Int))) => r.2.map mI) .bo rfl (ra_cons (Pe.r (pe_var rfl)) ra_nil) .bo rfl (t__law_draw r_3.2 ((1 : Int) + r_1.1)))))
  (or_userLN (el := fun (r : ((List Int) × (List Int))) => r.1.map mI) (bv := fun (r : ((List Int) × (List Int))) => r.2.map mI) .bo rfl (ra_cons (Pe.r (pe_n hrg_2)) ra_nil) .bo rfl (t__law_mixed r_1.2 rg_2))))
  (on_rg (pr_one (Pe.v (pe_var rfl)))))))
  (or_userL (em := fun (r : (Int × (List Int))) => mI r.1) (bv := fun (r : (Int × (List Int))) => r.2.map mI) .bo rfl (ra_cons (Pe.r (pe_var rfl)) ra_nil) .bo rfl (t__law_draw v_bag v_most)))) rfl (fun _ => rfl) v w
def T_require_on (v_size : Int) (v_axis : (List Int)) (v_ballot : (List Int)) : Option Unit := ((T_require_axis v_size v_axis).bind fun r_1 => ((T_is_row_of v_size v_ballot).bind fun r_2 => (if (!r_2) then none else (some ()))))
theorem t_require_on (v_size : Int) (v_axis : (List Int)) (v_ballot : (List Int)) (w : wfs [mI v_size, (mT mI) v_axis, (mT mI) v_ballot]) : Oj (fun r => F_require_on ([mI v_size, (mT mI) v_axis, (mT mI) v_ballot].map .im) = some (.im (mU r), []) ∧ wf (mU r)) (T_require_on v_size v_axis v_ballot) :=
  fd_ok (n := 3) (m := 3) (s := s_require_on) (fr := fun r => .im (mU r)) (E := fun _ => [.a, .a, .a]) (by unfold T_require_on; exact
  (go_b (fun r_1 hr_1 => (go_expr hr_1 (go_last (go_b (fun r_2 hr_2 => (go_if (pb_not (pb_val (Pe.v hr_2) (t_bl _))) (fun _ => go_never)
  (fun _ => (go_sn (go_nil rfl (wa_m (wa_m (wa_m .nil))))))))
  (oj_user (pai_cons (pe_var rfl) (pai_cons (pe_var rfl) pai_nil)) (t_is_row_of v_size v_ballot))))))
  (oj_user (pai_cons (pe_var rfl) (pai_cons (pe_var rfl) pai_nil)) (t_require_axis v_size v_axis)))) rfl (wf_svs w)
def T_places_in (v_ballot : (List Int)) : Option (List Int) := ((repQ [(0 : Int)] (v_ballot.length : Int)).bind fun rep_1 => ((foldQ (fun (s_2 : ((List Int))) place_3 => ((setQ s_2 place_3.2 place_3.1).bind fun found_4 => (some found_4))) (enumI v_ballot) rep_1).bind fun s_2 => (some s_2)))
theorem t_places_in (v_ballot : (List Int)) (w : wfs [(mT mI) v_ballot]) : Oj (fun r => F_places_in ([(mT mI) v_ballot].map .im) = some (.nw (r.map mI), []) ∧ wl (r.map mI)) (T_places_in v_ballot) :=
  fd_ok (n := 1) (m := 4) (s := s_places_in) (fr := fun (r : (List Int)) => .nw (r.map mI)) (E := fun _ => [.a, .a, .a, .a]) (by unfold T_places_in; exact
  (go_b (fun rep_1 hrep_1 => (go_own (xs := List.map mI rep_1) hrep_1 rfl (go_for (E' := fun (s_2 : ((List Int))) => [im ((mT mI) v_ballot), ow (s_2.map mI), .i, .i]) (ti_enumAT (pai_cons (pe_var rfl) pai_nil)) (.same (.same (wi_u (wi_u .nil)))) (fun s_2 place_3 => (tg_tw rfl (tgs_cons (tg_set rfl) (tgs_cons (tg_set rfl) tgs_nil)))) (fun s_2 place_3 => (go_last (gr_setIx (em := mI) .ow rfl (pe_var rfl) (Pe.v (pe_var rfl)) (fun found_4 => (go_nil (.inl rfl) (.same (.same (wi_m (wi_m .nil)))))))))
  (fun s_2 => (go_last (go_retO rfl rfl (wa_m (wa_o (wa_i (wa_i .nil))))))))))
  (on_rep (pn_lst (ta_cons (pe_c (d := .int 0) (by exact trivial)) ta_nil) (show (1 : Nat) ≤ 1000000 by decide)) (Pe.v (pe_call (pas_cons (Pe.v (pe_var rfl)) pas_nil) (g_lenT _) trivial))))) rfl (wf_svs w)
def T_is_peaked_in (v_axis : (List Int)) (v_ballot : (List Int)) : Option Bool := ((T_places_in v_ballot).bind fun r_1 => ((lcQ (fun option_2 => (some true)) (fun option_2 => ((ixQ r_1 option_2).bind fun at_3 => (some at_3))) v_axis).bind fun lc_4 => ((rngQ (1 : Int) ((lc_4.length : Int) - (1 : Int))).bind fun rg_5 => ((foldR (fun (s_6 : Unit) at_7 => ((ixQ lc_4 at_7).bind fun at_8 => ((ixQ lc_4 (at_7 - (1 : Int))).bind fun at_10 => ((if (decide (at_10 < at_8)) then ((ixQ lc_4 at_7).bind fun at_11 => ((ixQ lc_4 (at_7 + (1 : Int))).bind fun at_13 => (some (decide (at_13 < at_11))))) else (some false)).bind fun b_14 => (if b_14 then (some (.out false)) else (some (.go ()))))))) rg_5 ()).bind (stepK fun s_6 => (some true))))))
theorem t_is_peaked_in (v_axis : (List Int)) (v_ballot : (List Int)) (w : wfs [(mT mI) v_axis, (mT mI) v_ballot]) : Oj (fun r => F_is_peaked_in ([(mT mI) v_axis, (mT mI) v_ballot].map .im) = some (.im (mB r), []) ∧ wf (mB r)) (T_is_peaked_in v_axis v_ballot) :=
  fd_ok (n := 2) (m := 6) (s := s_is_peaked_in) (fr := fun r => .im (mB r)) (E := fun _ => [.a, .a, .a, .a, .a, .a]) (by unfold T_is_peaked_in; exact
  (go_b (fun r_1 hr_1 => (go_set hr_1 rfl (go_b (fun lc_4 hlc_4 => (go_setL (xs := List.map mI lc_4) hlc_4 rfl (go_b (fun rg_5 hrg_5 => (go_forR (E' := fun (s_6 : Unit) => [im ((mT mI) v_axis), im ((mT mI) v_ballot), im ((mL mI) r_1), im ((mL mI) lc_4), .i, un]) hrg_5 (.same (.same (.same (.same (wi_u (.same .nil)))))) (fun s_6 at_7 => (tg_set rfl)) (fun s_6 at_7 => (go_last (go_b (fun at_8 hat_8 => (go_b (fun at_10 hat_10 => (go_b (fun b_14 hb_14 => (go_if hb_14 (fun _ => (go_ret (pe_c (d := .bl false) (by exact trivial)) ⟨rfl, .inl ⟨_, rfl⟩⟩ (wa_m (wa_m (wa_m (wa_m (wa_m (wa_u .nil))))))))
  (fun _ => (go_sn (go_nil (.inl rfl) (.same (.same (.same (.same (wi_m (.same .nil)))))))))))
  (oj_and (pb_cmp (Pe.v hat_8) (Pe.v hat_10) (g_gt _ _)) (fun _ => (oj_b (fun at_11 hat_11 => (oj_b (fun at_13 hat_13 => (oj_some (pb_cmp (Pe.v hat_11) (Pe.v hat_13) (g_gt _ _)))) (oe_ixL (Pe.v (pe_var rfl)) (Pe.v (pe_bin (Pe.v (pe_var rfl)) (Pe.v (pe_c (d := .int 1) (by exact trivial))) (g_add _ _) (by exact trivial)))))) (oe_ixL (Pe.v (pe_var rfl)) (Pe.v (pe_var rfl))))))))
  (oe_ixL (Pe.v (pe_var rfl)) (Pe.v (pe_bin (Pe.v (pe_var rfl)) (Pe.v (pe_c (d := .int 1) (by exact trivial))) (g_sub _ _) (by exact trivial))))))
  (oe_ixL (Pe.v (pe_var rfl)) (Pe.v (pe_var rfl))))))
  (fun s_6 => (go_last (go_ret (pe_c (d := .bl true) (by exact trivial)) rfl (wa_m (wa_m (wa_m (wa_m (wa_i (wa_u .nil)))))))))))
  (oi_rng2 (pas_cons (Pe.v (pe_c (d := .int 1) (by exact trivial))) (pas_cons (Pe.v (pe_bin (Pe.v (pe_call (pas_cons (Pe.v (pe_var rfl)) pas_nil) (g_lenL _) trivial)) (Pe.v (pe_c (d := .int 1) (by exact trivial))) (g_sub _ _) (by exact trivial))) pas_nil))))))
  (oj_lc (em := mI) (ti_T (pe_var rfl)) rfl (by decide) (fun option_2 => (tg_set rfl)) (fun option_2 => (oj_some pb_yes)) (fun option_2 => (oj_b (fun at_3 hat_3 => (oj_some hat_3)) (oe_ixL (Pe.v (pe_var rfl)) (Pe.v (pe_var rfl)))))))))
  (oj_userN (pai_cons (pe_var rfl) pai_nil) (t_places_in v_ballot)))) rfl (wf_svs w)
def T_is_peaked (v_size : Int) (v_axis : (List Int)) (v_ballot : (List Int)) : Option Bool := ((T_require_on v_size v_axis v_ballot).bind fun r_1 => ((T_is_peaked_in v_axis v_ballot).bind fun r_2 => (some r_2)))
theorem t_is_peaked (v_size : Int) (v_axis : (List Int)) (v_ballot : (List Int)) (w : wfs [mI v_size, (mT mI) v_axis, (mT mI) v_ballot]) : Oj (fun r => F_is_peaked ([mI v_size, (mT mI) v_axis, (mT mI) v_ballot].map .im) = some (.im (mB r), []) ∧ wf (mB r)) (T_is_peaked v_size v_axis v_ballot) :=
  fd_ok (n := 3) (m := 3) (s := s_is_peaked) (fr := fun r => .im (mB r)) (E := fun _ => [.a, .a, .a]) (by unfold T_is_peaked; exact
  (go_b (fun r_1 hr_1 => (go_expr hr_1 (go_last (go_b (fun r_2 hr_2 => (go_ret hr_2 rfl (wa_m (wa_m (wa_m .nil)))))
  (oj_user (pai_cons (pe_var rfl) (pai_cons (pe_var rfl) pai_nil)) (t_is_peaked_in v_axis v_ballot))))))
  (oj_user (pai_cons (pe_var rfl) (pai_cons (pe_var rfl) (pai_cons (pe_var rfl) pai_nil))) (t_require_on v_size v_axis v_ballot)))) rfl (wf_svs w)
def T_law (v_script : (List Int)) : Option Bool := ((rngQ 0 (if (if (v_script.length : Int) < (2 : Int) then (v_script.length : Int) else (2 : Int)) > (1 : Int) then (if (v_script.length : Int) < (2 : Int) then (v_script.length : Int) else (2 : Int)) else (1 : Int))).bind fun rg_1 => ((foldR (fun (s_2 : Unit) at_3 => ((T__law_bag v_script at_3).bind fun r_4 => ((foldR (fun (s_5 : ((List Int))) turn_6 => ((T__law_right s_5 (7 : Int)).bind fun r_7 => ((if (!r_7.1) then (some (true, r_7.2)) else ((T__law_right r_7.2 (9 : Int)).bind fun r_8 => (some ((!r_8.1), r_8.2)))).bind fun b_9 => (if b_9.1 then (some (.out (.out false))) else (some (.go b_9.2)))))) (rgF 0 (3 : Int)) r_4).bind (stepK fun s_5 => (some (.go ())))))) rg_1 ()).bind (stepK fun s_2 => ((T_sure_pairs (4 : Int) ((2 : Int) :: ((0 : Int) :: ((1 : Int) :: [(3 : Int)]))) (0 : Int)).bind fun r_10 => ((T_sure_pairs (1 : Int) [(0 : Int)] (0 : Int)).bind fun r_11 => ((T_is_axis (1 : Int) ((mT mI) [(0 : Int)])).bind fun r_12 => ((T_is_axis (1 : Int) ((mT mB) [false])).bind fun r_13 => ((T_is_axis (1 : Int) ((mT mI) ([] : List Int))).bind fun r_14 => ((T_is_peaked (1 : Int) [(0 : Int)] [(0 : Int)]).bind fun r_15 => ((samQ (mL mD) (((mT (mP mI mI)) r_10) :: (((mT (mP mI mI)) r_11) :: ((mB r_12) :: ((mB r_13) :: ((mB r_14) :: [(mB r_15)]))))) (((mP4 (mP mI mI) (mP mI mI) (mP mI mI) (mP mI mI)) (((0 : Int), (1 : Int)), ((0 : Int), (2 : Int)), ((0 : Int), (3 : Int)), ((1 : Int), (3 : Int)))) :: (((mT mI) ([] : List Int)) :: ((mB true) :: ((mB false) :: ((mB false) :: [(mB true)])))))).bind fun same_16 => (some same_16)))))))))))
theorem t_law (v_script : (List Int)) (w : wfs [(mL mI) v_script]) : Oj (fun r => F_law ([(mL mI) v_script].map .im) = some (.im (mB r), []) ∧ wf (mB r)) (T_law v_script) :=
  fd_ok (n := 1) (m := 5) (s := s_law) (fr := fun r => .im (mB r)) (E := fun _ => [.a, .a, .a, .a, .a]) (by unfold T_law; exact
  (go_b (fun rg_1 hrg_1 => (go_forR (E' := fun (s_2 : Unit) => [im ((mL mI) v_script), .i, .a, .i, un]) hrg_1 (.same (wi_u (wa_u (wi_u (.same .nil))))) (fun s_2 at_3 => (tg_set rfl)) (fun s_2 at_3 => (go_b (fun r_4 hr_4 => (go_own (xs := List.map mI r_4) hr_4 rfl (go_last (go_forR (E' := fun (s_5 : ((List Int))) => [im ((mL mI) v_script), im (mI at_3), ow (s_5.map mI), .i, un]) (pi_rng1 (pas_cons (Pe.v (pe_c (d := .int 3) (by exact trivial))) pas_nil) (by decide)) (.same (.same (.same (.same (.same .nil))))) (fun s_5 turn_6 => (tg_set rfl)) (fun s_5 turn_6 => (go_last (go_b (Q := fun (r_7 : (Bool × (List Int))) => Re [im ((mL mI) v_script), im (mI at_3), ow (s_5.map mI), im (mI turn_6), un] _ (mB r_7.1) [im ((mL mI) v_script), im (mI at_3), ow (r_7.2.map mI), im (mI turn_6), un]) (fun r_7 hr_7 => (go_b (Q := fun (b_9 : Bool × ((List Int))) => Rb _ _ _ [im ((mL mI) v_script), im (mI at_3), ow (b_9.2.map mI), im (mI turn_6), un]) (fun b_9 hb_9 => (gr_if hb_9 (fun _ => (go_ret (pe_c (d := .bl false) (by exact trivial)) ⟨⟨rfl, .inl ⟨_, rfl⟩⟩, .inl ⟨_, rfl⟩⟩ (wa_m (wa_m (wa_o (wa_m (wa_u .nil)))))))
  (fun _ => (go_sn (go_nil (.inl rfl) (.same (.same (.same (wi_m (.same .nil))))))))))
  (or_or (bv := fun (b_9 : Bool × ((List Int))) => b_9.1) (E := fun b_9 => [im ((mL mI) v_script), im (mI at_3), ow (b_9.2.map mI), im (mI turn_6), un]) (rb_not (rb_val hr_7 (t_bl _))) (fun _ => (oj_b (P := fun (r_8 : (Bool × (List Int))) => Re [im ((mL mI) v_script), im (mI at_3), ow (r_7.2.map mI), im (mI turn_6), un] _ (mB r_8.1) [im ((mL mI) v_script), im (mI at_3), ow (r_8.2.map mI), im (mI turn_6), un]) (fun r_8 hr_8 => (oj_some (rb_not (rb_val hr_8 (t_bl _))))) (or_userL (em := fun (r : (Bool × (List Int))) => mB r.1) (bv := fun (r : (Bool × (List Int))) => r.2.map mI) .ow rfl (ra_cons (Pe.r (pe_c (d := .int 9) (by exact trivial))) ra_nil) .ow rfl (t__law_right r_7.2 (9 : Int))))) (fun _ => oj_some ⟨rfl, (.same (.same (.same (.same (.same .nil)))))⟩))))
  (or_userL (em := fun (r : (Bool × (List Int))) => mB r.1) (bv := fun (r : (Bool × (List Int))) => r.2.map mI) .ow rfl (ra_cons (Pe.r (pe_c (d := .int 7) (by exact trivial))) ra_nil) .ow rfl (t__law_right s_5 (7 : Int))))))
  (fun s_5 => (go_nil (.inl rfl) (.same (wi_m (wa_o (.same (.same .nil)))))))))))
  (on_user (pai_cons (pe_var rfl) (pai_cons (pe_var rfl) pai_nil)) (t__law_bag v_script at_3))))
  (fun s_2 => (go_b (fun r_10 hr_10 => (go_b (fun r_11 hr_11 => (go_b (fun r_12 hr_12 => (go_b (fun r_13 hr_13 => (go_b (fun r_14 hr_14 => (go_b (fun r_15 hr_15 => (go_set (pe_n (pn_lst (ta_cons (em := mD) (x := ((mT (mP mI mI)) r_10)) hr_10 (ta_cons (em := mD) (x := ((mT (mP mI mI)) r_11)) hr_11 (ta_cons (em := mD) (x := (mB r_12)) hr_12 (ta_cons (em := mD) (x := (mB r_13)) hr_13 (ta_cons (em := mD) (x := (mB r_14)) hr_14 (ta_cons (em := mD) (x := (mB r_15)) hr_15 ta_nil)))))) (show (6 : Nat) ≤ 1000000 by decide))) rfl (go_last (go_b (fun same_16 hsame_16 => (go_ret hsame_16 rfl (wa_m (wa_i (.same (wa_i (wa_m .nil)))))))
  (oe_sam (pas_cons (Pe.v (pe_var rfl)) pas_nil) (pas_cons (Pe.v (pe_n (pn_lst (ta_cons (em := mD) (x := ((mP4 (mP mI mI) (mP mI mI) (mP mI mI) (mP mI mI)) (((0 : Int), (1 : Int)), ((0 : Int), (2 : Int)), ((0 : Int), (3 : Int)), ((1 : Int), (3 : Int))))) (pe_tup (pai_cons (pe_tup (pai_cons (pe_c (d := .int 0) (by exact trivial)) (pai_cons (pe_c (d := .int 1) (by exact trivial)) pai_nil)) (show (2 : Nat) ≤ 1000000 by decide)) (pai_cons (pe_tup (pai_cons (pe_c (d := .int 0) (by exact trivial)) (pai_cons (pe_c (d := .int 2) (by exact trivial)) pai_nil)) (show (2 : Nat) ≤ 1000000 by decide)) (pai_cons (pe_tup (pai_cons (pe_c (d := .int 0) (by exact trivial)) (pai_cons (pe_c (d := .int 3) (by exact trivial)) pai_nil)) (show (2 : Nat) ≤ 1000000 by decide)) (pai_cons (pe_tup (pai_cons (pe_c (d := .int 1) (by exact trivial)) (pai_cons (pe_c (d := .int 3) (by exact trivial)) pai_nil)) (show (2 : Nat) ≤ 1000000 by decide)) pai_nil)))) (show (4 : Nat) ≤ 1000000 by decide)) (ta_cons (em := mD) (x := ((mT mI) ([] : List Int))) (pe_tup ta_nil (show (0 : Nat) ≤ 1000000 by decide)) (ta_cons (em := mD) (x := (mB true)) (pe_c (d := .bl true) (by exact trivial)) (ta_cons (em := mD) (x := (mB false)) (pe_c (d := .bl false) (by exact trivial)) (ta_cons (em := mD) (x := (mB false)) (pe_c (d := .bl false) (by exact trivial)) (ta_cons (em := mD) (x := (mB true)) (pe_c (d := .bl true) (by exact trivial)) ta_nil)))))) (show (6 : Nat) ≤ 1000000 by decide)))) pas_nil))))))
  (oj_user (pai_cons (pe_c (d := .int 1) (by exact trivial)) (pai_cons (pe_tup (ta_cons (pe_c (d := .int 0) (by exact trivial)) ta_nil) (show (1 : Nat) ≤ 1000000 by decide)) (pai_cons (pe_tup (ta_cons (pe_c (d := .int 0) (by exact trivial)) ta_nil) (show (1 : Nat) ≤ 1000000 by decide)) pai_nil))) (t_is_peaked (1 : Int) [(0 : Int)] [(0 : Int)]))))
  (oj_user (pai_cons (pe_c (d := .int 1) (by exact trivial)) (pai_cons (pe_tup ta_nil (show (0 : Nat) ≤ 1000000 by decide)) pai_nil)) (t_is_axis (1 : Int) ((mT mI) ([] : List Int))))))
  (oj_user (pai_cons (pe_c (d := .int 1) (by exact trivial)) (pai_cons (pe_tup (ta_cons (pe_c (d := .bl false) (by exact trivial)) ta_nil) (show (1 : Nat) ≤ 1000000 by decide)) pai_nil)) (t_is_axis (1 : Int) ((mT mB) [false])))))
  (oj_user (pai_cons (pe_c (d := .int 1) (by exact trivial)) (pai_cons (pe_tup (ta_cons (pe_c (d := .int 0) (by exact trivial)) ta_nil) (show (1 : Nat) ≤ 1000000 by decide)) pai_nil)) (t_is_axis (1 : Int) ((mT mI) [(0 : Int)])))))
  (oj_user (pai_cons (pe_c (d := .int 1) (by exact trivial)) (pai_cons (pe_tup (ta_cons (pe_c (d := .int 0) (by exact trivial)) ta_nil) (show (1 : Nat) ≤ 1000000 by decide)) (pai_cons (pe_c (d := .int 0) (by exact trivial)) pai_nil))) (t_sure_pairs (1 : Int) [(0 : Int)] (0 : Int)))))
  (oj_user (pai_cons (pe_c (d := .int 4) (by exact trivial)) (pai_cons (pe_tup (ta_cons (pe_c (d := .int 2) (by exact trivial)) (ta_cons (pe_c (d := .int 0) (by exact trivial)) (ta_cons (pe_c (d := .int 1) (by exact trivial)) (ta_cons (pe_c (d := .int 3) (by exact trivial)) ta_nil)))) (show (4 : Nat) ≤ 1000000 by decide)) (pai_cons (pe_c (d := .int 0) (by exact trivial)) pai_nil))) (t_sure_pairs (4 : Int) ((2 : Int) :: ((0 : Int) :: ((1 : Int) :: [(3 : Int)]))) (0 : Int)))))))
  (oi_rng1 (pas_cons (Pe.v (pe_call (pas_cons (Pe.v (pe_c (d := .int 1) (by exact trivial))) (pas_cons (Pe.v (pe_call (pas_cons (Pe.v (pe_c (d := .int 2) (by exact trivial))) (pas_cons (Pe.v (pe_call (pas_cons (Pe.v (pe_var rfl)) pas_nil) (g_lenL _) trivial)) pas_nil)) (g_min2 _ _) trivial)) pas_nil)) (g_max2 _ _) trivial)) pas_nil)))) rfl (wf_svs w)
end K10
namespace K10
open PySem Dv Tv
def OkB (b : List Int) : Prop := ∃ g h c, b = [g, h, c]
theorem mul_lt {x y : Int} (h0 : 0 ≤ x) (h1 : x < 2305843009213693951) : mulQ x y = some (x * y) := by
  refine mulQ_ok ?_
  unfold cMul
  rw [decide_eq_true (show x.natAbs < 2 ^ 64 by omega)]
  rfl
theorem draw_ok : DrawOk T__law_draw OkB := by
  rintro b n ⟨g, h, c, rfl⟩ h0 h1
  unfold T__law_draw
  have i0 : ∀ a b c : Int, ixQ [a, b, c] 0 = some a := fun _ _ _ => rfl
  have i1 : ∀ a b c : Int, ixQ [a, b, c] 1 = some b := fun _ _ _ => rfl
  have i2 : ∀ a b c : Int, ixQ [a, b, c] 2 = some c := fun _ _ _ => rfl
  have s0 : ∀ a b c x : Int, setQ [a, b, c] 0 x = some [x, b, c] := fun _ _ _ _ => rfl
  have s2 : ∀ a b c x : Int, setQ [a, b, c] 2 x = some [a, b, x] := fun _ _ _ _ => rfl
  by_cases hg : 0 < g
  · simp only [i0, Option.bind_some, hg, decide_true, if_true, modQ_pos h0, divQ_pos h0 h1, s0]
    exact ⟨_, _, rfl, Int.emod_nonneg _ (by omega), Int.emod_lt_of_pos _ h0, _, _, _, rfl⟩
  · simp only [i0, i1, i2, s2, Option.bind_some, hg, decide_false, Bool.false_eq_true, if_false]
    have y0 := Int.emod_nonneg (h + (86028121 : Int) * (c + 1)) (show (2305843009213693951 : Int) ≠ 0 by decide)
    have y1 := Int.emod_lt_of_pos (h + (86028121 : Int) * (c + 1)) (show (0 : Int) < 2305843009213693951 by decide)
    generalize (h + (86028121 : Int) * (c + 1)) % (2305843009213693951 : Int) = y at y0 y1
    rw [mul_lt y0 y1, Option.bind_some]
    simp only [modQ_pos h0, Option.bind_some]
    exact ⟨_, _, rfl, Int.emod_nonneg _ (by omega), Int.emod_lt_of_pos _ h0, _, _, _, rfl⟩
theorem bag_ok (sc : List Int) (at_ : Int) (h0 : 0 ≤ at_) : ∃ b, T__law_bag sc at_ = some b ∧ OkB b := by
  unfold T__law_bag
  have hm : mulQ c_big2 c_big3 = some (c_big2 * c_big3) := mulQ_ok (by decide +kernel)
  have hp : (0 : Int) < c_big2 * c_big3 := by decide +kernel
  generalize c_big2 * c_big3 = G at hm hp
  generalize c_big1 = B
  have hc : ∃ c, (if (decide (at_ < (sc.length : Int))) = true then ((ixQ sc at_).bind fun at_1 => some at_1) else some ((149 : Int) * at_ + (83 : Int))) = some c := by
    by_cases h : at_ < (sc.length : Int)
    · obtain ⟨x, e, _⟩ := atI_ok h0 h
      exact ⟨x, by simp [h, e]⟩
    · exact ⟨149 * at_ + 83, by simp [h]⟩
  obtain ⟨c, hc⟩ := hc
  simp only [hc, Option.bind_some, hm, modQ_pos hp]
  exact ⟨_, rfl, _, _, _, rfl⟩
theorem swap_bal {n : Int} {l : List Int} (hb : Bal n l) {i j : Nat} {x y : Int} (hi : l[i]? = some x) (hj : l[j]? = some y) : Bal n ((l.set i y).set j x) := by
  have il := (List.getElem?_eq_some_iff.mp hi).1
  have jl := (List.getElem?_eq_some_iff.mp hj).1
  refine Bal.of_all (fun z z0 z1 => ?_) (by rw [List.length_set, List.length_set]; exact hb.len)
  obtain ⟨k, hk⟩ := List.mem_iff_getElem?.mp (hb.mem.mpr ⟨z0, z1⟩)
  by_cases h1 : k = j
  · subst h1
    rw [hj] at hk
    cases hk
    by_cases h2 : i = k
    · subst h2
      rw [hi] at hj
      cases hj
      exact List.mem_of_getElem? (i := i) (by rw [List.getElem?_set_self (by rw [List.length_set]; exact il)])
    · exact List.mem_of_getElem? (i := i) (by rw [List.getElem?_set_ne (fun e => h2 e.symm), List.getElem?_set_self il])
  · by_cases h2 : k = i
    · subst h2
      rw [hi] at hk
      cases hk
      exact List.mem_of_getElem? (i := j) (by rw [List.getElem?_set_self (by rw [List.length_set]; exact jl)])
    · exact List.mem_of_getElem? (i := k) (by rw [List.getElem?_set_ne (fun e => h1 e.symm), List.getElem?_set_ne (fun e => h2 e.symm)]; exact hk)
theorem mixed_ok {n : Int} {b : List Int} (h0 : 0 ≤ n) (h9 : n ≤ 9) (hb : OkB b) : ∃ ys b', T__law_mixed b (rgF 0 n) = some (ys, b') ∧ Bal n ys ∧ OkB b' := by
  have hl : (rgF 0 n).length = n.toNat := by rw [rgF_len]; omega
  have e1 : dnQ (((rgF 0 n).length : Int) - 1) 0 = some (dnF (((rgF 0 n).length : Int) - 1) 0) := dnQ_ok (by omega) (by omega) (by decide) (by decide)
  obtain ⟨⟨ys, b'⟩, e2, h1, h2⟩ := foldQ_inv (f := fun (s_2 : ((List Int) × (List Int))) at_3 => ((T__law_draw s_2.2 (at_3 + (1 : Int))).bind fun r_4 => ((T__law_mixed_t1 s_2.1 at_3 r_4.1).map (fun (u : ((List Int))) => (u, r_4.2))))) (Inv := fun s => Bal n s.1 ∧ OkB s.2) (dnF (((rgF 0 n).length : Int) - 1) 0) (rgF 0 n, b) (fun at_ ha s hs => by
    obtain ⟨a0, a1⟩ := mem_dnF.mp ha
    obtain ⟨o, b2, e, o0, o1, hb2⟩ := draw_ok s.2 (at_ + 1) hs.2 (by omega) (by omega)
    have hsl := hs.1.len
    obtain ⟨x, ex, _, gx⟩ := atI_ok (xs := s.1) (i := o) o0 (by omega)
    obtain ⟨y, ey, _, gy⟩ := atI_ok (xs := s.1) (i := at_) (by omega) (by omega)
    have q1 : setQ s.1 at_ x = some (s.1.set at_.toNat x) := by
      unfold setQ L2.ixN
      rw [if_pos (by omega), if_pos (by omega)]; rfl
    have q2 : setQ (s.1.set at_.toNat x) o y = some ((s.1.set at_.toNat x).set o.toNat y) := by
      unfold setQ L2.ixN
      rw [List.length_set, if_pos o0, if_pos (by omega)]; rfl
    refine ⟨((s.1.set at_.toNat x).set o.toNat y, b2), ?_, swap_bal hs.1 gy gx, hb2⟩
    rw [e, Option.bind_some]
    unfold T__law_mixed_t1
    rw [ex, Option.bind_some, ey, Option.bind_some, q1, Option.bind_some, q2]
    rfl) ⟨.refl _, hb⟩
  refine ⟨ys, b', ?_, h1, h2⟩
  unfold T__law_mixed
  rw [e1, Option.bind_some, e2]
  rfl
theorem within {x lo hi : Int} (h1 : lo ≤ x) (h2 : x ≤ hi) (h3 : -10000000 ≤ x) (h4 : x ≤ 10000000) : P_is_within x lo hi = true := by
  unfold P_is_within P_is_whole
  have a : (-c_GREAT) < x := by show -(1000000000000000000000000000000000000000000000000000000000000 : Int) < x; omega
  have b : x < c_GREAT := by show x < (1000000000000000000000000000000000000000000000000000000000000 : Int); omega
  simp only [a, b, h1, h2, decide_true]; rfl
structure Sz (n : Int) : Prop where
  one : 1 ≤ n
  nine : n ≤ 9
section
variable {n : Int} {xs ys zs : List Int} (S : Sz n)
include S
theorem opt_ok {x : Int} (h0 : 0 ≤ x) (h1 : x < n) : P_is_option n x = true := within h0 (by omega) (by have := S.nine; omega) (by have := S.nine; omega)
theorem row_ok (h : Bal n xs) : T_is_row_of n xs = some true := by
  have hl := h.lenI (by have := S.one; omega)
  have ha : ((xs.map fun one_1 => (P_is_option n one_1)).all id) = true := by
    rw [List.all_map, List.all_eq_true]
    exact fun x hx => opt_ok S (h.mem.mp hx).1 (h.mem.mp hx).2
  have e : setIQ xs = some (rgF 0 n) := by rw [setIQ, gate_true (decide_eq_true (by have := S.nine; omega)), h.sortU]
  unfold T_is_row_of
  rw [if_neg (by simp [hl, ha]), e, Option.bind_some, rgF_len]
  rw [decide_eq_true (by have := S.one; omega)]
end
end K10
namespace K10
open PySem Dv Tv
def plc (n : Int) (x : List Int) : List Int := (rgF 0 n).map fun o => ix x o
theorem fold_flat {α β : Type} {f : List β → α → Option (List β)} {G : α → List β} {m : Nat} : ∀ (l : List α) (s : List β), (∀ x ∈ l, (G x).length ≤ m) → (∀ x ∈ l, ∀ s : List β, s.length + m ≤ 1000000 → f s x = some (s ++ G x)) → s.length + m * l.length + m ≤ 1000000 → foldQ f l s = some (s ++ l.flatMap G)
  | [], s, _, _, _ => by simp [foldQ]
  | x :: l, s, hm, h, hl => by
    rw [List.length_cons, Nat.mul_succ] at hl
    have := hm x List.mem_cons_self
    rw [foldQ, h x List.mem_cons_self s (by omega), Option.bind_some, fold_flat l (s ++ G x) (fun y hy => hm y (List.mem_cons_of_mem _ hy)) (fun y hy => h y (List.mem_cons_of_mem _ hy)) (by rw [List.length_append]; omega), List.flatMap_cons, List.append_assoc]
def sureB (p o t : Int) : Bool := ((!decide (o = t)) && (((decide (p ≤ o)) && (decide (o < t))) || (((decide (t < o)) && (decide (o ≤ p))) || (decide (o = p)))))
section
variable {n : Int} {ax u : List Int} (S : Sz n)
include S
theorem places_ok (h : Bal n u) : T__law_places u = some (plc n u) := by
  have hl := h.len
  have hb := bal_places h (by have := S.one; omega)
  have e : repQ [(0 : Int)] (u.length : Int) = some (List.replicate n.toNat 0) := by
    unfold repQ
    rw [gate_true]
    · rw [hl, Int.toNat_natCast]
      congr 1
      induction n.toNat with
      | zero => rfl
      | succ k ih => rw [List.replicate_succ, List.flatten_cons, ih]; rfl
    · unfold rangeOk
      simp only [Bool.and_eq_true, decide_eq_true_eq, List.length_singleton]
      have := S.nine
      omega
  unfold T__law_places
  rw [e, Option.bind_some, hb]
  rfl
theorem pl_ix {x : Int} (h0 : 0 ≤ x) (h1 : x < n) : ixQ (plc n u) x = some (ix u x) := by
  obtain ⟨y, e, _, e2⟩ := atI_ok (xs := plc n u) (i := x) h0 (by unfold plc; rw [List.length_map, rgF_len]; omega)
  rw [e, ← e2]
  unfold plc
  rw [List.getElem?_map, rgF_ix (by omega)]
  show some (ix u (0 + (x.toNat : Int))) = _
  rw [show (0 : Int) + (x.toNat : Int) = x by omega]
theorem axis_ok (ha : Bal n ax) : T_require_axis n ax = some () := by
  unfold T_require_axis T_require_size
  simp only [within S.one S.nine (by have := S.one; omega) (by have := S.nine; omega), Bool.not_true, Bool.false_eq_true, if_false, Option.bind_some, row_ok S ha]
omit S in
theorem ix_later {l rest : List Int} {x o : Int} (hx : x ∉ l) (ho : o ∉ l) (ne : o ≠ x) : ix (l ++ [x] ++ rest) x < ix (l ++ [x] ++ rest) o := by
  have h1 : ix (x :: rest) x = 0 := ix_head
  have h2 : ix (x :: rest) o = ix rest o + 1 := ix_cons ne
  have e1 : ix (l ++ [x] ++ rest) x = ix (x :: rest) x + l.length := by
    rw [List.append_assoc]
    unfold ix
    rw [List.idxOf_append, if_neg hx]
    show (((x :: rest).idxOf x + l.length : Nat) : Int) = _
    omega
  have e2 : ix (l ++ [x] ++ rest) o = ix (x :: rest) o + l.length := by
    rw [List.append_assoc]
    unfold ix
    rw [List.idxOf_append, if_neg ho]
    show (((x :: rest).idxOf o + l.length : Nat) : Int) = _
    omega
  have : 0 ≤ ix rest o := by unfold ix; omega
  omega
omit S in
theorem hd_pre {l : List Int} {o : Int} (rest : List Int) (ho : o ∈ l) : ix (l ++ rest) o = ix l o := ix_app ho
theorem of_peak (ha : Bal n ax) : ∀ (fuel k lo m : Nat) (found : List Int), k + (m + 1) = ax.length → k < fuel → lo + (m + 1) ≤ ax.length → Pk (seg ax lo (m + 1)) found →
    ∃ L, T__law_of_peak fuel ax (lo : Int) ((lo + m : Nat) : Int) found = some L ∧ L ≠ [] ∧ L.length ≤ 2 ^ k ∧ (∀ r ∈ L, Pk ax r ∧ ∃ rest, r = found ++ rest) ∧ (∀ o t, o ∈ ax → t ∈ ax → ix ax o < lo → (lo : Int) + m < ix ax t → ∃ r ∈ L, ix r t < ix r o) ∧ (∀ o t, o ∈ ax → t ∈ ax → ix ax t < lo → (lo : Int) + m < ix ax o → ∃ r ∈ L, ix r t < ix r o)
  | 0, k, _, _, _, _, h, _, _ => absurd h (Nat.not_lt_zero _)
  | fuel + 1, 0, lo, m, found, hk, _, hlo, hp => by
    obtain rfl : lo = 0 := by omega
    refine ⟨[found], ?_, by simp, by simp, fun r hr => ?_, fun o t ho _ h1 _ => ?_, fun o t _ ht h1 _ => ?_⟩
    · rw [T__law_of_peak, if_pos]
      rw [Bool.and_eq_true, decide_eq_true_eq, decide_eq_true_eq]
      omega
    · rw [List.mem_singleton] at hr
      subst hr
      rw [show m + 1 = ax.length by omega, seg_all] at hp
      exact ⟨hp, [], by simp⟩
    · have : 0 ≤ ix ax o := by unfold ix; omega
      omega
    · have : 0 ≤ ix ax t := by unfold ix; omega
      omega
  | fuel + 1, k + 1, lo, m, found, hk, hf, hlo, hp => by
    have n9 := S.nine
    have hal := ha.len
    have nd := ha.nodup
    have hfl := hp.perm.length_eq
    rw [seg_len hlo] at hfl
    have hc : ∀ x : Int, catQ found [x] = some (found ++ [x]) := fun x => catQ_ok (by rw [List.length_singleton]; omega)
    have hnot : ¬ ((decide ((lo : Int) = 0)) && (decide (((lo + m : Nat) : Int) = (ax.length : Int) - 1))) = true := by
      rw [Bool.and_eq_true, decide_eq_true_eq, decide_eq_true_eq]
      omega
    have nmem : ∀ {o : Int}, o ∈ ax → (ix ax o < lo ∨ (lo : Int) + m < ix ax o) → o ∉ found := fun {o} ho h hm => by
      have := mem_seg nd (hp.perm.mem_iff.mp hm)
      omega
    have later : ∀ {r rest : List Int} {x o : Int}, r = found ++ [x] ++ rest → x ∉ found → o ∉ found → o ≠ x → ix r x < ix r o := fun {r rest x o} e hx ho ne => by
      rw [e]; exact ix_later hx ho ne
    have h29 : 2 ^ k ≤ 2 ^ 9 := Nat.pow_le_pow_right (by decide) (by omega)
    have h512 : (2 : Nat) ^ 9 = 512 := by decide
    have left : 0 < (lo : Int) → ∃ L, T__law_of_peak fuel ax ((lo : Int) - 1) ((lo + m : Nat) : Int) (found ++ [nt ax ((lo : Int) - 1)]) = some L ∧ L ≠ [] ∧ L.length ≤ 2 ^ k ∧ (∀ r ∈ L, Pk ax r ∧ ∃ rest, r = found ++ [nt ax ((lo : Int) - 1)] ++ rest) ∧ (∀ o t, o ∈ ax → t ∈ ax → ix ax t < (lo : Int) - 1 → (lo : Int) + m < ix ax o → ∃ r ∈ L, ix r t < ix r o) := fun h0 => by
      obtain ⟨l', rfl⟩ : ∃ l', lo = l' + 1 := ⟨lo - 1, by omega⟩
      have hp2 : Pk (seg ax l' (m + 1 + 1)) (found ++ [nt ax (((l' + 1 : Nat) : Int) - 1)]) := by
        rw [seg_low (by omega), show ((l' + 1 : Nat) : Int) - 1 = (l' : Int) by omega]
        exact .low hp
      obtain ⟨L, e, a1, a2, a3, _, a5⟩ := of_peak ha fuel k l' (m + 1) _ (by omega) (by omega) (by omega) hp2
      refine ⟨L, ?_, a1, a2, a3, fun o t ho ht h1 h2 => a5 o t ho ht (by omega) (by omega)⟩
      rw [show ((l' + 1 : Nat) : Int) - 1 = (l' : Int) by omega] at e ⊢
      rw [show l' + 1 + m = l' + (m + 1) by omega]
      exact e
    have right : ((lo + m : Nat) : Int) < (ax.length : Int) - 1 → ∃ L, T__law_of_peak fuel ax (lo : Int) (((lo + m : Nat) : Int) + 1) (found ++ [nt ax (((lo + m : Nat) : Int) + 1)]) = some L ∧ L ≠ [] ∧ L.length ≤ 2 ^ k ∧ (∀ r ∈ L, Pk ax r ∧ ∃ rest, r = found ++ [nt ax (((lo + m : Nat) : Int) + 1)] ++ rest) ∧ (∀ o t, o ∈ ax → t ∈ ax → ix ax o < lo → (lo : Int) + m + 1 < ix ax t → ∃ r ∈ L, ix r t < ix r o) := fun h0 => by
      have hp2 : Pk (seg ax lo (m + 1 + 1)) (found ++ [nt ax (((lo + m : Nat) : Int) + 1)]) := by
        rw [seg_high (by omega), show ((lo + (m + 1) : Nat) : Int) = ((lo + m : Nat) : Int) + 1 by omega]
        exact .high hp
      obtain ⟨L, e, a1, a2, a3, a4, _⟩ := of_peak ha fuel k lo (m + 1) _ (by omega) (by omega) (by omega) hp2
      refine ⟨L, ?_, a1, a2, a3, fun o t ho ht h1 h2 => a4 o t ho ht (by omega) (by omega)⟩
      rw [show ((lo + m : Nat) : Int) + 1 = ((lo + (m + 1) : Nat) : Int) by omega] at e ⊢
      exact e
    have hbl : ∃ L1, (if (decide ((0 : Int) < (lo : Int))) then ((ixQ ax ((lo : Int) - (1 : Int))).bind fun at_1 => ((catQ found [at_1]).bind fun cat_2 => ((T__law_of_peak fuel ax ((lo : Int) - (1 : Int)) ((lo + m : Nat) : Int) cat_2).bind fun r_3 => (some r_3)))) else (some ([] : List (List Int)))) = some L1 ∧ L1.length ≤ 2 ^ k ∧ (0 < (lo : Int) → L1 ≠ []) ∧ (∀ r ∈ L1, 0 < (lo : Int) ∧ Pk ax r ∧ ∃ rest, r = found ++ [nt ax ((lo : Int) - 1)] ++ rest) ∧ (∀ o t, o ∈ ax → t ∈ ax → ix ax t < lo → (lo : Int) + m < ix ax o → ∃ r ∈ L1, ix r t < ix r o) := by
      by_cases h0 : 0 < (lo : Int)
      · obtain ⟨L, e, a1, a2, a3, a4⟩ := left h0
        refine ⟨L, by rw [if_pos (decide_eq_true h0), (nt_ok (ax := ax) (j := (lo : Int) - 1) (by omega) (by omega)).1, Option.bind_some, hc, Option.bind_some, e]; rfl, a2, fun _ => a1, fun r hr => ⟨h0, a3 r hr⟩, fun o t ho ht h1 h2 => ?_⟩
        by_cases he : ix ax t = (lo : Int) - 1
        · obtain ⟨r, hr⟩ := List.exists_mem_of_ne_nil L a1
          obtain ⟨_, rest, er⟩ := a3 r hr
          have et : t = nt ax ((lo : Int) - 1) := idx_inj ht (nt_ok (by omega) (by omega)).2.1 (by have := nt_ix nd (j := (lo : Int) - 1) (by omega) (by omega); unfold ix at *; omega)
          refine ⟨r, hr, ?_⟩
          rw [et]
          exact later er (by rw [← et]; exact nmem ht (.inl h1)) (nmem ho (.inr h2)) (fun e => by rw [e, ← et] at h2; omega)
        · exact a4 o t ho ht (by omega) h2
      · refine ⟨[], by rw [if_neg (by simpa using h0)], by simp, fun h => absurd h h0, (fun r hr => nomatch hr), fun o t _ ht h1 _ => ?_⟩
        have : 0 ≤ ix ax t := by unfold ix; omega
        omega
    have hbr : ∃ L2, (if (decide (((lo + m : Nat) : Int) < ((ax.length : Int) - (1 : Int)))) then ((ixQ ax (((lo + m : Nat) : Int) + (1 : Int))).bind fun at_5 => ((catQ found [at_5]).bind fun cat_6 => ((T__law_of_peak fuel ax (lo : Int) (((lo + m : Nat) : Int) + (1 : Int)) cat_6).bind fun r_7 => (some r_7)))) else (some ([] : List (List Int)))) = some L2 ∧ L2.length ≤ 2 ^ k ∧ (((lo + m : Nat) : Int) < (ax.length : Int) - 1 → L2 ≠ []) ∧ (∀ r ∈ L2, Pk ax r ∧ ∃ rest, r = found ++ [nt ax (((lo + m : Nat) : Int) + 1)] ++ rest) ∧ (∀ o t, o ∈ ax → t ∈ ax → ix ax o < lo → (lo : Int) + m < ix ax t → ∃ r ∈ L2, ix r t < ix r o) := by
      by_cases h0 : ((lo + m : Nat) : Int) < (ax.length : Int) - 1
      · obtain ⟨L, e, a1, a2, a3, a4⟩ := right h0
        refine ⟨L, by rw [if_pos (decide_eq_true h0), (nt_ok (ax := ax) (j := ((lo + m : Nat) : Int) + 1) (by omega) (by omega)).1, Option.bind_some, hc, Option.bind_some, e]; rfl, a2, fun _ => a1, a3, fun o t ho ht h1 h2 => ?_⟩
        by_cases he : ix ax t = ((lo + m : Nat) : Int) + 1
        · obtain ⟨r, hr⟩ := List.exists_mem_of_ne_nil L a1
          obtain ⟨_, rest, er⟩ := a3 r hr
          have et : t = nt ax (((lo + m : Nat) : Int) + 1) := idx_inj ht (nt_ok (by omega) (by omega)).2.1 (by have := nt_ix nd (j := ((lo + m : Nat) : Int) + 1) (by omega) (by omega); unfold ix at *; omega)
          refine ⟨r, hr, ?_⟩
          rw [et]
          exact later er (by rw [← et]; exact nmem ht (.inr h2)) (nmem ho (.inl h1)) (fun e => by rw [e, ← et] at h1; omega)
        · exact a4 o t ho ht h1 (by omega)
      · refine ⟨[], by rw [if_neg (by simpa using h0)], by simp, fun h => absurd h h0, (fun r hr => nomatch hr), fun o t _ ht _ h2 => ?_⟩
        have := ix_lt ht
        omega
    clear left right
    obtain ⟨L1, g1, g2, g3, g4, g5⟩ := hbl
    obtain ⟨L2, f1, f2, f3, f4, f5⟩ := hbr
    refine ⟨L1 ++ L2, ?_, ?_, by rw [List.length_append, Nat.pow_succ]; omega, fun r hr => ?_, fun o t ho ht h1 h2 => ?_, fun o t ho ht h1 h2 => ?_⟩
    · rw [T__law_of_peak, if_neg hnot, g1, Option.bind_some, f1, Option.bind_some, catQ_ok (by omega)]
      rfl
    · intro e
      obtain ⟨e1, e2⟩ := List.append_eq_nil_iff.mp e
      by_cases h0 : 0 < (lo : Int)
      · exact g3 h0 e1
      · exact f3 (by omega) e2
    · rcases List.mem_append.mp hr with hr | hr
      · obtain ⟨_, h1, rest, e⟩ := g4 r hr
        exact ⟨h1, _, by rw [e, List.append_assoc]⟩
      · obtain ⟨h1, rest, e⟩ := f4 r hr
        exact ⟨h1, _, by rw [e, List.append_assoc]⟩
    · obtain ⟨r, hr, h⟩ := f5 o t ho ht h1 h2
      exact ⟨r, List.mem_append_right _ hr, h⟩
    · obtain ⟨r, hr, h⟩ := g5 o t ho ht h1 h2
      exact ⟨r, List.mem_append_left _ hr, h⟩
end
end K10
namespace K10
open PySem Dv Tv
def gP (n p : Int) (ax : List Int) (o : Int) : List (Int × Int) := ((rgF 0 n).filter fun t => sureB p (ix ax o) (ix ax t)).map fun t => (o, t)
def due (n p : Int) (ax : List Int) : List (Int × Int) := (rgF 0 n).flatMap (gP n p ax)
section
variable {n : Int} {ax u : List Int} (S : Sz n)
include S
theorem sure_iff (ha : Bal n ax) {peak : Int} (hp : peak ∈ ax) {L : List (List Int)} (hne : L ≠ []) (h3 : ∀ r ∈ L, Pk ax r ∧ ∃ rest, r = [peak] ++ rest) (h4 : ∀ o t, o ∈ ax → t ∈ ax → ix ax o < ix ax peak → ix ax peak < ix ax t → ∃ r ∈ L, ix r t < ix r o) (h5 : ∀ o t, o ∈ ax → t ∈ ax → ix ax t < ix ax peak → ix ax peak < ix ax o → ∃ r ∈ L, ix r t < ix r o) {o t : Int} (ho : o ∈ ax) (ht : t ∈ ax) :
    (o ≠ t ∧ ∀ r ∈ L, ¬ ix r t < ix r o) ↔ sureB (ix ax peak) (ix ax o) (ix ax t) = true := by
  have ix0 : ∀ r ∈ L, ix r peak = 0 := fun r hr => by
    obtain ⟨_, rest, e⟩ := h3 r hr
    rw [e]; exact ix_head
  have hd : ∀ r ∈ L, NoDent ax r := fun r hr => (h3 r hr).1.noDent ha.nodup
  have pos : ∀ (r : List Int) (x : Int), 0 ≤ ix r x := fun r x => by unfold ix; omega
  have inr : ∀ r ∈ L, ∀ {x : Int}, x ∈ ax → x ∈ r := fun r hr {x} hx => (h3 r hr).1.perm.mem_iff.mpr hx
  have hs : sureB (ix ax peak) (ix ax o) (ix ax t) = true ↔ ix ax o ≠ ix ax t ∧ ((ix ax peak ≤ ix ax o ∧ ix ax o < ix ax t) ∨ (ix ax t < ix ax o ∧ ix ax o ≤ ix ax peak) ∨ ix ax o = ix ax peak) := by
    unfold sureB
    simp only [Bool.and_eq_true, Bool.or_eq_true, Bool.not_eq_true', decide_eq_true_eq, decide_eq_false_iff_not]
  rw [hs]
  constructor
  · rintro ⟨ne, hall⟩
    have nI := ix_ne ho ht ne
    refine ⟨nI, Classical.byContradiction fun hn => ?_⟩
    have hex : ∃ r ∈ L, ix r t < ix r o := by
      obtain ⟨r0, hr0⟩ := List.exists_mem_of_ne_nil L hne
      rcases Int.lt_trichotomy (ix ax o) (ix ax peak) with g | g | g
      · by_cases g2 : ix ax peak < ix ax t
        · exact h4 o t ho ht g g2
        · refine ⟨r0, hr0, ?_⟩
          have nr := ix_ne (inr r0 hr0 ho) (inr r0 hr0 ht) ne
          by_cases g3 : ix ax t = ix ax peak
          · have e : t = peak := idx_inj ht hp (by unfold ix at g3; omega)
            subst e
            have := ix0 r0 hr0
            have := pos r0 o
            omega
          · have q := hd r0 hr0 o t peak ho ht hp (by omega) (by omega)
            rw [ix0 r0 hr0] at q
            have := pos r0 t
            omega
      · exact absurd (.inr (.inr g)) hn
      · by_cases g2 : ix ax t < ix ax peak
        · exact h5 o t ho ht g2 g
        · refine ⟨r0, hr0, ?_⟩
          have nr := ix_ne (inr r0 hr0 ho) (inr r0 hr0 ht) ne
          by_cases g3 : ix ax t = ix ax peak
          · have e : t = peak := idx_inj ht hp (by unfold ix at g3; omega)
            subst e
            have := ix0 r0 hr0
            have := pos r0 o
            omega
          · have q := hd r0 hr0 peak t o hp ht ho (by omega) (by omega)
            rw [ix0 r0 hr0] at q
            have := pos r0 t
            omega
    obtain ⟨r, hr, h⟩ := hex
    exact hall r hr h
  · rintro ⟨nI, hcase⟩
    refine ⟨fun e => nI (by rw [e]), fun r hr => ?_⟩
    have p0 := pos r o
    have pt := pos r t
    have h0 := ix0 r hr
    rcases hcase with ⟨a, b⟩ | ⟨a, b⟩ | a
    · by_cases g : ix ax peak = ix ax o
      · have e : peak = o := idx_inj hp ho (by unfold ix at g; omega)
        rw [e] at h0
        omega
      · have q := hd r hr peak o t hp ho ht (by omega) b
        omega
    · by_cases g : ix ax peak = ix ax o
      · have e : peak = o := idx_inj hp ho (by unfold ix at g; omega)
        rw [e] at h0
        omega
      · have q := hd r hr t o peak ht ho hp a (by omega)
        omega
    · have e : o = peak := idx_inj ho hp (by unfold ix at a; omega)
      rw [e]
      omega
omit S in
theorem gP_len (n0 : 0 ≤ n) (p : Int) (o : Int) : (gP n p ax o).length ≤ n.toNat := by
  unfold gP
  rw [List.length_map]
  refine Nat.le_trans (List.length_filter_le _ _) ?_
  rw [rgF_len]; omega
theorem sure_ok (ha : Bal n ax) {peak : Int} (h0 : 0 ≤ peak ∧ peak < n) : T_sure_pairs n ax peak = some (due n (ix ax peak) ax) := by
  have n1 := S.one
  have n9 := S.nine
  have er : rngQ 0 n = some (rgF 0 n) := rngQ_ok (by decide) (by decide) (by omega) (by omega) (by omega)
  have hi : ∀ {x : Int}, x ∈ rgF 0 n → idxQ ax x = some (ix ax x) := fun hx => idx_ok (ha.mem.mpr (mem_rgF.mp hx))
  have e := fold_flat (f := fun (s_5 : ((List (Int × Int)))) one_6 => ((rngQ 0 n).bind fun rg_7 => ((lcQ (fun other_8 => ((idxQ ax one_6).bind fun ix_9 => ((idxQ ax other_8).bind fun ix_10 => (some (P_is_sure_in ax (ix ax peak) ix_9 ix_10))))) (fun other_8 => (some other_8)) rg_7).bind fun lc_11 => ((catQ s_5 (lc_11.map fun other_12 => (one_6, other_12))).bind fun found_13 => (some found_13))))) (G := gP n (ix ax peak) ax) (m := n.toNat) (rgF 0 n) [] (fun o _ => gP_len (by omega) _ _) (fun o ho s hs => by
    have e2 := lcQ_some (p := fun other_8 => ((idxQ ax o).bind fun ix_9 => ((idxQ ax other_8).bind fun ix_10 => (some (P_is_sure_in ax (ix ax peak) ix_9 ix_10))))) (h := fun (other_8 : Int) => (some other_8)) (fun t => sureB (ix ax peak) (ix ax o) (ix ax t)) (fun t => t) (rgF 0 n) (fun t ht => by rw [hi ho, Option.bind_some, hi ht]; rfl) (fun _ _ _ => rfl)
    have hlen := gP_len (ax := ax) (n := n) (by omega) (ix ax peak) o
    have hcat : catQ s (gP n (ix ax peak) ax o) = some (s ++ gP n (ix ax peak) ax o) := catQ_ok (by omega)
    rw [List.map_id'] at e2
    rw [er, Option.bind_some, e2, Option.bind_some]
    show (catQ s (gP n (ix ax peak) ax o)).bind _ = _
    rw [hcat]
    rfl) (by rw [rgF_len]; have h : n.toNat ≤ 9 := by omega
             have h2 : n.toNat * n.toNat ≤ 9 * 9 := Nat.mul_le_mul h h
             simp; omega)
  have eo : T_require_option n peak = some () := by
    unfold T_require_option
    rw [opt_ok S h0.1 h0.2]; rfl
  unfold T_sure_pairs
  rw [axis_ok S ha, Option.bind_some, eo, Option.bind_some, hi (mem_rgF.mpr h0), Option.bind_some]
  have er2 := er
  rw [er] at e
  rw [er2, Option.bind_some, e]
  rfl
theorem due_len : (due n (ix ax u.length) ax).length ≤ 100 := by
  have n1 := S.one
  have n9 := S.nine
  have : ∀ l : List Int, (l.flatMap (gP n (ix ax u.length) ax)).length ≤ 9 * l.length := fun l => by
    induction l with
    | nil => simp
    | cons a l ih =>
      have := gP_len (ax := ax) (n := n) (by omega) (ix ax u.length) a
      rw [List.flatMap_cons, List.length_append, List.length_cons]; omega
  have h := this (rgF 0 n)
  rw [rgF_len] at h
  unfold due
  omega
theorem due_sam (p : Int) : samQ (mT (mP mI mI)) (due n p ax) (due n p ax) = some true := by
  have n1 := S.one
  have n9 := S.nine
  have hlen : ∀ l : List Int, (l.flatMap (gP n p ax)).length ≤ 9 * l.length := fun l => by
    induction l with
    | nil => simp
    | cons a l ih =>
      have := gP_len (ax := ax) (n := n) (by omega) p a
      rw [List.flatMap_cons, List.length_append, List.length_cons]; omega
  have hl := hlen (rgF 0 n)
  rw [rgF_len] at hl
  refine sam_of ?_
  have e : (mT (mP mI mI)) (due n p ax) = (mT (mT mI)) ((due n p ax).map fun q => [q.1, q.2]) := by
    rw [mT, mT, List.map_map]; rfl
  rw [e]
  refine ok_rowsT (fun r hr => ?_) (by rw [List.length_map]; unfold due; omega)
  obtain ⟨q, hq, rfl⟩ := List.mem_map.mp hr
  unfold due at hq
  obtain ⟨o, ho, hq⟩ := List.mem_flatMap.mp hq
  unfold gP at hq
  obtain ⟨t, ht, rfl⟩ := List.mem_map.mp hq
  have h1 := mem_rgF.mp ho
  have h2 := mem_rgF.mp (List.mem_filter.mp ht).1
  refine ⟨by simp, fun x hx => ?_⟩
  simp only [List.mem_cons, List.not_mem_nil, or_false] at hx
  rcases hx with rfl | rfl <;> omega
theorem due_rev (ha : Bal n ax) {peak : Int} (h0 : 0 ≤ peak ∧ peak < n) : due n (ix ax.reverse peak) ax.reverse = due n (ix ax peak) ax := by
  have hr : ∀ {x : Int}, 0 ≤ x ∧ x < n → ix ax.reverse x = (ax.length : Int) - 1 - ix ax x := fun hx => ix_rev ha.nodup (ha.mem.mpr hx)
  unfold due gP
  rw [hr h0]
  rw [List.flatMap_def, List.flatMap_def]
  congr 1
  refine List.map_congr_left fun o ho => ?_
  congr 1
  refine List.filter_congr fun t ht => ?_
  rw [hr (mem_rgF.mp ho), hr (mem_rgF.mp ht)]
  unfold sureB
  rw [Bool.eq_iff_iff]
  simp only [Bool.and_eq_true, Bool.or_eq_true, Bool.not_eq_true', decide_eq_true_eq, decide_eq_false_iff_not]
  omega
theorem lawdue_ok (ha : Bal n ax) {peak : Int} (h0 : 0 ≤ peak ∧ peak < n) {L : List (List Int)} (hne : L ≠ []) (hbL : ∀ r ∈ L, Bal n r) (hs : ∀ {o t : Int}, o ∈ ax → t ∈ ax → ((o ≠ t ∧ ∀ r ∈ L, ¬ ix r t < ix r o) ↔ sureB (ix ax peak) (ix ax o) (ix ax t) = true)) :
    foldQ (fun (s_11 : ((List (Int × Int)))) one_12 => ((rngQ 0 n).bind fun rg_13 => ((lcQ (fun other_14 => ((if (!decide (one_12 = other_14)) then ((lcQ (fun row_15 => ((ixQ row_15 one_12).bind fun at_16 => ((ixQ row_15 other_14).bind fun at_18 => (some (decide (at_18 < at_16)))))) (fun row_15 => (some row_15)) (L.map (plc n))).bind fun lc_19 => (some (decide (lc_19 = ([] : List (List Int)))))) else (some false)).bind fun b_20 => (some b_20))) (fun other_14 => (some (one_12, other_14))) rg_13).bind fun lc_21 => ((catQ s_11 lc_21).bind fun due_22 => (some due_22))))) (rgF 0 n) ([] : List (Int × Int)) = some (due n (ix ax peak) ax) := by
  have n1 := S.one
  have n9 := S.nine
  have er : rngQ 0 n = some (rgF 0 n) := rngQ_ok (by decide) (by decide) (by omega) (by omega) (by omega)
  have e := fold_flat (f := fun (s_11 : ((List (Int × Int)))) one_12 => ((rngQ 0 n).bind fun rg_13 => ((lcQ (fun other_14 => ((if (!decide (one_12 = other_14)) then ((lcQ (fun row_15 => ((ixQ row_15 one_12).bind fun at_16 => ((ixQ row_15 other_14).bind fun at_18 => (some (decide (at_18 < at_16)))))) (fun row_15 => (some row_15)) (L.map (plc n))).bind fun lc_19 => (some (decide (lc_19 = ([] : List (List Int)))))) else (some false)).bind fun b_20 => (some b_20))) (fun other_14 => (some (one_12, other_14))) rg_13).bind fun lc_21 => ((catQ s_11 lc_21).bind fun due_22 => (some due_22))))) (G := gP n (ix ax peak) ax) (m := n.toNat) (rgF 0 n) [] (fun o _ => gP_len (by omega) _ _) (fun o ho s hs' => by
    obtain ⟨o0, o1⟩ := mem_rgF.mp ho
    have e2 := lcQ_some (p := fun other_14 => ((if (!decide (o = other_14)) then ((lcQ (fun row_15 => ((ixQ row_15 o).bind fun at_16 => ((ixQ row_15 other_14).bind fun at_18 => (some (decide (at_18 < at_16)))))) (fun row_15 => (some row_15)) (L.map (plc n))).bind fun lc_19 => (some (decide (lc_19 = ([] : List (List Int)))))) else (some false)).bind fun b_20 => (some b_20))) (h := fun (other_14 : Int) => (some (o, other_14))) (fun t => sureB (ix ax peak) (ix ax o) (ix ax t)) (fun t => (o, t)) (rgF 0 n) (fun t ht => by
      obtain ⟨t0, t1⟩ := mem_rgF.mp ht
      have key := hs (ha.mem.mpr ⟨o0, o1⟩) (ha.mem.mpr ⟨t0, t1⟩)
      by_cases q : o = t
      · rw [if_neg (by simpa using q), Option.bind_some]
        congr 1
        rw [eq_comm, Bool.eq_false_iff]
        intro h
        exact (key.mpr h).1 q
      · have e3 := lcQ_some (p := fun row_15 => ((ixQ row_15 o).bind fun at_16 => ((ixQ row_15 t).bind fun at_18 => (some (decide (at_18 < at_16)))))) (h := fun (row_15 : List Int) => (some row_15)) (fun r => decide (((ixQ r t).getD 0) < ((ixQ r o).getD 0))) (fun r => r) (L.map (plc n)) (fun r hr => by
          obtain ⟨r', _, rfl⟩ := List.mem_map.mp hr
          rw [pl_ix S o0 o1, pl_ix S t0 t1]; rfl) (fun _ _ _ => rfl)
        rw [List.map_id'] at e3
        rw [if_pos (by simpa using q), e3, Option.bind_some, Option.bind_some]
        congr 1
        rw [Bool.eq_iff_iff, decide_eq_true_eq, ← key, List.filter_eq_nil_iff]
        constructor
        · intro h
          refine ⟨q, fun r hr hlt => ?_⟩
          have := h (plc n r) (List.mem_map_of_mem hr)
          rw [pl_ix S o0 o1, pl_ix S t0 t1] at this
          exact this (decide_eq_true hlt)
        · rintro ⟨_, h⟩ r hr hlt
          obtain ⟨r', hr', rfl⟩ := List.mem_map.mp hr
          rw [pl_ix S o0 o1, pl_ix S t0 t1] at hlt
          exact h r' hr' (of_decide_eq_true hlt)) (fun _ _ _ => rfl)
    have hlen := gP_len (ax := ax) (n := n) (by omega) (ix ax peak) o
    have hcat : catQ s (gP n (ix ax peak) ax o) = some (s ++ gP n (ix ax peak) ax o) := catQ_ok (by omega)
    rw [er, Option.bind_some, e2, Option.bind_some]
    show (catQ s (gP n (ix ax peak) ax o)).bind _ = _
    rw [hcat]
    rfl) (by rw [rgF_len]; have h : n.toNat ≤ 9 := by omega
             have h2 : n.toNat * n.toNat ≤ 9 * 9 := Nat.mul_le_mul h h
             simp; omega)
  rw [e]
  rfl
end
end K10
namespace K10
open PySem Dv Tv
def isO (n : Int) : D → Bool
  | .int x => decide (0 ≤ x) && decide (x ≤ n - 1)
  | _ => false
def Few (d : D) : Prop := (∃ x : Int, d = .int x ∧ x.natAbs < 1000) ∨ ∃ b : Bool, d = .bl b
theorem opt2_ok {n : Int} {d : D} (h : Few d) : T_is_option_2 n d = some (isO n d) := by
  rcases h with ⟨x, rfl, hx⟩ | ⟨b, rfl⟩
  · have a : (-c_GREAT) < x := by show -(1000000000000000000000000000000000000000000000000000000000000 : Int) < x; omega
    have b : x < c_GREAT := by show x < (1000000000000000000000000000000000000000000000000000000000000 : Int); omega
    have e1 : blQ (gLtA (mI (-c_GREAT)) (.int x)) = some (decide (-c_GREAT < x)) := rfl
    have e2 : blQ (gLtA (.int x) (mI c_GREAT)) = some (decide (x < c_GREAT)) := rfl
    have e3 : blQ (gLeA (mI 0) (.int x)) = some (decide (0 ≤ x)) := rfl
    have e4 : blQ (gLeA (.int x) (mI (n - 1))) = some (decide (x ≤ n - 1)) := rfl
    have i1 : isiQ "int" (.int x) = some true := rfl
    have i2 : isiQ "bool" (.int x) = some false := rfl
    unfold T_is_option_2 T_is_within_2 T_is_whole_2
    simp only [i1, i2, Option.bind_some, if_true, Bool.not_false, e1, e2, decide_eq_true a, decide_eq_true b, chQ, e3, e4, isO]
    by_cases q : 0 ≤ x
    · simp [q]
    · simp [q]
  · cases b <;> rfl
theorem deR_map (l : List Int) : deR deI (l.map mI) = some l := by
  induction l with
  | nil => rfl
  | cons x l ih => simp only [List.map_cons, deR, ih]; rfl
section
variable {n : Int} {ds : List D} (S : Sz n)
include S
theorem size_ok : T_require_size n = some () := by
  unfold T_require_size
  rw [within S.one S.nine (by have := S.one; omega) (by have := S.nine; omega)]; rfl
theorem ax_len (h : (ds.length : Int) ≠ n) : T_is_axis n (.tup ds) = some false := by
  have e1 : isiQ "tuple" (.tup ds) = some true := rfl
  have e2 : lenQ (.tup ds) = some (ds.length : Int) := rfl
  unfold T_is_axis T_is_row_of_2
  rw [size_ok S, Option.bind_some, e1, Option.bind_some, if_neg (by decide), e2, Option.bind_some, decide_eq_false h]
  rfl
theorem ax_bad (hl : (ds.length : Int) = n) (h : ∀ d ∈ ds, Few d) (hb : ds.all (isO n) = false) : T_is_axis n (.tup ds) = some false := by
  have e1 : isiQ "tuple" (.tup ds) = some true := rfl
  have e2 : lenQ (.tup ds) = some (ds.length : Int) := rfl
  have e3 : seqQ (.tup ds) = some ds := rfl
  have e4 := lcQ_all (h := fun one_4 => ((T_is_option_2 n one_4).bind fun r_5 => (some r_5))) (isO n) ds (fun d hd => by rw [opt2_ok (h d hd)]; rfl)
  have e5 : ((ds.map (isO n)).all id) = false := by rw [List.all_map]; exact hb
  unfold T_is_axis T_is_row_of_2
  rw [size_ok S, Option.bind_some, e1, Option.bind_some, if_neg (by decide), e2, Option.bind_some, decide_eq_true hl, if_neg (by decide), e3, Option.bind_some, e4, Option.bind_some, e5]
  rfl
theorem ax_good {row : List Int} (hb : Bal n row) : T_is_axis n ((mT mI) row) = some true := by
  have n1 := S.one
  have n9 := S.nine
  have hl := hb.lenI (by omega)
  have e1 : isiQ "tuple" ((mT mI) row) = some true := rfl
  have e2 : lenQ ((mT mI) row) = some (row.length : Int) := by
    show some (((row.map mI).length : Nat) : Int) = _
    rw [List.length_map]
  have e3 : seqQ ((mT mI) row) = some (row.map mI) := rfl
  have hf : ∀ d ∈ row.map mI, Few d := fun d hd => by
    obtain ⟨x, hx, rfl⟩ := List.mem_map.mp hd
    have := hb.mem.mp hx
    exact .inl ⟨x, rfl, by omega⟩
  have e4 := lcQ_all (h := fun one_4 => ((T_is_option_2 n one_4).bind fun r_5 => (some r_5))) (isO n) (row.map mI) (fun d hd => by rw [opt2_ok (hf d hd)]; rfl)
  have e5 : (((row.map mI).map (isO n)).all id) = true := by
    rw [List.all_map, List.all_map, List.all_eq_true]
    intro x hx
    have := hb.mem.mp hx
    show (decide (0 ≤ x) && decide (x ≤ n - 1)) = true
    rw [decide_eq_true this.1, decide_eq_true (by omega)]; rfl
  have e6 : (deT deI) ((mT mI) row) = some row := deR_map row
  have e7 : setIQ row = some (rgF 0 n) := by rw [setIQ, gate_true (decide_eq_true (by omega)), hb.sortU]
  unfold T_is_axis T_is_row_of_2
  rw [size_ok S, Option.bind_some, e1, Option.bind_some, if_neg (by decide), e2, Option.bind_some, decide_eq_true hl, if_neg (by decide), e3, Option.bind_some, e4, Option.bind_some, e5, Option.bind_some, Option.bind_some, if_neg (by decide), e6, Option.bind_some, e7, Option.bind_some, rgF_len, decide_eq_true (by omega)]
  rfl
theorem ax_not {d : D} (h : isiQ "tuple" d = some false) : T_is_axis n d = some false := by
  unfold T_is_axis T_is_row_of_2
  rw [size_ok S, Option.bind_some, h]
  rfl
theorem t1_ok {row : List Int} (hb : Bal n row) : T__law_right_t1 n row = some true := by
  have n1 := S.one
  have n9 := S.nine
  have hl := hb.len
  have k1 : catQ row [(0 : Int)] = some (row ++ [0]) := catQ_ok (by rw [List.length_singleton]; omega)
  have hcl : (cut row (some (1 : Int)) none) = row.drop 1 := cut_drop row (by decide)
  have k2 : catQ [n] (row.drop 1) = some (n :: row.drop 1) := catQ_ok (by rw [List.length_singleton, List.length_drop]; omega)
  unfold T__law_right_t1
  rw [k1, Option.bind_some, hcl, k2, Option.bind_some]
  by_cases h1 : n = 1
  · rw [if_pos (decide_eq_true h1)]; rfl
  · have hd : (row.drop 1).length = n.toNat - 1 := by rw [List.length_drop]; omega
    have v1 := ax_good S hb
    have v2 : T_is_axis n ((mL mI) row) = some false := ax_not S rfl
    have v3 : T_is_axis n ((mT mI) (row.drop 1)) = some false := ax_len S (ds := (row.drop 1).map mI) (by rw [List.length_map]; omega)
    have v4 : T_is_axis n ((mT mI) (row ++ [0])) = some false := ax_len S (ds := (row ++ [0]).map mI) (by rw [List.length_map, List.length_append, List.length_singleton]; omega)
    have v5 : T_is_axis n (mU ()) = some false := ax_not S rfl
    have v6 : T_is_axis n ((mT mI) ([] : List Int)) = some false := ax_len S (ds := []) (by simp; omega)
    have v7 : T_is_axis n ((mT mB) (row.map fun one_32 => (one_32 != 0))) = some false := ax_bad S (ds := (row.map fun one_32 => (one_32 != 0)).map mB) (by rw [List.length_map, List.length_map]; omega) (fun d hd => by
      obtain ⟨x, _, rfl⟩ := List.mem_map.mp hd
      exact .inr ⟨x, rfl⟩) (by
      cases row with
      | nil => simp at hl; omega
      | cons a r => rfl)
    have v8 : T_is_axis n ((mT mI) (n :: row.drop 1)) = some false := ax_bad S (ds := (n :: row.drop 1).map mI) (by rw [List.length_map, List.length_cons, hd]; omega) (fun d hd => by
      obtain ⟨x, hx, rfl⟩ := List.mem_map.mp hd
      refine .inl ⟨x, rfl, ?_⟩
      rcases List.mem_cons.mp hx with rfl | hx
      · omega
      · have := hb.mem.mp (List.mem_of_mem_drop hx); omega) (by
      rw [List.map_cons, List.all_cons]
      have : isO n (mI n) = false := by
        show (decide (0 ≤ n) && decide (n ≤ n - 1)) = false
        rw [decide_eq_false (show ¬ n ≤ n - 1 by omega), Bool.and_false]
      rw [this]; rfl)
    have e := lcQ_all (h := fun value_34 => ((T_is_axis n value_34).bind fun r_35 => (some r_35))) (fun v => (T_is_axis n v).getD false) (((mT mI) row) :: (((mL mI) row) :: (((mT mI) (row.drop 1)) :: (((mT mI) (row ++ [0])) :: ((mU ()) :: (((mT mI) ([] : List Int)) :: (((mT mB) (row.map fun one_32 => (one_32 != 0))) :: [((mT mI) (n :: row.drop 1))]))))))) (fun v hv => by
      simp only [List.mem_cons, List.not_mem_nil, or_false] at hv
      rcases hv with rfl | rfl | rfl | rfl | rfl | rfl | rfl | rfl
      · rw [v1]; rfl
      · rw [v2]; rfl
      · rw [v3]; rfl
      · rw [v4]; rfl
      · rw [v5]; rfl
      · rw [v6]; rfl
      · rw [v7]; rfl
      · rw [v8]; rfl)
    rw [List.map_cons, List.map_cons, List.map_cons, List.map_cons, List.map_cons, List.map_cons, List.map_cons, List.map_cons, List.map_nil, v1, v2, v3, v4, v5, v6, v7, v8] at e
    have e' : lcQ (fun (value_34 : D) => (some true)) (fun value_34 => ((T_is_axis n value_34).bind fun r_35 => (some r_35))) (((mT mI) row) :: (((mL mI) row) :: (((mT mI) (row.drop 1)) :: (((mT mI) (row ++ [0])) :: ((mU ()) :: (((mT mI) ([] : List Int)) :: (((mT mB) (row.map fun one_32 => (one_32 != 0))) :: [((mT mI) (n :: row.drop 1))]))))))) = some [true, false, false, false, false, false, false, false] := e
    have k3 : repQ [false] (7 : Int) = some [false, false, false, false, false, false, false] := rfl
    have k4 : catQ [true] [false, false, false, false, false, false, false] = some [true, false, false, false, false, false, false, false] := catQ_ok (by decide)
    rw [if_neg (by simpa using h1), e', Option.bind_some, k3, Option.bind_some, k4, Option.bind_some, sam_bools _ (by decide)]
    rfl
end
theorem right_ok {b : List Int} {most : Int} (hm : 1 ≤ most ∧ most ≤ 9) (hb : OkB b) : ∃ b', T__law_right b most = some (true, b') ∧ OkB b' := by
  obtain ⟨n0, b1, e1, p0, p1, hb1⟩ := draw_ok b most hb (by omega) (by omega)
  have S : Sz ((1 : Int) + n0) := ⟨by omega, by omega⟩
  generalize hn : (1 : Int) + n0 = n at S
  have n1 := S.one
  have n9 := S.nine
  have er : rngQ 0 n = some (rgF 0 n) := rngQ_ok (by decide) (by decide) (by omega) (by omega) (by omega)
  obtain ⟨ax, b2, e2, ha, hb2⟩ := mixed_ok (n := n) (by omega) n9 hb1
  obtain ⟨pk, b3, e3, k0, k1, hb3⟩ := draw_ok b2 n hb2 (by omega) (by omega)
  have hpa : pk ∈ ax := ha.mem.mpr ⟨k0, k1⟩
  have hal := ha.len
  have e4 : idxQ ax pk = some (ix ax pk) := idx_ok hpa
  have hlt := idx_lt hpa
  have hp1 : Pk (seg ax (ax.idxOf pk) (0 + 1)) [pk] := by
    rw [seg_low (by omega)]
    have : nt ax ((ax.idxOf pk : Nat) : Int) = pk := by unfold nt; rw [Int.toNat_natCast, idx_get hpa]; rfl
    rw [this]
    unfold seg
    rw [List.take_zero]
    exact .low .nil
  obtain ⟨L, e5, l1, l2, l3, l4, l5⟩ := of_peak S ha 12 (ax.length - 1) (ax.idxOf pk) 0 [pk] (by omega) (by omega) (by omega) hp1
  have e5' : T__law_of_peak 12 ax (ix ax pk) (ix ax pk) [pk] = some L := by
    have := e5
    rw [Nat.add_zero] at this
    exact this
  have hbL : ∀ r ∈ L, Bal n r := fun r hr => (l3 r hr).1.perm.trans ha
  have e6 : lcQ (fun (row_7 : List Int) => (some true)) (fun row_7 => ((T__law_places row_7).bind fun r_8 => (some r_8))) L = some (L.map (plc n)) := lcQ_all (plc n) L fun r hr => by rw [places_ok S (hbL r hr)]; rfl
  have hs := fun {o t : Int} (ho : o ∈ ax) (ht : t ∈ ax) => sure_iff S ha hpa l1 l3 (fun o t ho ht h1 h2 => l4 o t ho ht h1 (by unfold ix at h2 ⊢; omega)) (fun o t ho ht h1 h2 => l5 o t ho ht h1 (by unfold ix at h2 ⊢; omega)) ho ht
  have e7 := lawdue_ok S ha ⟨k0, k1⟩ l1 hbL hs
  have e8 := sure_ok S ha ⟨k0, k1⟩
  have e9 : T_turned n ax = some ax.reverse := by unfold T_turned; rw [axis_ok S ha]; rfl
  have e10 := sure_ok S ha.rev ⟨k0, k1⟩
  rw [due_rev S ha ⟨k0, k1⟩] at e10
  have e11 := due_sam (ax := ax) S (ix ax pk)
  obtain ⟨row, b4, e12, hrow, hb4⟩ := mixed_ok (n := n) (by omega) n9 hb3
  refine ⟨b4, ?_, hb4⟩
  unfold T__law_right
  rw [e1, Option.bind_some]
  dsimp only
  rw [hn, er, Option.bind_some, e2, Option.bind_some]
  dsimp only
  rw [e3, Option.bind_some]
  dsimp only
  rw [e4, Option.bind_some, e5', Option.bind_some, e6, Option.bind_some, Option.bind_some]
  rw [er] at e7
  rw [e7, Option.bind_some, e8, Option.bind_some, e11, Option.bind_some, if_neg (by decide), e9, Option.bind_some, e10, Option.bind_some, e11, Option.bind_some, Option.bind_some, if_neg (by decide), Option.bind_some, e12, Option.bind_some]
  dsimp only
  rw [t1_ok S hrow]
  rfl
theorem law_ok (ns : List Int) (hn : ns.length ≤ 63) : T_law ns = some true := by
  obtain ⟨k1, k2⟩ := cells_ok (n := (ns.length : Int)) (c := 2) (by omega) (by decide) (by decide)
  have e0 : rngQ 0 (if (if (ns.length : Int) < (2 : Int) then (ns.length : Int) else (2 : Int)) > (1 : Int) then (if (ns.length : Int) < (2 : Int) then (ns.length : Int) else (2 : Int)) else (1 : Int)) = some _ := rngQ_ok (by decide) (by decide) (by omega) (by omega) (by omega)
  unfold T_law
  rw [e0, Option.bind_some]
  have e1 := foldR_go (R := Bool) (f := fun (s_2 : Unit) at_3 => ((T__law_bag ns at_3).bind fun r_4 => ((foldR (fun (s_5 : ((List Int))) turn_6 => ((T__law_right s_5 (7 : Int)).bind fun r_7 => ((if (!r_7.1) then (some (true, r_7.2)) else ((T__law_right r_7.2 (9 : Int)).bind fun r_8 => (some ((!r_8.1), r_8.2)))).bind fun b_9 => (if b_9.1 then (some (.out (.out false))) else (some (.go b_9.2)))))) (rgF 0 (3 : Int)) r_4).bind (Tv.stepK fun s_5 => (some (.go ())))))) (Inv := fun _ => True) (rgF 0 (if (if (ns.length : Int) < (2 : Int) then (ns.length : Int) else (2 : Int)) > (1 : Int) then (if (ns.length : Int) < (2 : Int) then (ns.length : Int) else (2 : Int)) else (1 : Int))) () (fun a ha s _ => by
    obtain ⟨b, eb, hb⟩ := bag_ok ns a (mem_rgF.mp ha).1
    obtain ⟨b', el, _⟩ := foldR_go (R := Tv.Step Unit Bool) (f := fun (s_5 : ((List Int))) (turn_6 : Int) => ((T__law_right s_5 (7 : Int)).bind fun r_7 => ((if (!r_7.1) then (some (true, r_7.2)) else ((T__law_right r_7.2 (9 : Int)).bind fun r_8 => (some ((!r_8.1), r_8.2)))).bind fun b_9 => (if b_9.1 then (some (.out (.out false))) else (some (.go b_9.2)))))) (Inv := OkB) (rgF 0 (3 : Int)) b (fun x _ s hs => by
      obtain ⟨b1, e1, h1⟩ := right_ok (most := 7) (by decide) hs
      obtain ⟨b2, e2, h2⟩ := right_ok (most := 9) (by decide) h1
      exact ⟨b2, by rw [e1, Option.bind_some, if_neg (by simp), e2]; rfl, h2⟩) hb
    exact ⟨(), by rw [eb, Option.bind_some, el]; rfl, trivial⟩) trivial
  obtain ⟨⟨⟩, e1, _⟩ := e1
  rw [e1, Option.bind_some]
  decide +kernel
theorem fact : ∀ ns : List Int, ns.length ≤ 63 → F_law [.im (.lst (ns.map D.int))] = some (.im (.bl true), []) := fun ns hn =>
  (t_law ns (wfs_cons (wf_lst.mpr ⟨by rw [List.length_map]; omega, wfs_ints ns⟩) wfs_nil) true (law_ok ns hn)).1
end K10
open PySem PySem.W PySem.Calls PyProof.Rows in
theorem PySem.Challenge.cw_oneaxis_k10_whole_sure_pairs_of_peaks_holds : PySem.Challenge.rw_oneaxis_k10_whole_sure_pairs_of_peaks.Holds := by
  w_on; o_law
  refine HandSHeadRun.head_any (r := OpenLaw.row PySem.Challenge.rw_oneaxis_k10_whole_sure_pairs_of_peaks) (q := view (OpenLaw.row PySem.Challenge.rw_oneaxis_k10_whole_sure_pairs_of_peaks).prog [39]) (H := K10.hk) (ob := K10.ob) (M := 12000) (loose := K10.loose) (d := HandSHeadRun.topDef (OpenLaw.row PySem.Challenge.rw_oneaxis_k10_whole_sure_pairs_of_peaks).prog 39) (kwd := []) K10.ob_eq
    (by kernel_rfl) (fun s => by kernel_rfl) K10.run (by kernel_rfl) (by kernel_rfl) (by kernel_rfl) (by rfl) (by first | assumption | decide +kernel) (by decide +kernel) ⟨rfl, rfl, rfl, rfl, rfl, by decide +kernel⟩ ?hw ?hc
  case hw => w_witness2
  case hc =>
    refine Dv.walkG (l := PySem.Challenge.rw_oneaxis_k10_whole_sure_pairs_of_peaks) (n := 63) (k := 15) (x := "script") rfl (by decide) (by kernel_rfl) ⟨rfl, by decide, by decide⟩ ?F
    intro w mg fa h Y G hmg0
    obtain ⟨K, KX, c⟩ := Y
    have hmg : mg ("law" : PySem.Str) = some (.ref fa) := by
      have e : (HandSHeadRun.topDef (OpenLaw.row PySem.Challenge.rw_oneaxis_k10_whole_sure_pairs_of_peaks).prog 39).name = ("law" : PySem.Str) := by kernel_rfl
      rw [← e]
      exact hmg0
    obtain ⟨Z⟩ := K10.facts KX G c
    have ef := hmg.symm.trans Z.g_law
    cases ef
    exact ⟨K, Z.d_law, K10.F_law, KX, fun s u => L2.FunD.bindsA (ps := ["script"]) Z.F_law (fun _ _ _ _ _ _ us hl => match us, hl with | [_], _ => rfl) s [u] rfl, K10.fact, fun base _ _ => K10.ok_law Z⟩
