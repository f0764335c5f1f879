import PyProof.Rows.All
import HandS.ForMost
import HandS.Deep
import HandS.Walk
import HandS.Zip
import HandS.Conv
import HandS.TupAny
import HandS.TupMul
import HandS.IsInst
import HandS.Style
import HandS.Star
import HandS.WideMore
import HandS.Gcd
import HandS.Flow
import KE.SortData
import KE.DatumIndex
import HandS.Dict
import HandS.RaiseMore
import KE.KRevSl
import HandS.NoneIn
import KE.GoesNew
import HandS.Defaults
import HandS.SortKw
import KE.KIndexOf
import HandS.Small
import HandS.Set
import KE.KEqNest
import HandS.EndBits
import HandS.Head0
import HandS.Head1
import HandS.Head2
import HandS.HeadEnd
import HandS.HeadHook1
import HandS.HeadHook2
import KE.BitLaws
import PySem.Challenge.RW_signedframes_k70_rows_with_told_marks

set_option Elab.async false
set_option linter.all false
set_option maxRecDepth 100000
set_option maxHeartbeats 4000000
namespace Mi
open PySem PySem.Spec PyProof.Rows L2

abbrev D := PyData
abbrev W (α : Type) := (α → Prop) → Prop

/-! ### a datum in the part of the heap that never changes -/
/-- a tuple whose object has no dict of its own -/
def SqN (G : Hp) (a : Addr) (xs : List V) : Prop := ∃ o, G a = some (.frz o (.tup xs)) ∧ o.dict = none
theorem SqN.sqT {K : PySem.W.Frag} {G : Hp} {a : Addr} {xs : List V} (h : SqN G a xs) : SqT K G a xs := let ⟨o, h, _⟩ := h; .inl (.inr ⟨o, h⟩)
theorem SqN.mono {G G' : Hp} {a : Addr} {xs : List V} (e : Same G G') (h : SqN G a xs) : SqN G' a xs := let ⟨o, h, d⟩ := h; ⟨o, e _ _ h, d⟩
mutual
inductive Rp (K : PySem.W.Frag) (G : Hp) : V → D → Prop
  | non : Rp K G .non .none
  | bl (b : Bool) : Rp K G (.bl b) (.bool b)
  | int (i : Int) : Rp K G (.int i) (.int i)
  | str (x : Str) : Rp K G (.str x) (.str x)
  | lst {a : Addr} {xs : List V} {ds : List D} : G a = some (.lst xs) → RpAll K G xs ds → Rp K G (.ref a) (.list ds)
  | tup {a : Addr} {xs : List V} {ds : List D} : SqN G a xs → RpAll K G xs ds → Rp K G (.ref a) (.tuple ds)
  | dct {a : Addr} {kvs : List (Key × V)} {ds : List (D × D)} : G a = some (.dK kvs) → RpKv K G kvs ds → Rp K G (.ref a) (.dict ds)
inductive RpAll (K : PySem.W.Frag) (G : Hp) : List V → List D → Prop
  | nil : RpAll K G [] []
  | cons {v : V} {vs : List V} {d : D} {ds : List D} : Rp K G v d → RpAll K G vs ds → RpAll K G (v :: vs) (d :: ds)
inductive RpKv (K : PySem.W.Frag) (G : Hp) : List (Key × V) → List (D × D) → Prop
  | nil : RpKv K G [] []
  | int {i : Int} {v : V} {d : D} {r : List (Key × V)} {rs : List (D × D)} : Rp K G v d → RpKv K G r rs → RpKv K G ((.inl i, v) :: r) ((.int i, d) :: rs)
  | str {x : Str} {v : V} {d : D} {r : List (Key × V)} {rs : List (D × D)} : Rp K G v d → RpKv K G r rs → RpKv K G ((.inr x, v) :: r) ((.str x, d) :: rs)
end
theorem sqT_mono {K : PySem.W.Frag} {G G' : Hp} {a : Addr} {xs : List V} (e : Same G G') (h : SqT K G a xs) : SqT K G' a xs := by
  rcases h with (h | ⟨o, h⟩) | h
  · exact .inl (.inl (e _ _ h))
  · exact .inl (.inr ⟨o, e _ _ h⟩)
  · exact .inr h
mutual
theorem Rp.mono {K : PySem.W.Frag} {G G' : Hp} (e : Same G G') : ∀ {v : V} {d : D}, Rp K G v d → Rp K G' v d
  | _, _, .non => .non
  | _, _, .bl b => .bl b
  | _, _, .int i => .int i
  | _, _, .str x => .str x
  | _, _, .lst h r => .lst (e _ _ h) (RpAll.mono e r)
  | _, _, .tup h r => .tup (h.mono e) (RpAll.mono e r)
  | _, _, .dct h r => .dct (e _ _ h) (RpKv.mono e r)
theorem RpAll.mono {K : PySem.W.Frag} {G G' : Hp} (e : Same G G') : ∀ {vs : List V} {ds : List D}, RpAll K G vs ds → RpAll K G' vs ds
  | _, _, .nil => .nil
  | _, _, .cons h r => .cons (Rp.mono e h) (RpAll.mono e r)
theorem RpKv.mono {K : PySem.W.Frag} {G G' : Hp} (e : Same G G') : ∀ {vs : List (Key × V)} {ds : List (D × D)}, RpKv K G vs ds → RpKv K G' vs ds
  | _, _, .nil => .nil
  | _, _, .int h r => .int (Rp.mono e h) (RpKv.mono e r)
  | _, _, .str h r => .str (Rp.mono e h) (RpKv.mono e r)
end
section
variable {K : PySem.W.Frag} {G : Hp}
theorem RpAll.length : ∀ {vs : List V} {ds : List D}, RpAll K G vs ds → vs.length = ds.length
  | _, _, .nil => rfl
  | _, _, .cons _ r => by simp [RpAll.length r]
theorem RpAll.at {d : D} : ∀ {vs : List V} {ds : List D} {i : Nat}, RpAll K G vs ds → ds[i]? = some d → ∃ v, vs[i]? = some v ∧ Rp K G v d
  | _, _, _, .nil, h => by simp at h
  | _, _, 0, .cons r _, h => by simp at h; subst h; exact ⟨_, rfl, r⟩
  | _, _, i + 1, .cons _ r, h => by
    obtain ⟨v, h1, h2⟩ := RpAll.at (i := i) r (by simpa using h)
    exact ⟨v, by simpa using h1, h2⟩
theorem RpAll.at' {v : V} : ∀ {vs : List V} {ds : List D} {i : Nat}, RpAll K G vs ds → vs[i]? = some v → ∃ d, ds[i]? = some d ∧ Rp K G v d
  | _, _, _, .nil, h => by simp at h
  | _, _, 0, .cons r _, h => by simp at h; subst h; exact ⟨_, rfl, r⟩
  | _, _, i + 1, .cons _ r, h => by
    obtain ⟨v, h1, h2⟩ := RpAll.at' (i := i) r (by simpa using h)
    exact ⟨v, by simpa using h1, h2⟩
theorem RpAll.append : ∀ {vs ws : List V} {ds es : List D}, RpAll K G vs ds → RpAll K G ws es → RpAll K G (vs ++ ws) (ds ++ es)
  | _, _, _, _, .nil, q => q
  | _, _, _, _, .cons h r, q => .cons h (RpAll.append r q)
theorem RpAll.drop : ∀ {vs : List V} {ds : List D} (n : Nat), RpAll K G vs ds → RpAll K G (vs.drop n) (ds.drop n)
  | _, _, 0, r => r
  | _, _, _ + 1, .nil => .nil
  | _, _, n + 1, .cons _ r => RpAll.drop n r
theorem RpAll.take : ∀ {vs : List V} {ds : List D} (n : Nat), RpAll K G vs ds → RpAll K G (vs.take n) (ds.take n)
  | _, _, 0, _ => .nil
  | _, _, _ + 1, .nil => .nil
  | _, _, n + 1, .cons h r => .cons h (RpAll.take n r)
theorem RpAll.set {v : V} {d : D} (q : Rp K G v d) : ∀ {vs : List V} {ds : List D} (i : Nat), RpAll K G vs ds → RpAll K G (vs.set i v) (ds.set i d)
  | _, _, _, .nil => .nil
  | _, _, 0, .cons _ r => .cons q r
  | _, _, i + 1, .cons h r => .cons h (RpAll.set q i r)
theorem RpAll.eraseIdx : ∀ {vs : List V} {ds : List D} (i : Nat), RpAll K G vs ds → RpAll K G (vs.eraseIdx i) (ds.eraseIdx i)
  | _, _, _, .nil => .nil
  | _, _, 0, .cons _ r => r
  | _, _, i + 1, .cons h r => .cons h (RpAll.eraseIdx i r)
theorem RpAll.reverse : ∀ {vs : List V} {ds : List D}, RpAll K G vs ds → RpAll K G vs.reverse ds.reverse
  | _, _, .nil => .nil
  | _, _, .cons h r => by
    rw [List.reverse_cons, List.reverse_cons]
    exact (RpAll.reverse r).append (.cons h .nil)
theorem RpAll.dropLast {vs : List V} {ds : List D} (h : RpAll K G vs ds) : RpAll K G vs.dropLast ds.dropLast := by
  rw [List.dropLast_eq_take, List.dropLast_eq_take, h.length]
  exact h.take _
theorem RpAll.rep {vs : List V} {ds : List D} (h : RpAll K G vs ds) : ∀ n : Nat, RpAll K G (List.replicate n vs).flatten (List.replicate n ds).flatten
  | 0 => .nil
  | n + 1 => by
    rw [List.replicate_succ, List.replicate_succ, List.flatten_cons, List.flatten_cons]
    exact h.append (RpAll.rep h n)
theorem RpAll.ints : ∀ {ns : List Int}, RpAll K G (ns.map V.int) (ns.map PyData.int)
  | [] => .nil
  | n :: r => .cons (.int n) (RpAll.ints (ns := r))
theorem RpAll.of_ints : ∀ {ns : List Int} {vs : List V}, RpAll K G vs (ns.map PyData.int) → vs = ns.map V.int
  | [], _, .nil => rfl
  | n :: r, _, .cons h q => by
    cases h
    rw [RpAll.of_ints q]
    rfl
theorem RpAll.of_bools : ∀ {ns : List Bool} {vs : List V}, RpAll K G vs (ns.map PyData.bool) → vs = ns.map V.bl
  | [], _, .nil => rfl
  | n :: r, _, .cons h q => by
    cases h
    rw [RpAll.of_bools q]
    rfl
end

/-! ### to Dp (no dict), to Reads -/
mutual
theorem Rp.dp {K : PySem.W.Frag} {G : Hp} : ∀ {v : V} {d : D}, Rp K G v d → d.canLay0 = true → Dp K G v d
  | _, _, .non, _ => .non
  | _, _, .bl b, _ => .bl b
  | _, _, .int i, _ => .int i
  | _, _, .str x, _ => .str x
  | _, _, .lst h r, z => .lst (SqL.of h) (RpAll.dp r (by simpa [PyData.canLay0] using z))
  | _, _, .tup h r, z => .tup h.sqT (RpAll.dp r (by simpa [PyData.canLay0] using z))
  | _, _, .dct h r, z => by simp [PyData.canLay0] at z
theorem RpAll.dp {K : PySem.W.Frag} {G : Hp} : ∀ {vs : List V} {ds : List D}, RpAll K G vs ds → PyData.canLayAll0 ds = true → DpAll K G vs ds
  | _, _, .nil, _ => .nil
  | _, _, .cons h r, z => by
    simp only [PyData.canLayAll0, Bool.and_eq_true] at z
    exact .cons (Rp.dp h z.1) (RpAll.dp r z.2)
end
section
variable {X : Cx} {pins : List (Addr × Obj)} {σ : L2.St} {H : Hp} {s : Shared}
theorem reads_pairs {prog : Program} {w : World} : ∀ {es : List DictEntry} {vs : List (Key × Value)} {kvs : List (Key × V)}, Pairs (mixKind prog w) es vs → KV kvs vs →
    Vals (kvs.map (·.2)) (es.map (·.val)) ∧ Vals (kvs.map fun kv => kV kv.1) (es.map (·.key))
  | _, _, _, .nil, .nil => ⟨.nil, .nil⟩
  | _, _, _, .cons hk hv r, .cons q qr => by
    obtain ⟨h1, h2⟩ := reads_pairs r qr
    refine ⟨.cons ?_ h1, .cons ?_ h2⟩
    · dsimp only
      rw [hv]
      exact q.2
    · dsimp only
      rw [q.1]
      exact keyIs_rel hk
theorem keys_of {K : PySem.W.Frag} {G : Hp} : ∀ {kvs : List (Key × V)} {ds : List (D × D)}, RpKv K G kvs ds → RpAll K G (kvs.map fun kv => kV kv.1) (ds.map (·.1)) ∧ RpAll K G (kvs.map (·.2)) (ds.map (·.2))
  | _, _, .nil => ⟨.nil, .nil⟩
  | _, _, .int h r => ⟨.cons (.int _) (keys_of r).1, .cons h (keys_of r).2⟩
  | _, _, .str h r => ⟨.cons (.str _) (keys_of r).1, .cons h (keys_of r).2⟩
mutual
theorem Rp.reads (I : Inv X pins σ H s) (sy : H sysModules = none) : ∀ {v : V} {d : D} {u : Value}, Rp X.K H v d → L2.RelV v u → ∃ as, Reads s.heap u d as ∧ sysModules ∉ as
  | _, _, u, .non, r => by cases r; exact ⟨_, .none, by simp⟩
  | _, _, u, .bl b, r => by cases r; exact ⟨_, .bool b, by simp⟩
  | _, _, u, .int i, r => by obtain ⟨t, rfl⟩ := r; exact ⟨_, .int i t, by simp⟩
  | _, _, u, .str x, r => by obtain ⟨t, rfl⟩ := r; exact ⟨_, .str x t, by simp⟩
  | _, _, u, .lst (a := a) h q, r => by
    cases r
    obtain ⟨its, rv, ⟨o, n, ho, hc, _, hd⟩, _⟩ := I.list (SqL.of h)
    obtain ⟨as, hr, hn⟩ := RpAll.reads I sy q rv
    refine ⟨_, .list ho hc hd hr, ?_⟩
    simp only [List.mem_cons, not_or]
    exact ⟨fun e => (by rw [← e, sy] at h; cases h), hn⟩
  | _, _, u, .tup (a := a) h q, r => by
    cases r
    obtain ⟨its, rv, ⟨o, ho, hc, n, hd⟩, _⟩ := I.tuple h.sqT
    obtain ⟨as, hr, hn⟩ := RpAll.reads I sy q rv
    exact ⟨_, .tuple ho hc hd hr, hn⟩
  | _, _, u, .dct (a := a) h q, r => by
    cases r
    obtain ⟨z, _, vs, kv, o, es, ep, ho, hx, hd, _, hp, _⟩ := I.hok a _ h
    obtain ⟨v1, v2⟩ := reads_pairs hp kv
    obtain ⟨ks, bs, e1, e2⟩ := RpKv.reads I sy q v2 v1
    refine ⟨_, .dict ho hx.1 hd e1.1 e2.1, ?_⟩
    simp only [List.cons_append, List.mem_cons, List.mem_append, not_or]
    exact ⟨fun e => (by rw [← e, sy] at h; cases h), e1.2, e2.2⟩
theorem RpAll.reads (I : Inv X pins σ H s) (sy : H sysModules = none) : ∀ {vs : List V} {ds : List D} {us : List Value}, RpAll X.K H vs ds → Vals vs us → ∃ as, ReadsAll s.heap us ds as ∧ sysModules ∉ as
  | _, _, _, .nil, .nil => ⟨_, .nil, by simp⟩
  | _, _, _, .cons h q, .cons r rr => by
    obtain ⟨as, h1, n1⟩ := Rp.reads I sy h r
    obtain ⟨bs, h2, n2⟩ := RpAll.reads I sy q rr
    exact ⟨_, .cons h1 h2, by simp only [List.mem_append, not_or]; exact ⟨n1, n2⟩⟩
theorem RpKv.reads (I : Inv X pins σ H s) (sy : H sysModules = none) : ∀ {kvs : List (Key × V)} {ds : List (D × D)} {ks us : List Value}, RpKv X.K H kvs ds → Vals (kvs.map fun kv => kV kv.1) ks → Vals (kvs.map (·.2)) us →
    ∃ as bs, (ReadsAll s.heap ks (ds.map (·.1)) as ∧ sysModules ∉ as) ∧ (ReadsAll s.heap us (ds.map (·.2)) bs ∧ sysModules ∉ bs)
  | _, _, _, _, .nil, .nil, .nil => ⟨_, _, ⟨.nil, by simp⟩, ⟨.nil, by simp⟩⟩
  | _, _, _, _, .int h q, .cons r1 r2, .cons r3 r4 => by
    obtain ⟨as, h1, n1⟩ := Rp.reads I sy h r3
    obtain ⟨ks, vs, h2, h3⟩ := RpKv.reads I sy q r2 r4
    obtain ⟨t, rfl⟩ := r1
    exact ⟨_, _, ⟨.cons (.int _ t) h2.1, by simpa using h2.2⟩, ⟨.cons h1 h3.1, by simp only [List.mem_append, not_or]; exact ⟨n1, h3.2⟩⟩⟩
  | _, _, _, _, .str h q, .cons r1 r2, .cons r3 r4 => by
    obtain ⟨as, h1, n1⟩ := Rp.reads I sy h r3
    obtain ⟨ks, vs, h2, h3⟩ := RpKv.reads I sy q r2 r4
    obtain ⟨t, rfl⟩ := r1
    exact ⟨_, _, ⟨.cons (.str _ t) h2.1, by simpa using h2.2⟩, ⟨.cons h1 h3.1, by simp only [List.mem_append, not_or]; exact ⟨n1, h3.2⟩⟩⟩
end
end

/-! ### what a name of the def may hold -/
inductive Slot where
  | no
  | v (d : D)
  /-- a list of the def's own, that nothing else holds -/
  | own (ds : List D)
  /-- a list lent by the caller -/
  | bor (ds : List D)
  /-- the drawing dict -/
  | src
abbrev Env := List Slot
structure Ctl where
  K : PySem.W.Frag
  S : Option (Addr × Addr)
  G0 : Hp
  H0 : Hp
def IsSrc (S : Option (Addr × Addr)) (b : Addr) : Prop := ∃ a l, S = some (a, l) ∧ (b = a ∨ b = l)
def Frame (S : Option (Addr × Addr)) (H H' : Hp) : Prop := ∀ b o, H b = some o → ¬ IsSrc S b → H' b = some o
def Alive (H H' : Hp) : Prop := ∀ b, H b ≠ none → H' b ≠ none
def SrcAt (a l : Addr) (H : Hp) : Prop := ∃ (cells : List Int) (left mixed turn : Int),
  H a = some (.dK [(Sum.inr (Str.ofString "cells"), .ref l), (Sum.inr (Str.ofString "left"), .int left), (Sum.inr (Str.ofString "mixed"), .int mixed), (Sum.inr (Str.ofString "turn"), .int turn)]) ∧ H l = some (.lst (cells.map V.int))
structure Ok (S : Option (Addr × Addr)) (G F H : Hp) : Prop where
  gf : Same G F
  fh : Same F H
  wd : ∀ a l, S = some (a, l) → F a = none ∧ F l = none ∧ a ≠ l ∧ SrcAt a l H
/-- a step that changes nothing but the source, and makes new things -/
structure Stp (S : Option (Addr × Addr)) (G F H G' F' H' : Hp) : Prop where
  ok : Ok S G' F' H'
  g : Same G G'
  f : Same F F'
  fr : Frame S H H'
  al : Alive H H'
  ng : ∀ b o, G' b = some o → G b = some o ∨ H b = none
  nf : ∀ b o, F' b = some o → F b = some o ∨ H b = none
theorem Frame.refl {S : Option (Addr × Addr)} {H : Hp} : Frame S H H := fun _ _ h _ => h
theorem Frame.trans {S : Option (Addr × Addr)} {H1 H2 H3 : Hp} (a : Frame S H1 H2) (b : Frame S H2 H3) : Frame S H1 H3 := fun c o h n => b c o (a c o h n) n
theorem Stp.refl {S : Option (Addr × Addr)} {G F H : Hp} (ok : Ok S G F H) : Stp S G F H G F H :=
  ⟨ok, .refl _, .refl _, .refl, fun _ h => h, fun _ _ h => .inl h, fun _ _ h => .inl h⟩
theorem Stp.trans {S : Option (Addr × Addr)} {G F H G1 F1 H1 G2 F2 H2 : Hp} (a : Stp S G F H G1 F1 H1) (b : Stp S G1 F1 H1 G2 F2 H2) : Stp S G F H G2 F2 H2 := by
  have dead : ∀ c, H1 c = none → H c = none := fun c h => by
    cases e : H c with
    | none => rfl
    | some o => exact absurd h (a.al c (by rw [e]; simp))
  refine ⟨b.ok, a.g.trans b.g, a.f.trans b.f, a.fr.trans b.fr, fun c h => b.al c (a.al c h), fun c o h => ?_, fun c o h => ?_⟩
  · rcases b.ng c o h with h | h
    · exact a.ng c o h
    · exact .inr (dead c h)
  · rcases b.nf c o h with h | h
    · exact a.nf c o h
    · exact .inr (dead c h)
theorem SrcAt.keep {a l : Addr} {H H' : Hp} (h : SrcAt a l H) (k : ∀ b o, b = a ∨ b = l → H b = some o → H' b = some o) : SrcAt a l H' := by
  obtain ⟨cs, x, y, z, h1, h2⟩ := h
  exact ⟨cs, x, y, z, k _ _ (.inl rfl) h1, k _ _ (.inr rfl) h2⟩
theorem same_upd {G : Hp} {p : Addr} {o : HO} (h : G p = none) : Same G (upd G p o) := fun b u e => by
  rw [upd_ne (ne_of_none e h)]
  exact e
/-- a new thing -/
theorem Stp.new {S : Option (Addr × Addr)} {G F H : Hp} (ok : Ok S G F H) {p : Addr} (hp : H p = none) (o : HO) : Stp S G F H (upd G p o) (upd F p o) (upd H p o) := by
  have hf : F p = none := ok.fh.free hp
  have hg : G p = none := ok.gf.free hf
  refine ⟨⟨fun b u e => ?_, fun b u e => ?_, fun a l e => ?_⟩, same_upd hg, same_upd hf, fun b u e _ => same_upd hp b u e, fun b h => ?_, fun b u e => ?_, fun b u e => ?_⟩
  · by_cases hb : b = p
    · subst hb; rw [upd_same] at e ⊢; exact e
    · rw [upd_ne hb] at e ⊢; exact ok.gf b u e
  · by_cases hb : b = p
    · subst hb; rw [upd_same] at e ⊢; exact e
    · rw [upd_ne hb] at e ⊢; exact ok.fh b u e
  · obtain ⟨h1, h2, h3, h4⟩ := ok.wd a l e
    have na : a ≠ p ∧ l ≠ p := by
      obtain ⟨_, _, _, _, e1, e2⟩ := h4
      exact ⟨ne_of_none e1 hp, ne_of_none e2 hp⟩
    exact ⟨by rw [upd_ne na.1]; exact h1, by rw [upd_ne na.2]; exact h2, h3, h4.keep fun b u _ e => same_upd hp b u e⟩
  · unfold upd
    split
    · simp
    · exact h
  · by_cases hb : b = p
    · subst hb; exact .inr hp
    · rw [upd_ne hb] at e; exact .inl e
  · by_cases hb : b = p
    · subst hb; exact .inr hp
    · rw [upd_ne hb] at e; exact .inl e
/-- .. that stays the def's own -/
theorem Stp.newOwn {S : Option (Addr × Addr)} {G F H : Hp} (ok : Ok S G F H) {p : Addr} (hp : H p = none) (o : HO) : Stp S G F H G (upd F p o) (upd H p o) := by
  have q := Stp.new ok hp o
  have hf : F p = none := ok.fh.free hp
  exact ⟨⟨ok.gf.trans q.f, q.ok.fh, q.ok.wd⟩, .refl _, q.f, q.fr, q.al, fun _ _ h => .inl h, q.nf⟩

def SlotR (c : Ctl) (G F : Hp) : Slot → V → Prop
  | .no, _ => True
  | .v d, x => Rp c.K G x d
  | .own ds, x => ∃ a vs, x = .ref a ∧ F a = some (.lst vs) ∧ G a = none ∧ c.H0 a = none ∧ RpAll c.K G vs ds
  | .bor ds, x => ∃ a vs, x = .ref a ∧ c.H0 a = some (.lst vs) ∧ F a = some (.lst vs) ∧ RpAll c.K G vs ds
  | .src, x => ∃ a l, c.S = some (a, l) ∧ x = .ref a
structure Rel (c : Ctl) (env : Env) (G F : Hp) (σ : L2.St) (H : Hp) : Prop where
  ok : Ok c.S G F H
  fr : Frame c.S c.H0 H
  al : Alive c.H0 H
  g0 : Same c.G0 G
  ng0 : ∀ b o, G b = some o → c.G0 b = some o ∨ c.H0 b = none
  sl : ∀ (i : Nat) s, env[i]? = some s → s ≠ .no → ∃ x, σ[i]? = some (some x) ∧ SlotR c G F s x
  ap : ∀ (i j : Nat) ds es a, i ≠ j → env[i]? = some (.own ds) → env[j]? = some (.own es) → σ[i]? = some (some (.ref a)) → σ[j]? = some (some (.ref a)) → False
theorem SlotR.step {c : Ctl} {G F H G' F' H' : Hp} (ok : Ok c.S G F H) (q : Stp c.S G F H G' F' H') : ∀ {s : Slot} {x : V}, SlotR c G F s x → SlotR c G' F' s x
  | .no, _, _ => trivial
  | .v d, _, h => Rp.mono q.g h
  | .own ds, _, ⟨a, vs, e, h1, h2, h3, h4⟩ => by
    have hg : G' a = none := by
      cases z : G' a with
      | none => rfl
      | some o =>
        rcases q.ng a o z with z | z
        · rw [h2] at z; cases z
        · rw [ok.fh _ _ h1] at z; cases z
    exact ⟨a, vs, e, q.f _ _ h1, hg, h3, RpAll.mono q.g h4⟩
  | .bor ds, _, ⟨a, vs, e, h1, h2, h3⟩ => ⟨a, vs, e, h1, q.f _ _ h2, RpAll.mono q.g h3⟩
  | .src, _, h => h
theorem Rel.step {c : Ctl} {env : Env} {G F H G' F' H' : Hp} {σ : L2.St} (r : Rel c env G F σ H) (q : Stp c.S G F H G' F' H') : Rel c env G' F' σ H' :=
  ⟨q.ok, r.fr.trans q.fr, fun b h => q.al b (r.al b h), r.g0.trans q.g, fun b o h => (q.ng b o h).elim (r.ng0 b o) fun z => .inr (by
    cases e : c.H0 b with
    | none => rfl
    | some u => exact absurd z (r.al b (by rw [e]; simp))), fun i s e n => let ⟨x, h1, h2⟩ := r.sl i s e n; ⟨x, h1, h2.step r.ok q⟩, r.ap⟩

/-- a list may be lent: its items alone are in G -/
inductive RpU (K : PySem.W.Frag) (G F : Hp) : V → D → Prop
  | rp {v : V} {d : D} : Rp K G v d → RpU K G F v d
  | own {a : Addr} {vs : List V} {ds : List D} : F a = some (.lst vs) → RpAll K G vs ds → RpU K G F (.ref a) (.list ds)
theorem RpU.rpF {K : PySem.W.Frag} {G F : Hp} {v : V} {d : D} (gf : Same G F) : RpU K G F v d → Rp K F v d
  | .rp h => h.mono gf
  | .own h r => .lst h (r.mono gf)
theorem RpU.mono {K : PySem.W.Frag} {G F G' F' : Hp} {v : V} {d : D} (g : Same G G') (f : Same F F') : RpU K G F v d → RpU K G' F' v d
  | .rp h => .rp (h.mono g)
  | .own h r => .own (f _ _ h) (r.mono g)
theorem RpU.list {K : PySem.W.Frag} {G F : Hp} {v : V} {ds : List D} (gf : Same G F) (h : RpU K G F v (.list ds)) : ∃ a vs, v = .ref a ∧ F a = some (.lst vs) ∧ RpAll K G vs ds := by
  cases h with
  | rp h =>
    cases h with
    | lst h r => exact ⟨_, _, rfl, gf _ _ h, r⟩
  | own h r => exact ⟨_, _, rfl, h, r⟩
theorem RpU.tupleN {K : PySem.W.Frag} {G F : Hp} {v : V} {ds : List D} (h : RpU K G F v (.tuple ds)) : ∃ a vs, v = .ref a ∧ SqN G a vs ∧ RpAll K G vs ds := by
  cases h with
  | rp h =>
    cases h with
    | tup h r => exact ⟨_, _, rfl, h, r⟩
theorem RpU.tuple {K : PySem.W.Frag} {G F : Hp} {v : V} {ds : List D} (h : RpU K G F v (.tuple ds)) : ∃ a vs, v = .ref a ∧ SqT K G a vs ∧ RpAll K G vs ds :=
  let ⟨a, vs, e, h, r⟩ := h.tupleN; ⟨a, vs, e, h.sqT, r⟩
theorem RpU.int {K : PySem.W.Frag} {G F : Hp} {v : V} {i : Int} (h : RpU K G F v (.int i)) : v = .int i := by
  cases h with
  | rp h => cases h; rfl
theorem RpU.bool {K : PySem.W.Frag} {G F : Hp} {v : V} {i : Bool} (h : RpU K G F v (.bool i)) : v = .bl i := by
  cases h with
  | rp h => cases h; rfl
theorem RpU.str {K : PySem.W.Frag} {G F : Hp} {v : V} {i : Str} (h : RpU K G F v (.str i)) : v = .str i := by
  cases h with
  | rp h => cases h; rfl
theorem RpU.none {K : PySem.W.Frag} {G F : Hp} {v : V} (h : RpU K G F v .none) : v = .non := by
  cases h with
  | rp h => cases h; rfl

/-- sizes of what is tracked -/
def Sz (K : PySem.W.Frag) (H : Hp) : Prop := H sysModules = none ∧ ∀ a xs, (SqL K H a xs ∨ SqT K H a xs) → xs.length ≤ sizeLine
/-! ### the readings over plain data -/
def tD (c : Ctl) (cl : Bool) (f : Env → W D) : TE := fun σ H Q => ∃ env G F P, Rel c env G F σ H ∧ f env P ∧
  ∀ d v G' F' H', P d → Stp c.S G F H G' F' H' → RpU c.K G' F' v d → (cl = true → Rp c.K G' v d) → Sz c.K H' → Q v H'
def tB (c : Ctl) (f : Env → W Bool) : TT := fun σ H Q => ∃ env G F P, Rel c env G F σ H ∧ f env P ∧
  ∀ b G' F' H', P b → Stp c.S G F H G' F' H' → Q b H'
/-- arguments: all clean (cl), or some lent -/
inductive RpUs (K : PySem.W.Frag) (G F : Hp) : List V → List D → Prop
  | nil : RpUs K G F [] []
  | cons {v : V} {d : D} {vs : List V} {ds : List D} : RpU K G F v d → RpUs K G F vs ds → RpUs K G F (v :: vs) (d :: ds)
def tAs (c : Ctl) (cl : Bool) (f : Env → W (List D)) : TA := fun σ H Q => ∃ env G F P, Rel c env G F σ H ∧ f env P ∧
  ∀ ds vs G' F' H', P ds → Stp c.S G F H G' F' H' → RpUs c.K G' F' vs ds → (cl = true → RpAll c.K G' vs ds) → Sz c.K H' → Q vs H'
end Mi

set_option Elab.async false
set_option linter.all false
set_option maxRecDepth 100000
set_option maxHeartbeats 4000000
namespace Mi
open PySem PySem.Spec PyProof.Rows L2

/-! ### what the operations give, over plain data -/
def addW : D → D → W D
  | .int i, .int j, P => P (.int (i + j))
  | .list xs, .list ys, P => xs.length + ys.length ≤ 16777216 ∧ P (.list (xs ++ ys))
  | .tuple xs, .tuple ys, P => xs.length + ys.length ≤ 16777216 ∧ P (.tuple (xs ++ ys))
  | .str x, .str y, P => x.length + y.length ≤ 16777216 ∧ P (.str (x ++ y))
  | _, _, _ => False
def subW : D → D → W D
  | .int i, .int j, P => P (.int (i - j))
  | _, _, _ => False
/-- one factor below 2^64, or no great product -/
def MulOk (i j : Int) : Prop := i.natAbs < 18446744073709551616 ∨ j.natAbs < 18446744073709551616 ∨ CMulW i j
theorem MulOk.ok {i j : Int} (h : MulOk i j) : IntMulOk i j := by
  rcases h with h | h | h
  · exact .of_left (intBits_le_64 (by omega) (by omega))
  · exact .of_right (intBits_le_64 (by omega) (by omega))
  · exact h.ok
def mulW : D → D → W D
  | .int i, .int j, P => MulOk i j ∧ P (.int (i * j))
  | .tuple xs, .int k, P => (1 ≤ k ∧ k ≤ 1000 ∧ xs.length ≤ 1000 ∧ xs ≠ []) ∧ P (.tuple (List.replicate k.toNat xs).flatten)
  | .list xs, .int k, P => (k ≤ 1000 ∧ -1000 ≤ k ∧ xs.length ≤ 1000) ∧ P (.list (List.replicate k.toNat xs).flatten)
  | _, _, _ => False
/-- floor division, of a divisor that isn't great -/
def divW : D → D → W D
  | .int i, .int j, P => (j ≠ 0 ∧ j.natAbs.log2 < 9000) ∧ P (.int (i.fdiv j))
  | _, _, _ => False
def modW : D → D → W D
  | .int i, .int j, P => j ≠ 0 ∧ P (.int (i.fmod j))
  | _, _, _ => False
def powW : D → D → W D
  | .int i, .int j, P => CPow i j ∧ P (.int (i ^ j.toNat))
  | _, _, _ => False
def shlW : D → D → W D
  | .int i, .int j, P => CPow i j ∧ P (.int (i * 2 ^ j.toNat))
  | _, _, _ => False
def shrW : D → D → W D
  | .int i, .int j, P => 0 ≤ j ∧ P (.int (i / 2 ^ j.toNat))
  | _, _, _ => False
def andW : D → D → W D
  | .int i, .int j, P => P (.int (Builtin.bitAnd i j))
  | _, _, _ => False
def eqW (d e : D) : W Bool := fun P => SeqAt.shaped d = true ∧ SeqAt.shaped e = true ∧ P (PyData.eqv d e)
def ltW : D → D → W Bool
  | .int i, .int j, P => P (decide (i < j))
  | _, _, _ => False
def leW : D → D → W Bool
  | .int i, .int j, P => P (decide (i ≤ j))
  | _, _, _ => False
def gtW : D → D → W Bool
  | .int i, .int j, P => P (decide (j < i))
  | _, _, _ => False
def geW : D → D → W Bool
  | .int i, .int j, P => P (decide (j ≤ i))
  | _, _, _ => False
def inW (d : D) : D → W Bool
  | .list xs, P => SeqAt.shaped d = true ∧ PyData.canLayAll0 xs = true ∧ P (xs.any fun y => PyData.eqv y d)
  | .tuple xs, P => SeqAt.shaped d = true ∧ PyData.canLayAll0 xs = true ∧ P (xs.any fun y => PyData.eqv y d)
  | _, _ => False
def isNone : D → Bool
  | .none => true
  | _ => false
def notB (w : W Bool) : W Bool := fun P => w fun b => P (!b)
def valB (w : W Bool) : W D := fun P => w fun b => P (.bool b)
def idxW : D → D → W D
  | .list xs, .int i, P => ∃ d, atI xs i = some d ∧ P d
  | .tuple xs, .int i, P => ∃ d, atI xs i = some d ∧ P d
  | _, _, _ => False
def cutD (xs : List D) (lo hi : Option Int) : List D := (xs.drop (HT.sIx xs.length 0 lo)).take (HT.sIx xs.length xs.length hi - HT.sIx xs.length 0 lo)
def sliceW : D → Option Int → Option Int → W D
  | .list xs, lo, hi, P => P (.list (cutD xs lo hi))
  | .tuple xs, lo, hi, P => P (.tuple (cutD xs lo hi))
  | _, _, _, _ => False
def truthW : D → W Bool
  | .none, P => P false
  | .bool b, P => P b
  | .int i, P => P (i != 0)
  | .list xs, P => P (!xs.isEmpty)
  | .tuple xs, P => P (!xs.isEmpty)
  | _, _ => False
def negW : D → W D
  | .int i, P => P (.int (-i))
  | _, _ => False

/-! ### by values, over the heap -/
def rW (c : Ctl) (w : D → D → W D) : R2 := fun x y H Q => ∃ G F d e P, Ok c.S G F H ∧ Sz c.K H ∧ RpU c.K G F x d ∧ RpU c.K G F y e ∧ w d e P ∧
  ∀ d' v G' F' H', P d' → Stp c.S G F H G' F' H' → Rp c.K G' v d' → Q v H'
theorem atI_len {α β : Type} {xs : List α} {ys : List β} {i : Int} {y : β} (hl : xs.length = ys.length) (h : atI ys i = some y) : ∃ j : Nat, ys[j]? = some y ∧ ∀ x : α, xs[j]? = some x → atI xs i = some x := by
  unfold atI at h ⊢
  rw [hl]
  cases e : ixN ys.length i with
  | none => rw [e] at h; cases h
  | some j =>
    rw [e] at h
    exact ⟨j, h, fun x hx => hx⟩
theorem RpAll.atI {K : PySem.W.Frag} {G : Hp} {vs : List V} {ds : List D} {i : Int} {d : D} (r : RpAll K G vs ds) (h : L2.atI ds i = some d) : ∃ v, L2.atI vs i = some v ∧ Rp K G v d := by
  obtain ⟨j, h1, h2⟩ := atI_len r.length h
  obtain ⟨v, h3, h4⟩ := r.at h1
  exact ⟨v, h2 v h3, h4⟩
theorem RpAll.cut {K : PySem.W.Frag} {G : Hp} {vs : List V} {ds : List D} (r : RpAll K G vs ds) (lo hi : Option Int) : RpAll K G (cutV vs lo hi) (cutD ds lo hi) := by
  unfold cutV cutD
  rw [r.length]
  exact (r.drop _).take _
theorem cut_all {xs : List D} {lo hi : Option Int} {n : Nat} (hn : n = xs.length) (h : HT.sIx n 0 lo = 0 ∧ HT.sIx n n hi = n) : cutD xs lo hi = xs := by
  subst hn
  unfold cutD
  rw [h.1, h.2]
  simp
theorem mk_list {S : Option (Addr × Addr)} {K : PySem.W.Frag} {G F H : Hp} {p : Addr} {vs : List V} {ds : List D} (ok : Ok S G F H) (hp : H p = none) (r : RpAll K G vs ds) :
    Stp S G F H (upd G p (.lst vs)) (upd F p (.lst vs)) (upd H p (.lst vs)) ∧ Rp K (upd G p (.lst vs)) (.ref p) (.list ds) :=
  ⟨Stp.new ok hp _, .lst upd_same (r.mono (Stp.new ok hp _).g)⟩
theorem mk_tup {S : Option (Addr × Addr)} {K : PySem.W.Frag} {G F H : Hp} {p : Addr} {o : Obj} {vs : List V} {ds : List D} (ho : o.dict = none) (ok : Ok S G F H) (hp : H p = none) (r : RpAll K G vs ds) :
    Stp S G F H (upd G p (.frz o (.tup vs))) (upd F p (.frz o (.tup vs))) (upd H p (.frz o (.tup vs))) ∧ Rp K (upd G p (.frz o (.tup vs))) (.ref p) (.tuple ds) :=
  ⟨Stp.new ok hp _, .tup ⟨o, upd_same, ho⟩ (r.mono (Stp.new ok hp _).g)⟩
/-- a new tuple is laid -/
theorem lay_tup {X : Cx} {pins : List (Addr × Obj)} {σ : L2.St} {H : Hp} {s : Shared} {h' : Heap} {a : Addr} {xs : List V} {its : List Value} {n : Nat} {t' : Nat} (I : Inv X pins σ H s) (k : ∀ b u, s.heap.get? b = some u → h'.get? b = some u)
    (hp : s.heap.objs.size ≤ a) (hz : xs.length ≤ sizeLine) (r : Vals xs its) (ho : h'.get? a = some { cls := .type "tuple", data := .seq its.toArray n }) :
    Inv X pins σ (upd H a (.frz { cls := .type "tuple", data := .seq its.toArray n } (.tup xs))) { s with heap := h', toks := t' } :=
  I.laid k hp (show ObjOk X.prog X.w _ _ _ (.frz _ (.tup xs)) from ⟨ho, hz, its, r, ⟨_, ho, rfl, n, rfl⟩⟩)
def dNone (o : Obj) : Prop := o.dict = none
/-- what a rule that makes a tuple gives -/
def NewT (H : Hp) (Q : VK) (xs : List V) : Prop := ∀ p o, H p = none → o.dict = none → Q (.ref p) (upd H p (.frz o (.tup xs)))
theorem got_tup {X : Cx} {pins : List (Addr × Obj)} {σ : L2.St} {H : Hp} {s : Shared} {h' : Heap} {a : Addr} {xs : List V} {its : List Value} {n : Nat} {t' : Nat} {Q : VK} (q : NewT H Q xs) (I : Inv X pins σ H s) (k : ∀ b u, s.heap.get? b = some u → h'.get? b = some u)
    (hp : s.heap.objs.size ≤ a) (hz : xs.length ≤ sizeLine) (r : Vals xs its) (ho : h'.get? a = some { cls := .type "tuple", data := .seq its.toArray n }) :
    EP X pins σ Q (.ref a) { s with heap := h', toks := t' } := ⟨.ref a, _, lay_tup I k hp hz r ho, rfl, q a _ (I.hok.fresh hp) rfl⟩
section
variable {X : Cx}
def rCatN (K : PySem.W.Frag) : R2 := fun x y H Q => ∃ a b xs ys, x = .ref a ∧ y = .ref b ∧ SqT K H a xs ∧ SqT K H b ys ∧ xs.length + ys.length ≤ sizeLine ∧
  (xs = [] → Q (.ref b) H) ∧ (xs ≠ [] → ys = [] → Q (.ref a) H) ∧ (xs ≠ [] → ys ≠ [] → NewT H Q (xs ++ ys))
theorem op_catN : OpR X (binaryOp .Add) (rCatN X.K) := by
  intro pins s σ H x y v u Q I rx ry h
  obtain ⟨a, b, xs, ys, rfl, rfl, ha, hb, hz, q0, q1, q2⟩ := h
  by_cases hx : xs = []
  · exact op_catA pins s σ H _ _ v u Q I rx ry ⟨a, b, xs, ys, rfl, rfl, ha, hb, hz, q0, fun z => absurd hx z, fun z => absurd hx z⟩
  by_cases hy : ys = []
  · exact op_catA pins s σ H _ _ v u Q I rx ry ⟨a, b, xs, ys, rfl, rfl, ha, hb, hz, q0, q1, fun _ z => absurd hy z⟩
  cases rx
  cases ry
  obtain ⟨its, r1, p1, _⟩ := I.tuple ha
  obtain ⟨its2, r2, p2, _⟩ := I.tuple hb
  refine HT.cat_tup p1 p2 (fun z => hx (r1.nil_iff.mp z)) (fun z => absurd (r2.nil_iff.mp z) hy) (fun z => ?_) (by rw [← r1.length, ← r2.length]; exact hz)
  exact got_tup (t' := s.toks) (q2 hx hy) I (fun b ob q => Heap.get?_push_of_some _ q) (Nat.le_refl _) (by rw [List.length_append]; exact hz) (r1.append r2) (Heap.get?_push_size _ rfl)
/-- t * k, 2 ≤ k -/
theorem op_repN {pins : List (Addr × Obj)} {s : Shared} {σ : L2.St} {H : Hp} {l : Addr} {k : Int} {u : Tok} {xs : List V} {Q : VK} (I : Inv X pins σ H s) (hT : SqT X.K H l xs) (hne : xs ≠ []) (h1 : 2 ≤ k) (h2 : k ≤ 1000) (hz : xs.length ≤ 1000)
    (q : NewT H Q (List.replicate k.toNat xs).flatten) : wpAny (model X.prog X.w) X.A (binaryOp .Mult (.ref l) (.int k u)) (EP X pins σ Q) X.xe s := by
  obtain ⟨its, r, ⟨⟨cls, dd, data, sl⟩, ho, hc, n, hd⟩, hs⟩ := I.tuple hT
  simp only at hc hd
  subst hc hd
  have hl : its.toArray.size = xs.length := by rw [List.size_toArray]; exact r.length.symm
  have big : k.toNat * xs.length ≤ sizeLine := by
    rw [sizeLine_eq]
    exact Nat.le_trans (Nat.mul_le_mul (show k.toNat ≤ 1000 by omega) hz) (by decide)
  have ne : its.toArray.isEmpty = false := by
    cases r with
    | nil => exact absurd rfl hne
    | cons => rfl
  have prod : ((its.toArray.size : Nat) : Int) * k ≤ 1000000 := by
    rw [hl]
    exact Int.le_trans (Int.mul_le_mul_of_nonneg_right (show ((xs.length : Nat) : Int) ≤ 1000 by omega) (by omega)) (by omega)
  have fl : (List.replicate k.toNat its).flatten.length ≤ sizeLine := by rw [PyProof.Rows.lm_len_rep_flat, ← r.length]; exact big
  have many : Builtin.Tuple.tupleTooMany (((its.toArray.size : Nat) : Int) * k) = false := by
    unfold Builtin.Tuple.tupleTooMany
    rw [sizeLine_eq]
    exact decide_eq_false (by omega)
  refine wpAny_binaryOp_repeat_ref (T := "tuple") (U := "int") (by decide) ⟨_, ho, rfl⟩ (fun s' => typeIs_int s' k u) noFill_tuple_mul PySem.F.fills_int_mul PySem.F.slot_int_rmul repeat_tuple PySem.F.slot_int_index.lookup
    (call_meets PySem.F.slot_int_rmul (typeIs_int s k u) PySem.F.entry_int_rmul (PySem.F.args_int_rmul_2 _ _) (int_rmul_tuple k u l its.toArray n dd sl) ⟨ho, rfl, ⟨_, ho, rfl⟩,
      call_meets PySem.F.slot_tuple_mul ⟨_, ho, rfl⟩ PySem.F.entry_tuple_mul (PySem.F.args_tuple_mul_2 _ _) (tuple_mulW l its.toArray n dd sl k u (by rw [decide_eq_false (by omega), decide_eq_false (by omega)] <;> rfl)
        (by rw [ne, Bool.false_or]; exact beq_eq_false_iff_ne.mpr (by omega)) (by rw [ne, Bool.or_false]; exact decide_eq_false (by omega)) (by omega) many (by rw [size_rep, List.size_toArray]; exact fl)) ⟨ho, ?_⟩⟩)
  rw [size_rep]
  exact got_tup (t' := s.toks) q I (fun b ob e => Heap.get?_push_of_some _ e) (Nat.le_refl _) (by rw [PyProof.Rows.lm_len_rep_flat]; exact big) (r.rep k.toNat) (Heap.get?_push_size _ rfl)
def rSlN (K : PySem.W.Frag) : V → Option Int → Option Int → Hp → VK → Prop := fun x lo hi H Q => ∃ a xs, x = .ref a ∧ SqT K H a xs ∧
  (HT.sIx xs.length 0 lo = 0 ∧ HT.sIx xs.length xs.length hi = xs.length → Q (.ref a) H) ∧ (¬ (HT.sIx xs.length 0 lo = 0 ∧ HT.sIx xs.length xs.length hi = xs.length) → NewT H Q (cutV xs lo hi))
theorem sl_tupN : SlR X (rSlN X.K) := by
  intro pins s σ H x v vl vu lo hi sl Q I rx hs pl pu h
  obtain ⟨a, xs, rfl, hx, q1, q2⟩ := h
  by_cases hw : HT.sIx xs.length 0 lo = 0 ∧ HT.sIx xs.length xs.length hi = xs.length
  · exact sl_tupA pins s σ H _ v vl vu lo hi sl Q I rx hs pl pu ⟨a, xs, rfl, hx, q1, fun z => absurd hw z⟩
  · cases rx
    obtain ⟨its, r, ht, hz⟩ := I.tuple hx
    have hlen : its.toArray.size = xs.length := by rw [List.size_toArray]; exact r.length.symm
    refine ⟨"tuple", _, PyProof.Rows.slot_tuple_getitem.lookup, ht.typeIs, ?_⟩
    refine HT.getItem_tuple_cut ht hs pl pu (by rw [hlen]; exact hw) ?_ (by rw [hlen]; exact hz)
    rw [hlen]
    exact got_tup (t' := s.toks) (q2 hw) I (fun b ob q => Heap.get?_push_of_some _ q) (Nat.le_refl _) (Nat.le_trans (cutV_length xs lo hi) hz) ((r.drop (HT.sIx xs.length 0 lo)).take (HT.sIx xs.length xs.length hi - HT.sIx xs.length 0 lo)) (Heap.get?_push_size _ rfl)
end
/-- t * 1 is t itself -/
theorem tuple_mul1 (l : Addr) (items : Array Value) (n : Nat) (dd : Option Addr) (sl : Array (Option Value)) (u : Tok) :
    Meets (Builtin.«tuple.__mul__» ⟨[.ref l, .int 1 u], []⟩) (fun _ R s => s.heap.get? l = some { cls := .type "tuple", dict := dd, data := .seq items n, slots := sl } ∧ R (.ok (.ret (Value.ref l))) s) :=
  .of_wp fun prog w A R s h => by
    obtain ⟨hp, g, d, tk, os⟩ := s
    obtain ⟨hl, h⟩ := h
    have f1 := AutoSeq1.idx_int
    have c1 : (items.isEmpty || (1 : Int) == 1) = true := by simp
    wp_walk using wpAny_loadPart' hl
    repeat (first
      | (refine wpAny_ite_true (decide_eq_true (by rw [c1])) ?_; wp_walk using wpAny_loadPart' hl))
    exact ⟨_, rfl, h⟩
section
variable {X : Cx} {c : Ctl} (hK : c.K = X.K)
include hK
theorem op_subW : OpR X (binaryOp .Sub) (rW c subW) := by
  intro pins s σ H x y v u Q I rx ry ⟨G, F, d, e, P, ok, sz, hx, hy, hw, hq⟩
  cases d <;> try exact hw.elim
  cases e <;> try exact hw.elim
  have ex := hx.int
  have ey := hy.int
  subst ex ey
  exact op_sub pins s σ H _ _ v u Q I rx ry ⟨_, _, rfl, rfl, hq _ _ _ _ _ hw (.refl ok) (.int _)⟩
theorem op_addW : OpR X (binaryOp .Add) (rW c addW) := by
  intro pins s σ H x y v u Q I rx ry ⟨G, F, d, e, P, ok, sz, hx, hy, hw, hq⟩
  cases d <;> try exact hw.elim
  all_goals (cases e <;> try exact hw.elim)
  · have ex := hx.int
    have ey := hy.int
    subst ex ey
    exact op_add pins s σ H _ _ v u Q I rx ry ⟨_, _, rfl, rfl, hq _ _ _ _ _ hw (.refl ok) (.int _)⟩
  · have ex := hx.str
    have ey := hy.str
    subst ex ey
    exact op_add_str pins s σ H _ _ v u Q I rx ry ⟨_, _, rfl, rfl, by rw [sizeLine_eq]; exact hw.1, hq _ _ _ _ _ hw.2 (.refl ok) (.str _)⟩
  · obtain ⟨a, vs, rfl, h1, r1⟩ := hx.list ok.gf
    obtain ⟨b, ws, rfl, h2, r2⟩ := hy.list ok.gf
    refine op_cat pins s σ H _ _ v u Q I rx ry ⟨a, b, vs, ws, rfl, rfl, ok.fh _ _ h1, ok.fh _ _ h2, by rw [sizeLine_eq, r1.length, r2.length]; exact hw.1, fun p hp => ?_⟩
    have st := Stp.new ok hp (.lst (vs ++ ws))
    exact hq _ _ _ _ _ hw.2 st (.lst upd_same ((r1.append r2).mono st.g))
  · obtain ⟨a, vs, rfl, h1, r1⟩ := hx.tupleN
    obtain ⟨b, ws, rfl, h2, r2⟩ := hy.tupleN
    refine op_catN pins s σ H _ _ v u Q I rx ry ⟨a, b, vs, ws, rfl, rfl, sqT_mono (ok.gf.trans ok.fh) h1.sqT, sqT_mono (ok.gf.trans ok.fh) h2.sqT, by rw [sizeLine_eq, r1.length, r2.length]; exact hw.1, fun e => ?_, fun _ e => ?_, fun _ _ p o hp ho => ?_⟩
    · subst e
      cases r1
      exact hq _ _ _ _ _ hw.2 (.refl ok) (.tup h2 r2)
    · subst e
      cases r2
      exact hq _ _ _ _ _ hw.2 (.refl ok) (.tup h1 (by simpa using r1))
    · obtain ⟨st, rp⟩ := mk_tup ho ok hp (r1.append r2)
      exact hq _ _ _ _ _ hw.2 st rp
theorem op_mulWW : OpR X (binaryOp .Mult) (rW c mulW) := by
  intro pins s σ H x y v u Q I rx ry ⟨G, F, d, e, P, ok, sz, hx, hy, hw, hq⟩
  cases d <;> try exact hw.elim
  all_goals (cases e <;> try exact hw.elim)
  · have ex := hx.int
    have ey := hy.int
    subst ex ey
    exact (opI (X := X) (C := IntMulOk) (f := binaryOp .Mult) (g := fun i j => i * j) fun _ _ _ _ _ _ _ hc q => mul_int q hc) pins s σ H _ _ v u Q I rx ry ⟨_, _, rfl, rfl, hw.1.ok, hq _ _ _ _ _ hw.2 (.refl ok) (.int _)⟩
  · obtain ⟨a, vs, rfl, h1, r1⟩ := hx.list ok.gf
    have ey := hy.int
    subst ey
    obtain ⟨⟨w1, w2, w3⟩, hw⟩ := hw
    refine op_rep pins s σ H _ _ v u Q I rx ry ⟨a, _, vs, rfl, rfl, ok.fh _ _ h1, by omega, by omega, ?_, fun p hp => ?_⟩
    · rw [sizeLine_eq, r1.length]
      exact Nat.le_trans (Nat.mul_le_mul w3 (show Int.toNat _ ≤ 1000 by omega)) (by decide)
    · obtain ⟨st, rp⟩ := mk_list ok hp (r1.rep _)
      exact hq _ _ _ _ _ hw st rp
  · obtain ⟨a, vs, rfl, h1, r1⟩ := hx.tupleN
    have ey := hy.int
    subst ey
    obtain ⟨⟨w0, w1, w2, w3⟩, hw⟩ := hw
    have hT := sqT_mono (K := X.K) (ok.gf.trans ok.fh) h1.sqT
    have hne : vs ≠ [] := fun e => by
      subst e
      cases r1
      exact w3 rfl
    rename_i k
    by_cases hk : k = 1
    · subst hk
      cases rx
      obtain ⟨t, rfl⟩ := ry
      obtain ⟨its, r, ⟨⟨cls, dd, data, sl⟩, ho, hc, n, hd⟩, hs⟩ := I.tuple hT
      simp only at hc hd
      subst hc hd
      refine wpAny_binaryOp_repeat_ref (T := "tuple") (U := "int") (by decide) ⟨_, ho, rfl⟩ (fun s' => typeIs_int s' 1 t) noFill_tuple_mul PySem.F.fills_int_mul PySem.F.slot_int_rmul repeat_tuple PySem.F.slot_int_index.lookup
        (call_meets PySem.F.slot_int_rmul (typeIs_int s 1 t) PySem.F.entry_int_rmul (PySem.F.args_int_rmul_2 _ _) (int_rmul_tuple 1 t a its.toArray n dd sl)
          ⟨ho, rfl, ⟨_, ho, rfl⟩, call_meets PySem.F.slot_tuple_mul ⟨_, ho, rfl⟩ PySem.F.entry_tuple_mul (PySem.F.args_tuple_mul_2 _ _) (tuple_mul1 a its.toArray n dd sl t) ⟨ho, ?_⟩⟩)
      refine ⟨.ref a, H, I, rfl, hq _ _ _ _ _ hw (.refl ok) ?_⟩
      simpa using Rp.tup h1 r1
    · cases rx
      obtain ⟨t, rfl⟩ := ry
      refine op_repN I hT hne (by omega) (by omega) (by rw [r1.length]; exact w2) fun p o hp ho => ?_
      obtain ⟨st, rp⟩ := mk_tup ho ok hp (r1.rep _)
      exact hq _ _ _ _ _ hw st rp
theorem op_divWW : OpR X (binaryOp .FloorDiv) (rW c divW) := by
  intro pins s σ H x y v u Q I rx ry ⟨G, F, d, e, P, ok, sz, hx, hy, hw, hq⟩
  cases d <;> try exact hw.elim
  cases e <;> try exact hw.elim
  have ex := hx.int
  have ey := hy.int
  subst ex ey
  obtain ⟨t, rfl⟩ := rx
  obtain ⟨t', rfl⟩ := ry
  exact floordiv_int hw.1.1 ⟨.int _, H, I.tok _, ⟨_, rfl⟩, hq _ _ _ _ _ hw.2 (.refl ok) (.int _)⟩ (.inl (PyProof.noPylong_of_log2 hw.1.2))
theorem op_modW : OpR X (binaryOp .Mod) (rW c modW) := by
  intro pins s σ H x y v u Q I rx ry ⟨G, F, d, e, P, ok, sz, hx, hy, hw, hq⟩
  cases d <;> try exact hw.elim
  cases e <;> try exact hw.elim
  have ex := hx.int
  have ey := hy.int
  subst ex ey
  exact op_modN pins s σ H _ _ v u Q I rx ry ⟨_, _, rfl, rfl, hw.1, hq _ _ _ _ _ hw.2 (.refl ok) (.int _)⟩
theorem op_powW : OpR X (binaryOp .Pow) (rW c powW) := by
  intro pins s σ H x y v u Q I rx ry ⟨G, F, d, e, P, ok, sz, hx, hy, hw, hq⟩
  cases d <;> try exact hw.elim
  cases e <;> try exact hw.elim
  have ex := hx.int
  have ey := hy.int
  subst ex ey
  exact op_pow pins s σ H _ _ v u Q I rx ry ⟨_, _, rfl, rfl, hw.1, hq _ _ _ _ _ hw.2 (.refl ok) (.int _)⟩
theorem op_shlW : OpR X (binaryOp .LShift) (rW c shlW) := by
  intro pins s σ H x y v u Q I rx ry ⟨G, F, d, e, P, ok, sz, hx, hy, hw, hq⟩
  cases d <;> try exact hw.elim
  cases e <;> try exact hw.elim
  have ex := hx.int
  have ey := hy.int
  subst ex ey
  exact op_shl pins s σ H _ _ v u Q I rx ry ⟨_, _, rfl, rfl, hw.1, hq _ _ _ _ _ hw.2 (.refl ok) (.int _)⟩
theorem op_shrW : OpR X (binaryOp .RShift) (rW c shrW) := by
  intro pins s σ H x y v u Q I rx ry ⟨G, F, d, e, P, ok, sz, hx, hy, hw, hq⟩
  cases d <;> try exact hw.elim
  cases e <;> try exact hw.elim
  have ex := hx.int
  have ey := hy.int
  subst ex ey
  exact op_shr pins s σ H _ _ v u Q I rx ry ⟨_, _, rfl, rfl, hw.1, hq _ _ _ _ _ hw.2 (.refl ok) (.int _)⟩
theorem op_andW : OpR X (binaryOp .BitAnd) (rW c andW) := by
  intro pins s σ H x y v u Q I rx ry ⟨G, F, d, e, P, ok, sz, hx, hy, hw, hq⟩
  cases d <;> try exact hw.elim
  cases e <;> try exact hw.elim
  have ex := hx.int
  have ey := hy.int
  subst ex ey
  exact op_and pins s σ H _ _ v u Q I rx ry ⟨_, _, rfl, rfl, hq _ _ _ _ _ hw (.refl ok) (.int _)⟩
/-! comparisons -/
theorem op_ltW : OpR X (compareOp .Lt) (rW c fun d e => valB (ltW d e)) := by
  intro pins s σ H x y v u Q I rx ry ⟨G, F, d, e, P, ok, sz, hx, hy, hw, hq⟩
  cases d <;> try exact hw.elim
  cases e <;> try exact hw.elim
  have ex := hx.int
  have ey := hy.int
  subst ex ey
  exact op_lt pins s σ H _ _ v u Q I rx ry ⟨_, _, rfl, rfl, hq _ _ _ _ _ hw (.refl ok) (.bl _)⟩
theorem op_leW : OpR X (compareOp .LtE) (rW c fun d e => valB (leW d e)) := by
  intro pins s σ H x y v u Q I rx ry ⟨G, F, d, e, P, ok, sz, hx, hy, hw, hq⟩
  cases d <;> try exact hw.elim
  cases e <;> try exact hw.elim
  have ex := hx.int
  have ey := hy.int
  subst ex ey
  exact op_le pins s σ H _ _ v u Q I rx ry ⟨_, _, rfl, rfl, hq _ _ _ _ _ hw (.refl ok) (.bl _)⟩
theorem op_gtW : OpR X (compareOp .Gt) (rW c fun d e => valB (gtW d e)) := by
  intro pins s σ H x y v u Q I rx ry ⟨G, F, d, e, P, ok, sz, hx, hy, hw, hq⟩
  cases d <;> try exact hw.elim
  cases e <;> try exact hw.elim
  have ex := hx.int
  have ey := hy.int
  subst ex ey
  exact op_gt pins s σ H _ _ v u Q I rx ry ⟨_, _, rfl, rfl, hq _ _ _ _ _ hw (.refl ok) (.bl _)⟩
theorem op_geW : OpR X (compareOp .GtE) (rW c fun d e => valB (geW d e)) := by
  intro pins s σ H x y v u Q I rx ry ⟨G, F, d, e, P, ok, sz, hx, hy, hw, hq⟩
  cases d <;> try exact hw.elim
  cases e <;> try exact hw.elim
  have ex := hx.int
  have ey := hy.int
  subst ex ey
  exact op_ge pins s σ H _ _ v u Q I rx ry ⟨_, _, rfl, rfl, hq _ _ _ _ _ hw (.refl ok) (.bl _)⟩
theorem op_eqW (hu : X.A.units + 64 < cLine) : OpR X (compareOp .Eq) (rW c fun d e => valB (eqW d e)) := by
  intro pins s σ H x y v u Q I rx ry ⟨G, F, d, e, P, ok, sz, hx, hy, hw, hq⟩
  exact op_eqD hu pins s σ H _ _ v u Q I rx ry ⟨_, _, hK ▸ ((hx.rpF ok.gf).mono ok.fh).dp (SeqAt.canLay_of_shaped hw.1), hK ▸ ((hy.rpF ok.gf).mono ok.fh).dp (SeqAt.canLay_of_shaped hw.2.1), hw.1, hw.2.1, hq _ _ _ _ _ hw.2.2 (.refl ok) (.bl _)⟩
theorem op_neW (hu : X.A.units + 64 < cLine) : OpR X (compareOp .NotEq) (rW c fun d e => valB (notB (eqW d e))) := by
  intro pins s σ H x y v u Q I rx ry ⟨G, F, d, e, P, ok, sz, hx, hy, hw, hq⟩
  exact op_neD hu pins s σ H _ _ v u Q I rx ry ⟨_, _, hK ▸ ((hx.rpF ok.gf).mono ok.fh).dp (SeqAt.canLay_of_shaped hw.1), hK ▸ ((hy.rpF ok.gf).mono ok.fh).dp (SeqAt.canLay_of_shaped hw.2.1), hw.1, hw.2.1, hq _ _ _ _ _ hw.2.2 (.refl ok) (.bl _)⟩
theorem op_isW : OpR X (compareOp .Is) (rW c fun d e P => e = .none ∧ P (.bool (isNone d))) := by
  intro pins s σ H x y v u Q I rx ry ⟨G, F, d, e, P, ok, sz, hx, hy, ⟨he, hw⟩, hq⟩
  subst he
  refine op_isN pins s σ H _ _ v u Q I rx ry ⟨hy.none, hq _ _ _ _ _ hw (.refl ok) ?_⟩
  have e1 : decide (x = .non) = isNone d := by
    cases hx with
    | rp h => cases h <;> simp [isNone]
    | own => simp [isNone]
  rw [e1]
  exact .bl _
theorem op_isnW : OpR X (compareOp .IsNot) (rW c fun d e P => e = .none ∧ P (.bool (!isNone d))) := by
  intro pins s σ H x y v u Q I rx ry ⟨G, F, d, e, P, ok, sz, hx, hy, ⟨he, hw⟩, hq⟩
  subst he
  refine op_notN pins s σ H _ _ v u Q I rx ry ⟨hy.none, hq _ _ _ _ _ hw (.refl ok) ?_⟩
  have e1 : decide (x = .non) = isNone d := by
    cases hx with
    | rp h => cases h <;> simp [isNone]
    | own => simp [isNone]
  rw [e1]
  exact .bl _
theorem op_inW (hu : X.A.units + 65 < cLine) : OpR X (compareOp .In) (rW c fun d e => valB (inW d e)) := by
  intro pins s σ H x y v u Q I rx ry ⟨G, F, d, e, P, ok, sz, hx, hy, hw, hq⟩
  obtain ⟨as, ra, _⟩ := Rp.reads I sz.1 (hK ▸ (hx.rpF ok.gf).mono ok.fh) rx
  obtain ⟨bs, rb, _⟩ := Rp.reads I sz.1 (hK ▸ (hy.rpF ok.gf).mono ok.fh) ry
  cases e <;> try exact hw.elim
  · exact SeqAt.in_list_reads rb ra hw.2.1 (SeqAt.canLay_of_shaped hw.1) (room_in_shaped hw.1 hu) ⟨.bl _, H, I, rfl, hq _ _ _ _ _ hw.2.2 (.refl ok) (.bl _)⟩
  · exact SeqAt.in_tuple_reads rb ra hw.2.1 (SeqAt.canLay_of_shaped hw.1) (room_in_shaped hw.1 hu) ⟨.bl _, H, I, rfl, hq _ _ _ _ _ hw.2.2 (.refl ok) (.bl _)⟩
theorem op_notInW (hu : X.A.units + 65 < cLine) : OpR X (compareOp .NotIn) (rW c fun d e => valB (notB (inW d e))) := by
  intro pins s σ H x y v u Q I rx ry ⟨G, F, d, e, P, ok, sz, hx, hy, hw, hq⟩
  obtain ⟨as, ra, _⟩ := Rp.reads I sz.1 (hK ▸ (hx.rpF ok.gf).mono ok.fh) rx
  obtain ⟨bs, rb, _⟩ := Rp.reads I sz.1 (hK ▸ (hy.rpF ok.gf).mono ok.fh) ry
  cases e <;> try exact hw.elim
  · exact SeqAt.notIn_list_reads rb ra hw.2.1 (SeqAt.canLay_of_shaped hw.1) (room_in_shaped hw.1 hu) ⟨.bl _, H, I, rfl, hq _ _ _ _ _ hw.2.2 (.refl ok) (.bl _)⟩
  · exact SeqAt.notIn_tuple_reads rb ra hw.2.1 (SeqAt.canLay_of_shaped hw.1) (room_in_shaped hw.1 hu) ⟨.bl _, H, I, rfl, hq _ _ _ _ _ hw.2.2 (.refl ok) (.bl _)⟩
/-! index, slice -/
theorem ix_idxW : IxR X (rW c idxW) := by
  intro va sl pins s σ H x y v u Q I rx ry ⟨G, F, d, e, P, ok, sz, hx, hy, hw, hq⟩ hs
  cases d <;> try exact hw.elim
  all_goals (cases e <;> try exact hw.elim)
  · obtain ⟨a, vs, rfl, h1, r1⟩ := hx.list ok.gf
    have ey := hy.int
    subst ey
    obtain ⟨d, hd, hw⟩ := hw
    obtain ⟨z, hz, rz⟩ := r1.atI hd
    exact ix_list va sl pins s σ H _ _ v u Q I rx ry ⟨a, vs, _, z, rfl, rfl, .of (ok.fh _ _ h1), hz, hq _ _ _ _ _ hw (.refl ok) rz⟩ hs
  · obtain ⟨a, vs, rfl, h1, r1⟩ := hx.tuple
    have ey := hy.int
    subst ey
    obtain ⟨d, hd, hw⟩ := hw
    obtain ⟨z, hz, rz⟩ := r1.atI hd
    exact ix_tup va sl pins s σ H _ _ v u Q I rx ry ⟨a, vs, _, z, rfl, rfl, sqT_mono (ok.gf.trans ok.fh) (hK ▸ h1), hz, hq _ _ _ _ _ hw (.refl ok) rz⟩ hs
def rSl (c : Ctl) : V → Option Int → Option Int → Hp → VK → Prop := fun x lo hi H Q => ∃ G F d P, Ok c.S G F H ∧ RpU c.K G F x d ∧ sliceW d lo hi P ∧
  ∀ d' v G' F' H', P d' → Stp c.S G F H G' F' H' → Rp c.K G' v d' → Q v H'
theorem sl_sliceW : SlR X (rSl c) := by
  intro pins s σ H x v vl vu lo hi sl Q I rx hs pl pu ⟨G, F, d, P, ok, hx, hw, hq⟩
  cases d <;> try exact hw.elim
  · obtain ⟨a, vs, rfl, h1, r1⟩ := hx.list ok.gf
    refine sl_list pins s σ H _ v vl vu lo hi sl Q I rx hs pl pu ⟨a, vs, rfl, .of (ok.fh _ _ h1), fun p hp => ?_⟩
    obtain ⟨st, rp⟩ := mk_list ok hp (r1.cut lo hi)
    exact hq _ _ _ _ _ hw st rp
  · obtain ⟨a, vs, rfl, h1, r1⟩ := hx.tupleN
    refine sl_tupN pins s σ H _ v vl vu lo hi sl Q I rx hs pl pu ⟨a, vs, rfl, sqT_mono (ok.gf.trans ok.fh) h1.sqT, fun h => ?_, fun h p o hp ho => ?_⟩
    · have hw : P (.tuple (cutD _ lo hi)) := hw
      rw [cut_all r1.length h] at hw
      exact hq _ _ _ _ _ hw (.refl ok) (.tup h1 r1)
    · obtain ⟨st, rp⟩ := mk_tup ho ok hp (r1.cut lo hi)
      exact hq _ _ _ _ _ hw st rp
theorem truV_of {G F H : Hp} {x : V} {d : D} {b : Bool → Prop} (ok : Ok c.S G F H) (hx : RpU c.K G F x d) (hw : truthW d b) : ∃ k, TruV X.K x H k ∧ b k := by
  cases d <;> try exact hw.elim
  · have := hx.none; subst this; exact ⟨_, rfl, hw⟩
  · have := hx.bool; subst this; exact ⟨_, rfl, hw⟩
  · have := hx.int; subst this; exact ⟨_, rfl, hw⟩
  · obtain ⟨a, vs, rfl, h1, r1⟩ := hx.list ok.gf
    refine ⟨_, .inl ⟨vs, .of (ok.fh _ _ h1), rfl⟩, ?_⟩
    cases r1 <;> exact hw
  · obtain ⟨a, vs, rfl, h1, r1⟩ := hx.tuple
    refine ⟨_, .inr (.inl ⟨vs, sqT_mono (ok.gf.trans ok.fh) (hK ▸ h1), rfl⟩), ?_⟩
    cases r1 <;> exact hw
end
end Mi

set_option Elab.async false
set_option linter.all false
set_option maxRecDepth 100000
set_option maxHeartbeats 4000000
namespace Mi
open PySem PySem.Spec PyProof.Rows L2

inductive Ty where
  | int | bool | tuple | str | list | dict
  deriving DecidableEq
def Ty.name : Ty → String
  | .int => "int" | .bool => "bool" | .tuple => "tuple" | .str => "str" | .list => "list" | .dict => "dict"
def tyD : D → String
  | .none => "NoneType" | .bool _ => "bool" | .int _ => "int" | .str _ => "str" | .list _ => "list" | .tuple _ => "tuple" | .dict _ => "dict"
def isD : Ty → D → Bool
  | .int, .int _ => true
  | .int, .bool _ => true
  | .bool, .bool _ => true
  | .tuple, .tuple _ => true
  | .str, .str _ => true
  | .list, .list _ => true
  | .dict, .dict _ => true
  | _, _ => false
theorem kit_isD (T : Ty) (d : D) : kitB (tyD d) T.name = some (isD T d) := by
  cases T <;> cases d <;> simp only [tyD, Ty.name, isD] <;> decide +kernel

def intsOf : List D → Option (List Int)
  | [] => some []
  | .int i :: r => (intsOf r).map (i :: ·)
  | _ :: _ => none
theorem intsOf_map (ns : List Int) : intsOf (ns.map PyData.int) = some ns := by
  induction ns with
  | nil => rfl
  | cons n r ih => simp [intsOf, ih]
theorem intsOf_eq : ∀ {ds : List D} {ns : List Int}, intsOf ds = some ns → ds = ns.map PyData.int
  | [], _, h => by simp [intsOf] at h; subst h; rfl
  | .int i :: r, ns, h => by
    simp only [intsOf, Option.map_eq_some_iff] at h
    obtain ⟨ms, h1, rfl⟩ := h
    rw [intsOf_eq h1]; rfl
  | .none :: _, _, h => by simp [intsOf] at h
  | .bool _ :: _, _, h => by simp [intsOf] at h
  | .str _ :: _, _, h => by simp [intsOf] at h
  | .list _ :: _, _, h => by simp [intsOf] at h
  | .tuple _ :: _, _, h => by simp [intsOf] at h
  | .dict _ :: _, _, h => by simp [intsOf] at h
def boolsOf : List D → Option (List Bool)
  | [] => some []
  | .bool i :: r => (boolsOf r).map (i :: ·)
  | _ :: _ => none
theorem boolsOf_map (ns : List Bool) : boolsOf (ns.map PyData.bool) = some ns := by
  induction ns with
  | nil => rfl
  | cons n r ih => simp [boolsOf, ih]
theorem boolsOf_eq : ∀ {ds : List D} {ns : List Bool}, boolsOf ds = some ns → ds = ns.map PyData.bool
  | [], _, h => by simp [boolsOf] at h; subst h; rfl
  | .bool i :: r, ns, h => by
    simp only [boolsOf, Option.map_eq_some_iff] at h
    obtain ⟨ms, h1, rfl⟩ := h
    rw [boolsOf_eq h1]; rfl
  | .none :: _, _, h => by simp [boolsOf] at h
  | .int _ :: _, _, h => by simp [boolsOf] at h
  | .str _ :: _, _, h => by simp [boolsOf] at h
  | .list _ :: _, _, h => by simp [boolsOf] at h
  | .tuple _ :: _, _, h => by simp [boolsOf] at h
  | .dict _ :: _, _, h => by simp [boolsOf] at h

/-! ### the built-in functions, over plain data -/
def lenW : List D → W D
  | [.list xs], P => P (.int xs.length)
  | [.tuple xs], P => P (.int xs.length)
  | [.str x], P => x.length ≤ 16777216 ∧ P (.int x.length)
  | _, _ => False
def intW : List D → W D
  | [.int i], P => P (.int i)
  | [.bool b], P => P (.int (if b then 1 else 0))
  | _, _ => False
def tupleW : List D → W D
  | [.list xs], P => P (.tuple xs)
  | [.tuple xs], P => P (.tuple xs)
  | _, _ => False
def listW : List D → W D
  | [.list xs], P => P (.list xs)
  | [.tuple xs], P => P (.list xs)
  | _, _ => False
def sumW : List D → W D
  | [.list ds], P => ∃ ns, intsOf ds = some ns ∧ P (.int ns.sum)
  | _, _ => False
def allW : List D → W D
  | [.list ds], P => ∃ bs, boolsOf ds = some bs ∧ P (.bool (bs.all id))
  | _, _ => False
def absW : List D → W D
  | [.int i], P => P (.int (if i < 0 then -i else i))
  | _, _ => False
def max2W : List D → W D
  | [.int i, .int j], P => P (.int (if j > i then j else i))
  | _, _ => False
def min2W : List D → W D
  | [.int i, .int j], P => P (.int (if j < i then j else i))
  | _, _ => False
def maxLW : List D → W D
  | [.list ds], P => ∃ ns, intsOf ds = some ns ∧ 0 < ns.length ∧ ∀ m, m ∈ ns → (∀ y, y ∈ ns → y ≤ m) → P (.int m)
  | _, _ => False
def minLW : List D → W D
  | [.list ds], P => ∃ ns, intsOf ds = some ns ∧ 0 < ns.length ∧ ∀ m, m ∈ ns → (∀ y, y ∈ ns → m ≤ y) → P (.int m)
  | _, _ => False
def reprW : List D → W D
  | [d], P => (d.showable = true ∧ d.shown.length ≤ 16777216 ∧ d.depth ≤ 60) ∧ P (.str d.shown)
  | _, _ => False
def gcdW : List D → W D
  | [.int i, .int j], P => P (.int (Nat.gcd i.natAbs j.natAbs : Nat))
  | _, _ => False
def sortW (rev : Bool) : List D → W D
  | [.list ds], P => (PySem.W.AllAlike ds ∧ PySem.W.Sortable ds ∧ ∀ d ∈ ds, d.depth ≤ 60) ∧ P (.list (ds.mergeSort (PySem.W.dataLe rev id)))
  | _, _ => False

def rC (c : Ctl) (w : List D → W D) : List V → Hp → VK → Prop := fun xs H Q => ∃ G F ds P, Ok c.S G F H ∧ Sz c.K H ∧ RpUs c.K G F xs ds ∧ w ds P ∧
  ∀ d v G' F' H', P d → Stp c.S G F H G' F' H' → Rp c.K G' v d → Q v H'
theorem RpUs.one {K : PySem.W.Frag} {G F : Hp} {xs : List V} {d : D} (h : RpUs K G F xs [d]) : ∃ x, xs = [x] ∧ RpU K G F x d := by
  cases h with
  | cons h r => cases r; exact ⟨_, rfl, h⟩
theorem RpUs.two {K : PySem.W.Frag} {G F : Hp} {xs : List V} {d e : D} (h : RpUs K G F xs [d, e]) : ∃ x y, xs = [x, y] ∧ RpU K G F x d ∧ RpU K G F y e := by
  cases h with
  | cons h r => cases r with
    | cons h' r => cases r; exact ⟨_, _, rfl, h, h'⟩
section
variable {X : Cx} {c : Ctl} (hK : c.K = X.K)
include hK
theorem cr_intW : CallR X (.type "int") (rC c intW) := by
  intro pins s σ H xs us Q I r ⟨G, F, ds, P, ok, sz, hx, hw, hq⟩
  match ds, hw with
  | [.int i], hw =>
    obtain ⟨x, rfl, h0⟩ := hx.one
    have := h0.int; subst this
    exact call_int1 pins s σ H _ us Q I r (.inl ⟨i, rfl, hq _ _ _ _ _ hw (.refl ok) (.int _)⟩)
  | [.bool b], hw =>
    obtain ⟨x, rfl, h0⟩ := hx.one
    have := h0.bool; subst this
    exact call_int1 pins s σ H _ us Q I r (.inr ⟨b, rfl, hq _ _ _ _ _ hw (.refl ok) (.int _)⟩)
theorem cr_lenW : CallR X (.builtin "len") (rC c lenW) := by
  intro pins s σ H xs us Q I r ⟨G, F, ds, P, ok, sz, hx, hw, hq⟩
  match ds, hw with
  | [.list ds], hw =>
    obtain ⟨x, rfl, h0⟩ := hx.one
    obtain ⟨a, vs, rfl, h1, r1⟩ := h0.list ok.gf
    exact call_len_seq pins s σ H _ us Q I r ⟨a, vs, rfl, .inl (.of (ok.fh _ _ h1)), by rw [r1.length]; exact hq _ _ _ _ _ hw (.refl ok) (.int _)⟩
  | [.tuple ds], hw =>
    obtain ⟨x, rfl, h0⟩ := hx.one
    obtain ⟨a, vs, rfl, h1, r1⟩ := h0.tuple
    exact call_len_seq pins s σ H _ us Q I r ⟨a, vs, rfl, .inr (sqT_mono (ok.gf.trans ok.fh) (hK ▸ h1)), by rw [r1.length]; exact hq _ _ _ _ _ hw (.refl ok) (.int _)⟩
  | [.str z], hw =>
    obtain ⟨x, rfl, h0⟩ := hx.one
    have := h0.str; subst this
    exact call_len_str pins s σ H _ us Q I r ⟨z, rfl, by rw [sizeLine_eq]; exact hw.1, hq _ _ _ _ _ hw.2 (.refl ok) (.int _)⟩
theorem cr_tupleW : CallR X (.type "tuple") (rC c tupleW) := by
  intro pins s σ H xs us Q I r ⟨G, F, ds, P, ok, sz, hx, hw, hq⟩
  match ds, hw with
  | [.list ds], hw =>
    obtain ⟨x, rfl, h0⟩ := hx.one
    obtain ⟨a, vs, rfl, h1, r1⟩ := h0.list ok.gf
    obtain ⟨u, rfl, ru⟩ := vals1 r
    cases ru
    obtain ⟨its, rv, pl, hz⟩ := I.list (.of (ok.fh _ _ h1))
    refine call_tuple_list pl.isList (fun h' hk => ?_) (by rw [List.size_toArray, ← rv.length]; exact hz)
    have I1 : Inv X pins σ H { s with heap := h' } := I.kept (t' := s.toks) hk
    refine got_tup (s := { s with heap := h' }) (t' := s.toks) (fun p o hp ho => ?_) I1 (fun b o e => Heap.get?_push_of_some _ e) (Nat.le_refl _) hz rv (Heap.get?_push_size _ rfl)
    obtain ⟨st, rp⟩ := mk_tup ho ok hp r1
    exact hq _ _ _ _ _ hw st rp
  | [.tuple ds], hw =>
    obtain ⟨x, rfl, h0⟩ := hx.one
    obtain ⟨a, vs, rfl, h1, r1⟩ := h0.tupleN
    exact call_tuple_of pins s σ H _ us Q I r ⟨a, vs, rfl, .inr ⟨sqT_mono (ok.gf.trans ok.fh) h1.sqT, hq _ _ _ _ _ hw (.refl ok) (.tup h1 r1)⟩⟩
theorem cr_listW : CallR X (.type "list") (rC c listW) := by
  intro pins s σ H xs us Q I r ⟨G, F, ds, P, ok, sz, hx, hw, hq⟩
  match ds, hw with
  | [.list ds], hw =>
    obtain ⟨x, rfl, h0⟩ := hx.one
    obtain ⟨a, vs, rfl, h1, r1⟩ := h0.list ok.gf
    refine call_list_of pins s σ H _ us Q I r ⟨a, vs, rfl, .inl (.of (ok.fh _ _ h1)), fun p hp => ?_⟩
    obtain ⟨st, rp⟩ := mk_list ok hp r1
    exact hq _ _ _ _ _ hw st rp
  | [.tuple ds], hw =>
    obtain ⟨x, rfl, h0⟩ := hx.one
    obtain ⟨a, vs, rfl, h1, r1⟩ := h0.tuple
    refine call_list_of pins s σ H _ us Q I r ⟨a, vs, rfl, .inr (sqT_mono (ok.gf.trans ok.fh) (hK ▸ h1)), fun p hp => ?_⟩
    obtain ⟨st, rp⟩ := mk_list ok hp r1
    exact hq _ _ _ _ _ hw st rp
theorem cr_sumW (hc : X.calm = true) : CallR X (.builtin "sum") (rC c sumW) := by
  intro pins s σ H xs us Q I r ⟨G, F, ds, P, ok, sz, hx, hw, hq⟩
  match ds, hw with
  | [.list ds], ⟨ns, e, hw⟩ =>
    obtain ⟨x, rfl, h0⟩ := hx.one
    obtain ⟨a, vs, rfl, h1, r1⟩ := h0.list ok.gf
    have e2 := intsOf_eq e
    subst e2
    have e3 := r1.of_ints
    subst e3
    exact cr_sum hc pins s σ H _ us Q I r ⟨a, ns, rfl, .of (ok.fh _ _ h1), hq _ _ _ _ _ hw (.refl ok) (.int _)⟩
theorem cr_allW (hc : X.calm = true) : CallR X (.builtin "all") (rC c allW) := by
  intro pins s σ H xs us Q I r ⟨G, F, ds, P, ok, sz, hx, hw, hq⟩
  match ds, hw with
  | [.list ds], ⟨ns, e, hw⟩ =>
    obtain ⟨x, rfl, h0⟩ := hx.one
    obtain ⟨a, vs, rfl, h1, r1⟩ := h0.list ok.gf
    have e2 := boolsOf_eq e
    subst e2
    have e3 := r1.of_bools
    subst e3
    exact cr_all hc pins s σ H _ us Q I r ⟨a, ns, rfl, .of (ok.fh _ _ h1), hq _ _ _ _ _ hw (.refl ok) (.bl _)⟩
theorem cr_absW : CallR X (.builtin "abs") (rC c absW) := by
  intro pins s σ H xs us Q I r ⟨G, F, ds, P, ok, sz, hx, hw, hq⟩
  match ds, hw with
  | [.int i], hw =>
    obtain ⟨x, rfl, h0⟩ := hx.one
    have := h0.int; subst this
    exact call_abs pins s σ H _ us Q I r ⟨i, rfl, hq _ _ _ _ _ hw (.refl ok) (.int _)⟩
theorem cr_max2W (hc : X.calm = true) : CallR X (.builtin "max") (rC c max2W) := by
  intro pins s σ H xs us Q I r ⟨G, F, ds, P, ok, sz, hx, hw, hq⟩
  match ds, hw with
  | [.int i, .int j], hw =>
    obtain ⟨x, y, rfl, hx, hy⟩ := hx.two
    have := hx.int; subst this
    have := hy.int; subst this
    exact call_max2 hc pins s σ H _ us Q I r ⟨i, j, rfl, hq _ _ _ _ _ hw (.refl ok) (.int _)⟩
theorem cr_min2W (hc : X.calm = true) : CallR X (.builtin "min") (rC c min2W) := by
  intro pins s σ H xs us Q I r ⟨G, F, ds, P, ok, sz, hx, hw, hq⟩
  match ds, hw with
  | [.int i, .int j], hw =>
    obtain ⟨x, y, rfl, hx, hy⟩ := hx.two
    have := hx.int; subst this
    have := hy.int; subst this
    exact call_min2 hc pins s σ H _ us Q I r ⟨i, j, rfl, hq _ _ _ _ _ hw (.refl ok) (.int _)⟩
theorem cr_maxLW (hc : X.calm = true) : CallR X (.builtin "max") (rC c maxLW) := by
  intro pins s σ H xs us Q I r ⟨G, F, ds, P, ok, sz, hx, hw, hq⟩
  match ds, hw with
  | [.list ds], ⟨ns, e, hn, hw⟩ =>
    obtain ⟨x, rfl, h0⟩ := hx.one
    obtain ⟨a, vs, rfl, h1, r1⟩ := h0.list ok.gf
    have e2 := intsOf_eq e
    subst e2
    have e3 := r1.of_ints
    subst e3
    exact cr_max hc pins s σ H _ us Q I r ⟨a, ns, rfl, .of (ok.fh _ _ h1), hn, fun m h1 h2 => hq _ _ _ _ _ (hw m h1 h2) (.refl ok) (.int _)⟩
theorem cr_minLW (hc : X.calm = true) : CallR X (.builtin "min") (rC c minLW) := by
  intro pins s σ H xs us Q I r ⟨G, F, ds, P, ok, sz, hx, hw, hq⟩
  match ds, hw with
  | [.list ds], ⟨ns, e, hn, hw⟩ =>
    obtain ⟨x, rfl, h0⟩ := hx.one
    obtain ⟨a, vs, rfl, h1, r1⟩ := h0.list ok.gf
    have e2 := intsOf_eq e
    subst e2
    have e3 := r1.of_ints
    subst e3
    exact cr_min hc pins s σ H _ us Q I r ⟨a, ns, rfl, .of (ok.fh _ _ h1), hn, fun m h1 h2 => hq _ _ _ _ _ (hw m h1 h2) (.refl ok) (.int _)⟩
theorem cr_gcdW : CallR X (.builtin "math.gcd") (rC c gcdW) := by
  intro pins s σ H xs us Q I r ⟨G, F, ds, P, ok, sz, hx, hw, hq⟩
  match ds, hw with
  | [.int i, .int j], hw =>
    obtain ⟨x, y, rfl, hx, hy⟩ := hx.two
    have := hx.int; subst this
    have := hy.int; subst this
    exact cr_gcd pins s σ H _ us Q I r ⟨i, j, rfl, hq _ _ _ _ _ hw (.refl ok) (.int _)⟩
theorem tyX_of {G F H : Hp} {x : V} {d : D} (ok : Ok c.S G F H) (hx : RpU c.K G F x d) : TyX X.K H x (.type (tyD d)) := by
  have h := (hx.rpF ok.gf).mono ok.fh
  rw [hK] at h
  cases h with
  | non => exact .base .non
  | bl b => exact .base (.bl b)
  | int i => exact .base (.int i)
  | str z => exact .base (.str z)
  | lst h _ => exact .base (.lst h)
  | tup h _ =>
    have h := SqN.sqT (K := X.K) h
    rcases h with (h | ⟨o, h⟩) | ⟨o, its, n, h, hc, _⟩
    · exact .base (.tup h)
    · exact .fTuple h
    · exact .kTuple h hc
  | dct h _ => exact .base (.dK h)
theorem cr_isiW (T : Ty) : CallR X (.builtin "isinstance") (fun xs H Q => ∃ x, xs = [x, .ty T.name] ∧ ∃ (G F : Hp) (d : D) (P : D → Prop), Ok c.S G F H ∧ RpU c.K G F x d ∧ P (PyData.bool (isD T d)) ∧
    ∀ d v G' F' H', P d → Stp c.S G F H G' F' H' → Rp c.K G' v d → Q v H') := by
  intro pins s σ H xs us Q I r ⟨x, e, G, F, d, P, ok, hx, hw, hq⟩
  subst e
  exact call_isi pins s σ H _ us Q I r ⟨x, .ty T.name, .type (tyD d), .type T.name, isD T d, rfl, .ty _, tyX_of hK ok hx, kit_ty (kit_isD T d), hq _ _ _ _ _ hw (.refl ok) (.bl _)⟩
theorem cr_reprW (hg : X.A.guards = some []) (hu : X.A.units + 64 < cLine) : CallR X (.builtin "repr") (rC c reprW) := by
  intro pins s σ H xs us Q I r ⟨G, F, ds, P, ok, sz, hx, hw, hq⟩
  match ds, hw with
  | [d], ⟨⟨hs, hz, hd⟩, hw⟩ =>
    obtain ⟨x, rfl, h0⟩ := hx.one
    obtain ⟨u, rfl, ru⟩ := vals1 r
    have hz : d.shown.length ≤ sizeLine := by rw [sizeLine_eq]; exact hz
    have h1 := (h0.rpF ok.gf).mono ok.fh
    rw [hK] at h1
    have fin : ∀ (h' : Heap) (t : Tok) (tk : Nat), (∀ b o, s.heap.get? b = some o → h'.get? b = some o) → EP X pins σ Q (.str d.shown t) { s with heap := h', toks := tk } := fun h' t tk k =>
      ⟨.str d.shown, H, I.kept k, ⟨_, rfl⟩, hq _ _ _ _ _ hw (.refl ok) (.str _)⟩
    obtain ⟨as, ra, na⟩ := Rp.reads I sz.1 h1 ru
    cases d with
    | none => cases h1; cases ru; exact PySem.P.repr_of_none (fin _ _ _ fun _ _ h => h)
    | bool b => cases h1; cases ru; exact PySem.P.repr_of_bool (fin _ _ _ fun _ _ h => h)
    | int i =>
      cases h1
      obtain ⟨t, rfl⟩ := ru
      exact PySem.P.repr_of_int (by simpa [PyData.showable] using hs) (fin _ _ _ fun _ _ h => h)
    | str z =>
      cases h1
      obtain ⟨t, rfl⟩ := ru
      exact PySem.P.repr_of_str (fin _ _ _ fun _ _ h => h) hz
    | list ds =>
      cases h1
      cases ru
      exact repr_of_reads' (prog := X.prog) (w := X.w) (h₀ := s.heap) ra hs (fun _ => na) hg (by omega) (fun _ _ h => h) (fun h' t tk k => fin h' t tk k) hz
    | tuple ds =>
      cases h1
      cases ru
      exact repr_of_reads' (prog := X.prog) (w := X.w) (h₀ := s.heap) ra hs (fun _ => na) hg (by omega) (fun _ _ h => h) (fun h' t tk k => fin h' t tk k) hz
    | dict ds =>
      cases h1
      cases ru
      exact repr_of_reads' (prog := X.prog) (w := X.w) (h₀ := s.heap) ra hs (fun _ => na) hg (by omega) (fun _ _ h => h) (fun h' t tk k => fin h' t tk k) hz
omit hK in
theorem each_reads {pins : List (Addr × Obj)} {σ : L2.St} {H : Hp} {s : Shared} (I : Inv X pins σ H s) (sy : H sysModules = none) : ∀ {vs : List V} {ds : List D} {us : List Value}, RpAll X.K H vs ds → Vals vs us →
    PySem.W.EachIs (fun u d => ∃ as, Reads s.heap u d as) us ds
  | _, _, _, .nil, .nil => .nil
  | _, _, _, .cons h q, .cons r rr => by
    obtain ⟨as, h1, _⟩ := Rp.reads I sy h r
    exact .cons ⟨as, h1⟩ (each_reads I sy q rr)
omit hK in
theorem vals_of_each {K : PySem.W.Frag} {G : Hp} : ∀ {us : List Value} {ds : List D}, PySem.W.EachIs (fun u d => ∃ v, L2.RelV v u ∧ Rp K G v d) us ds → ∃ vs, Vals vs us ∧ RpAll K G vs ds
  | _, _, .nil => ⟨[], .nil, .nil⟩
  | _, _, .cons ⟨v, h1, h2⟩ r => let ⟨vs, q1, q2⟩ := vals_of_each r; ⟨v :: vs, .cons h1 q1, .cons h2 q2⟩
omit hK in
theorem each_of_vals {K : PySem.W.Frag} {G : Hp} : ∀ {vs : List V} {us : List Value} {ds : List D}, RpAll K G vs ds → Vals vs us → PySem.W.EachIs (fun u d => ∃ v, L2.RelV v u ∧ Rp K G v d) us ds
  | _, _, _, .nil, .nil => .nil
  | _, _, _, .cons h q, .cons r rr => .cons ⟨_, r, h⟩ (each_of_vals q rr)
theorem cr_sortW (hu : X.A.units + 64 < cLine) : CallR X (.builtin "sorted") (rC c (sortW false)) := by
  intro pins s σ H xs us Q I r ⟨G, F, ds, P, ok, sz, hx, hw, hq⟩
  match ds, hw with
  | [.list ds], ⟨⟨w1, w2, w3⟩, hw⟩ =>
    obtain ⟨x, rfl, h0⟩ := hx.one
    obtain ⟨u, rfl, ru⟩ := vals1 r
    obtain ⟨a, vs, rfl, h1, r1⟩ := h0.list ok.gf
    cases ru
    obtain ⟨its, rv, pl, hz⟩ := I.list (.of (ok.fh _ _ h1))
    have hl : its.length = ds.length := by rw [← rv.length, r1.length]
    refine PySem.W.sorted_data (enc := id) pl.isList (each_of_vals r1 rv) (each_reads I sz.1 (hK ▸ r1.mono (ok.gf.trans ok.fh)) rv) (by simpa using w1) (by simpa using w2) (by rw [← hl, ← rv.length]; exact hz) (fun b hb => ?_) fun out ho he => ?_
    · have := w3 b hb
      show X.A.units + 2 + b.depth < cLine
      omega
    · obtain ⟨ws, q1, q2⟩ := vals_of_each he
      obtain ⟨ep, he'⟩ := PyProof.Rows.sortedAll_at s.heap its out.toArray
      have hp : H (s.heap.objs.size + 1) = none := I.hok.fresh (Nat.le_succ _)
      obtain ⟨st, rp⟩ := mk_list ok hp q2
      have hlen : ws.length ≤ sizeLine := by rw [q1.length, ho, ← hl, ← rv.length]; exact hz
      exact ⟨.ref _, upd H (s.heap.objs.size + 1) (.lst ws), I.laid (t' := s.toks) (fun _ _ => PyProof.Rows.sortedAll_old) (Nat.le_succ _) ⟨hlen, out, ep, q1, he'⟩, rfl, hq _ _ _ _ _ hw st rp⟩
/-- sorted(xs, reverse=True) -/
theorem call_sortR (hu : X.A.units + 64 < cLine) {pins : List (Addr × Obj)} {s : Shared} {σ : L2.St} {H : Hp} {xs : List V} {us : List Value} {Q : VK} (I : Inv X pins σ H s) (r : Vals xs us) (h : rC c (sortW true) xs H Q) :
    wpAny (model X.prog X.w) X.A (call (.builtin "sorted") us [(Str.ofString "reverse", .bool true)]) (EP X pins σ Q) X.xe s := by
  obtain ⟨G, F, ds, P, ok, sz, hx, hw, hq⟩ := h
  match ds, hw with
  | [.list ds], ⟨⟨w1, w2, w3⟩, hw⟩ =>
    obtain ⟨x, rfl, h0⟩ := hx.one
    obtain ⟨u, rfl, ru⟩ := vals1 r
    obtain ⟨a, vs, rfl, h1, r1⟩ := h0.list ok.gf
    cases ru
    obtain ⟨its, rv, pl, hz⟩ := I.list (.of (ok.fh _ _ h1))
    have hl : its.length = ds.length := by rw [← rv.length, r1.length]
    refine PySem.W.sorted_rev_data (enc := id) pl.isList (each_of_vals r1 rv) (each_reads I sz.1 (hK ▸ r1.mono (ok.gf.trans ok.fh)) rv) (by simpa using w1) (by simpa using w2) (by rw [← hl, ← rv.length]; exact hz) (fun b hb => ?_) fun out ho he => ?_
    · have := w3 b hb
      show X.A.units + 2 + b.depth < cLine
      omega
    · obtain ⟨ws, q1, q2⟩ := vals_of_each he
      obtain ⟨ep, he'⟩ := PyProof.Rows.sortedAll_at s.heap its out.toArray
      have hp : H (s.heap.objs.size + 1) = none := I.hok.fresh (Nat.le_succ _)
      obtain ⟨st, rp⟩ := mk_list ok hp q2
      have hlen : ws.length ≤ sizeLine := by rw [q1.length, ho, ← hl, ← rv.length]; exact hz
      exact ⟨.ref _, upd H (s.heap.objs.size + 1) (.lst ws), I.laid (t' := s.toks) (fun _ _ => PyProof.Rows.sortedAll_old) (Nat.le_succ _) ⟨hlen, out, ep, q1, he'⟩, rfl, hq _ _ _ _ _ hw st rp⟩
end
end Mi

set_option Elab.async false
set_option linter.all false
set_option maxRecDepth 100000
set_option maxHeartbeats 4000000
namespace Mi
open PySem PySem.Spec PyProof.Rows L2 HT
/-! ### t[::-1] of a tuple -/
section
variable {prog : Program} {w : World} {A : Around} {E : Value → Shared → Prop} {s : Shared}
theorem applied_rev {sl : Addr} {vs : Value} {n : Nat} {Q : Int × Int × Nat → Shared → Prop} (hs : s.heap.IsSliceOf sl .none .none vs) (ps : IsPart vs (some (-1)))
    (h : Q ((n : Int) - 1, -1, n) s) : wpAny (model prog w) A (Builtin.Slice.sliceApplied (.ref sl) (pure (n : Int))) Q E s := by
  obtain ⟨os, hos, hcs, hds⟩ := id hs
  unfold Builtin.Slice.sliceApplied Builtin.Slice.sliceFields
  refine wpAny_bind (wpAny_bind (wpAny_field hos hds (x := .none) rfl (wpAny_bind (wpAny_field hos hds (x := .none) rfl (wpAny_bind (wpAny_field hos hds (x := vs) rfl (wpAny_pure ?_)))))))
  refine wpAny_bind (slicePart_ ps ?_)
  show wpAny _ _ (if ((-1 : Int) == 0) = true then _ else _) _ _ s
  rw [if_neg (by decide)]
  refine wpAny_bind (slicePart_none (wpAny_bind (slicePart_none (wpAny_bind (wpAny_pure ?_)))))
  show wpAny _ _ (pure ((n : Int) - 1, (-1 : Int), Builtin.Slice.slicePlaces ((n : Int) - 1) (-1) (-1))) _ _ s
  have e : Builtin.Slice.slicePlaces ((n : Int) - 1) (-1) (-1) = n := by
    unfold Builtin.Slice.slicePlaces
    have h1 : ¬ ((-1 : Int) > 0) := by decide
    simp only [h1, if_false]
    rw [show (- -1 : Int) = 1 by decide, Int.ediv_one]
    split <;> omega
  rw [e]
  exact wpAny_pure h
theorem fm_congr {α β : Type} {f g : α → Option β} : ∀ {l : List α}, (∀ x ∈ l, f x = g x) → l.filterMap f = l.filterMap g
  | [], _ => rfl
  | x :: l, h => by
    rw [List.filterMap_cons, List.filterMap_cons, h x (by simp), fm_congr fun y hy => h y (by simp [hy])]
theorem pick_rev (xs : Array Value) : ((List.range xs.size).filterMap fun (m : Nat) => xs[((xs.size : Int) - 1 + (m : Int) * -1).toNat]?).toArray = xs.toList.reverse.toArray := by
  have e : (List.range xs.size).filterMap (fun (m : Nat) => xs[((xs.size : Int) - 1 + (m : Int) * -1).toNat]?) = ((List.range xs.size).map fun k => xs.size - 1 - k).filterMap (xs[·]?) := by
    rw [List.filterMap_map]
    refine fm_congr fun k hk => ?_
    have hk := List.mem_range.mp hk
    show xs[((xs.size : Int) - 1 + (k : Int) * -1).toNat]? = xs[xs.size - 1 - k]?
    congr 1
    omega
  rw [e, PySem.W.krv_range, List.filterMap_reverse, PySem.W.krv_all]
theorem get_rev {t sl : Addr} {items : Array Value} {vs : Value} {Q : Value → Shared → Prop} (ht : IsTup s.heap t items) (hs : s.heap.IsSliceOf sl .none .none vs) (ps : IsPart vs (some (-1)))
    (h : Q (.ref s.heap.objs.size) { s with heap := s.heap.push { cls := .type "tuple", data := .seq items.toList.reverse.toArray } }) (hsz : items.size ≤ sizeLine) : wpAny (model prog w) A (getItem (.ref t) (.ref sl)) Q E s := by
  have hfit : sizeOk (.seq items.toList.reverse.toArray) := by
    show items.toList.reverse.toArray.size ≤ sizeLine
    rw [List.size_toArray, List.length_reverse, Array.length_toList]
    exact hsz
  obtain ⟨os, hos, hcs, hds⟩ := id hs
  have hTs : s.TypeIs (.ref sl) "slice" := ⟨os, hos, hcs⟩
  unfold getItem
  try with_reducible refine wpAny_holding ?_
  first | refine wpAny_bind (wpAny_pure ?_) | skip
  refine wpAny_bind (wpAny_sequenceKey ht.typeIs (by decide) (wpAny_bind (wpAny_callSpecial?_slot (name := Str.ofString "__getitem__") ht.typeIs PyProof.Rows.slot_tuple_getitem (wpAny_call_entry PyProof.Rows.slot_tuple_getitem ht.typeIs entry_tuple_getitem (show wpAny _ _ (Builtin.Tuple.tupleItemsOf (.ref t) >>= _) _ _ s from ?_) (args_tuple_getitem _ _)))))
  refine wpAny_bind (tupleItemsOf_ ht (wpAny_bind (wpAny_typeOf hTs ?_)))
  rw [if_pos (by decide)]
  refine wpAny_bind (applied_rev hs ps ?_)
  have hno : ¬ ((((items.size : Int) - 1) == 0 && (-1 : Int) == 1 && items.size == items.size) = true) := by
    intro q
    rw [Bool.and_eq_true, Bool.and_eq_true] at q
    exact absurd q.1.2 (by decide)
  show wpAny _ _ (if (((items.size : Int) - 1) == 0 && (-1 : Int) == 1 && items.size == items.size) = true then _ else _) _ _ s
  rw [if_neg hno, pick_rev]
  first
    | exact wpAny_bind (m := Builtin.Tuple.tupleExact _) (wpAny_newObj_type (wpAny_pure ⟨_, rfl, wpAny_pure h⟩) hfit)
    | exact wpAny_bind (m := Builtin.Tuple.tupleExact _) (wpAny_newObj_type (wpAny_bind (wpAny_pure (wpAny_pure ⟨_, rfl, wpAny_pure h⟩))) hfit)
    | exact wpAny_bind (wpAny_bind (m := Builtin.Tuple.tupleExact _) (wpAny_newObj_type (wpAny_pure (wpAny_pure ⟨_, rfl, wpAny_pure h⟩)) hfit))
    | exact wpAny_bind (wpAny_bind (m := Builtin.Tuple.tupleExact _) (wpAny_newObj_type (wpAny_pure ⟨_, rfl, wpAny_pure h⟩) hfit))
end
def tRev (K : PySem.W.Frag) (te : TE) : TE := fun σ H Q => te σ H fun x H1 => (∃ a xs, x = .ref a ∧ SqL K H1 a xs ∧ ∀ p, H1 p = none → Q (.ref p) (upd H1 p (.lst xs.reverse))) ∨ ∃ a xs, x = .ref a ∧ SqT K H1 a xs ∧ NewT H1 Q xs.reverse
theorem pe_rev {X : Cx} {e : Expr} {te : TE} {k : Nat} {p1 p2 p3 pos : Pos} (he : PE X e te) : PE X (.Subscript e (.Slice none none (some (.UnaryOp .USub (.Constant (.int 1) k p1) p2)) p3) pos) (tRev X.K te) := by
  refine ⟨fun pins s σ H Q I h => ?_⟩
  refine Subscript_ (thn (he.run pins s σ H _ I h) fun v s1 ⟨x, H1, I1, r1, q1⟩ => ?_)
  have hst : PO X (some (.UnaryOp .USub (.Constant (.int 1) k p1) p2)) (tPart (tUn (rU fun i => .int (-i)) (tC (.int 1)))) := po_some (pe_un un_neg pe_int)
  refine wpAny_Slice (thn (po_none.run pins s1 σ H1 (fun o H2 => o = none ∧ H2 = H1) I1 ⟨rfl, rfl⟩) fun vl s2 ⟨l, H2, I2, pl, el, e2⟩ => ?_)
  subst el e2
  refine thn (po_none.run pins s2 σ H2 (fun o H3 => o = none ∧ H3 = H2) I2 ⟨rfl, rfl⟩) fun vu s3 ⟨u, H3, I3, pu, eu, e3⟩ => ?_
  subst eu e3
  refine thn (hst.run pins s3 σ H3 (fun o H4 => o = some (-1) ∧ H4 = H3) I3 ⟨1, rfl, -1, rfl, rfl, rfl⟩) fun vs s4 ⟨o, H4, I4, ps, eo, e4⟩ => ?_
  subst eo e4
  have I5 : Inv X pins σ H4 { s4 with heap := s4.heap.push { cls := .type "slice", data := .fields #[vl, vu, vs] } } := I4.kept (t' := s4.toks) fun b ob q => Heap.get?_push_of_some _ q
  rcases q1 with ⟨a, xs, ex, hx, q⟩ | ⟨a, xs, ex, hx, q⟩
  · subst ex
    cases r1
    obtain ⟨its, r, ht, hz⟩ := I5.list hx
    have hlen := r.length
    show wpAny (model X.prog X.w) X.A (subscriptTail e (.Slice none none (some (.UnaryOp .USub (.Constant (.int 1) k p1) p2)) p3) (.ref a) (.ref s4.heap.objs.size)) (EP X pins σ Q) X.xe { s4 with heap := s4.heap.push { cls := .type "slice", data := .fields #[vl, vu, vs] } }
    refine tail_any (ops := [.ref a, .ref s4.heap.objs.size]) ht.isList.typeIs (PySem.slot_list_getitem.lookup) ?_ (by with_unfolding_all rfl)
    refine wpAny_getItem_list_slice ht.isList (Heap.IsSliceOf.new _ vl vu vs) pl pu ps (by decide) ?_ (by rw [List.size_toArray]; omega)
    rw [PySem.W.krv_pick]
    refine ⟨.ref _, _, I5.laid (t' := s4.toks) (o := .lst xs.reverse) (fun b ob q => Heap.get?_push_of_some _ q) (Nat.le_refl _) ?_, rfl, q _ (I5.hok.fresh (Nat.le_refl _))⟩
    exact ⟨by rw [List.length_reverse]; exact hz, _, 0, r.reverse, Heap.get?_push_size _ rfl⟩
  · subst ex
    cases r1
    cases pl
    cases pu
    obtain ⟨its, r, ht, hz⟩ := I5.tuple hx
    have hlen := r.length
    show wpAny (model X.prog X.w) X.A (subscriptTail e (.Slice none none (some (.UnaryOp .USub (.Constant (.int 1) k p1) p2)) p3) (.ref a) (.ref s4.heap.objs.size)) (EP X pins σ Q) X.xe { s4 with heap := s4.heap.push { cls := .type "slice", data := .fields #[.none, .none, vs] } }
    refine tail_any (ops := [.ref a, .ref s4.heap.objs.size]) ht.typeIs PyProof.Rows.slot_tuple_getitem.lookup ?_ (by with_unfolding_all rfl)
    refine get_rev ht (Heap.IsSliceOf.new _ .none .none vs) ps ?_ (by rw [List.size_toArray]; omega)
    exact got_tup (t' := s4.toks) q I5 (fun b ob q => Heap.get?_push_of_some _ q) (Nat.le_refl _) (by rw [List.length_reverse]; exact hz) r.reverse (Heap.get?_push_size _ rfl)
end Mi

set_option Elab.async false
set_option linter.all false
set_option maxRecDepth 100000
set_option maxHeartbeats 4000000
namespace Mi
open PySem PySem.Spec PyProof.Rows L2

def SysOk (X : Cx) : Prop := ∃ o, X.base.get? sysModules = some o
theorem sz_of {X : Cx} {pins : List (Addr × Obj)} {σ : L2.St} {H : Hp} {s : Shared} (hs : SysOk X) (I : Inv X pins σ H s) : Sz X.K H := by
  obtain ⟨o, e⟩ := hs
  refine ⟨(I.bs _ o e).2, fun a xs h => ?_⟩
  rcases h with h | h
  · exact (I.list h).choose_spec.2.2
  · exact (I.tuple h).choose_spec.2.2
theorem _root_.L2.PE.of {X : Cx} {e : Expr} {t t' : TE} (h : PE X e t) (w : ∀ σ H Q, t' σ H Q → t σ H Q) : PE X e t' := ⟨fun pins s σ H Q I hw => h.run pins s σ H Q I (w σ H Q hw)⟩
theorem _root_.L2.PT.of {X : Cx} {e : Expr} {t t' : TT} (h : PT X e t) (w : ∀ σ H Q, t' σ H Q → t σ H Q) : PT X e t' := ⟨fun pins s σ H Q I hw => h.run pins s σ H Q I (w σ H Q hw)⟩
theorem _root_.L2.PW.of {X : Cx} {e : Expr} {t t' : TT} (h : PW X e t) (w : ∀ σ H Q, t' σ H Q → t σ H Q) : PW X e t' := ⟨fun wh pins s σ H Q I hw => h.run wh pins s σ H Q I (w σ H Q hw)⟩
theorem _root_.L2.PA.of {X : Cx} {e : List Expr} {t t' : TA} (h : PA X e t) (w : ∀ σ H Q, t' σ H Q → t σ H Q) : PA X e t' := ⟨fun pos pins s σ H Q I hw => h.run pos pins s σ H Q I (w σ H Q hw)⟩
theorem _root_.L2.PS.of {X : Cx} {e : Stmt} {t t' : TS} (h : PS X e t) (w : ∀ D σ H, t' D σ H → t D σ H) : PS X e t' := ⟨fun pins s σ H D I hw => h.run pins s σ H D I (w D σ H hw)⟩
theorem _root_.L2.PSs.of {X : Cx} {e : List Stmt} {t t' : TS} (h : PSs X e t) (w : ∀ D σ H, t' D σ H → t D σ H) : PSs X e t' := ⟨fun pins s σ H D I hw => h.run pins s σ H D I (w D σ H hw)⟩
theorem _root_.L2.PI.of {X : Cx} {tg e : Expr} {t t' : TI} (h : PI X tg e t) (w : ∀ σ H Q, t' σ H Q → t σ H Q) : PI X tg e t' := ⟨fun pins s σ H Q I hw => h.run pins s σ H Q I (w σ H Q hw)⟩

/-- tD without the sizes -/
def tD0 (c : Ctl) (cl : Bool) (f : Env → W D) : TE := fun σ H Q => ∃ env G F P, Rel c env G F σ H ∧ f env P ∧
  ∀ d v G' F' H', P d → Stp c.S G F H G' F' H' → RpU c.K G' F' v d → (cl = true → Rp c.K G' v d) → Q v H'
theorem tD_sz {X : Cx} {c : Ctl} {cl : Bool} {f : Env → W D} {e : Expr} (hK : c.K = X.K) (hs : SysOk X) (h : PE X e (tD0 c cl f)) : PE X e (tD c cl f) := by
  refine ⟨fun pins s σ H Q I ⟨env, G, F, P, R, hw, hq⟩ => ?_⟩
  refine thn (h.run pins s σ H (fun v H' => Sz X.K H' → Q v H') I ⟨env, G, F, P, R, hw, fun d v G' F' H' hp st ru hc sz => hq d v G' F' H' hp st ru hc (hK ▸ sz)⟩) fun u s1 ⟨v, H', I', r, q⟩ => ⟨v, H', I', r, q (sz_of hs I')⟩
def tAs0 (c : Ctl) (cl : Bool) (f : Env → W (List D)) : TA := fun σ H Q => ∃ env G F P, Rel c env G F σ H ∧ f env P ∧
  ∀ ds vs G' F' H', P ds → Stp c.S G F H G' F' H' → RpUs c.K G' F' vs ds → (cl = true → RpAll c.K G' vs ds) → Q vs H'
theorem tAs_sz {X : Cx} {c : Ctl} {cl : Bool} {f : Env → W (List D)} {es : List Expr} (hK : c.K = X.K) (hs : SysOk X) (h : PA X es (tAs0 c cl f)) : PA X es (tAs c cl f) := by
  refine ⟨fun pos pins s σ H Q I ⟨env, G, F, P, R, hw, hq⟩ => ?_⟩
  refine thn (h.run pos pins s σ H (fun v H' => Sz X.K H' → Q v H') I ⟨env, G, F, P, R, hw, fun d v G' F' H' hp st ru hc sz => hq d v G' F' H' hp st ru hc (hK ▸ sz)⟩) fun u s1 ⟨v, H', I', r, q⟩ => ⟨v, H', I', r, q (sz_of hs I')⟩
/-- an end of a clean value -/
theorem fin_c {c : Ctl} {cl : Bool} {G F H G1 F1 H1 G2 F2 H2 : Hp} {P : D → Prop} {Q : VK}
    (hq : ∀ d v G' F' H', P d → Stp c.S G F H G' F' H' → RpU c.K G' F' v d → (cl = true → Rp c.K G' v d) → Q v H') (st : Stp c.S G F H G1 F1 H1) :
    ∀ d' v G' F' H', P d' → Stp c.S G1 F1 H1 G' F' H' → Rp c.K G' v d' → Q v H' := fun d' v G' F' H' hp st2 rp => hq d' v G' F' H' hp (st.trans st2) (.rp rp) fun _ => rp
section
variable {X : Cx} {c : Ctl} {a b e : Expr} {pos : Pos} {cl1 cl2 cl3 : Bool} {f g h : Env → W D}

theorem je_var {i : Nat} {x : Str} (hN : X.N[i]? = some x) (hv : Vis X.env.scope x) (hd : (x == ("__debug__" : Str)) = false) (hcd : (x == ("__classdict__" : Str)) = false) :
    PE X (.Name x pos) (tD0 c true fun env P => ∃ d, env[i]? = some (.v d) ∧ P d) := by
  refine (pe_var hN hv hd hcd).of fun σ H Q ⟨env, G, F, P, R, ⟨d, he, hp⟩, hq⟩ => ?_
  obtain ⟨x, h1, h2⟩ := R.sl i _ he (by simp)
  exact ⟨x, h1, hq d x G F H hp (.refl R.ok) (.rp h2) fun _ => h2⟩
theorem je_lent {i : Nat} {x : Str} (hN : X.N[i]? = some x) (hv : Vis X.env.scope x) (hd : (x == ("__debug__" : Str)) = false) (hcd : (x == ("__classdict__" : Str)) = false) :
    PE X (.Name x pos) (tD0 c false fun env P => ∃ ds, (env[i]? = some (.own ds) ∨ env[i]? = some (.bor ds)) ∧ P (.list ds)) := by
  refine (pe_var hN hv hd hcd).of fun σ H Q ⟨env, G, F, P, R, ⟨ds, he, hp⟩, hq⟩ => ?_
  rcases he with he | he
  · obtain ⟨x, h1, a, vs, rfl, h2, h3, h4, h5⟩ := R.sl i _ he (by simp)
    exact ⟨_, h1, hq _ _ G F H hp (.refl R.ok) (.own h2 h5) fun z => nomatch z⟩
  · obtain ⟨x, h1, a, vs, rfl, h2, h3, h4⟩ := R.sl i _ he (by simp)
    exact ⟨_, h1, hq _ _ G F H hp (.refl R.ok) (.own h3 h4) fun z => nomatch z⟩
theorem je_const {d : D} {v : V} (hr : ∀ G, Rp c.K G v d) (h : PE X e (tC v)) : PE X e (tD0 c true fun _ P => P d) :=
  h.of fun σ H Q ⟨env, G, F, P, R, hp, hq⟩ => hq d v G F H hp (.refl R.ok) (.rp (hr G)) fun _ => hr G
theorem je_bin {op : Operator} {w : D → D → W D} (ho : OpR X (binaryOp op) (rW c w)) (ha : PE X a (tD c cl1 f)) (hb : PE X b (tD c cl2 g)) :
    PE X (.BinOp a op b pos) (tD0 c true fun env P => f env fun d => g env fun e => w d e P) := by
  refine (pe_op ho ha hb).of fun σ H Q ⟨env, G, F, P, R, hw, hq⟩ => ?_
  exact ⟨env, G, F, _, R, hw, fun d v G1 F1 H1 hd st1 ru1 _ sz1 => ⟨env, G1, F1, _, R.step st1, hd, fun e u G2 F2 H2 he st2 ru2 _ sz2 =>
    ⟨G2, F2, d, e, P, st2.ok, sz2, ru1.mono st2.g st2.f, ru2, he, fun d' v' G3 F3 H3 hp st3 rp => hq d' v' G3 F3 H3 hp ((st1.trans st2).trans st3) (.rp rp) fun _ => rp⟩⟩⟩
theorem je_cmp {op : CmpOp} {w : D → D → W D} (ho : OpR X (compareOp op) (rW c w)) (hm : behindInMarks op b = false) (ha : PE X a (tD c cl1 f)) (hb : PE X b (tD c cl2 g)) :
    PE X (.Compare a [op] [b] pos) (tD0 c true fun env P => f env fun d => g env fun e => w d e P) := by
  refine (pe_cmpR ho ha hb hm).of fun σ H Q ⟨env, G, F, P, R, hw, hq⟩ => ?_
  exact ⟨env, G, F, _, R, hw, fun d v G1 F1 H1 hd st1 ru1 _ sz1 => ⟨env, G1, F1, _, R.step st1, hd, fun e u G2 F2 H2 he st2 ru2 _ sz2 =>
    ⟨G2, F2, d, e, P, st2.ok, sz2, ru1.mono st2.g st2.f, ru2, he, fun d' v' G3 F3 H3 hp st3 rp => hq d' v' G3 F3 H3 hp ((st1.trans st2).trans st3) (.rp rp) fun _ => rp⟩⟩⟩
def onB (P : Bool → Prop) : D → Prop
  | .bool b => P b
  | _ => False
theorem bl_of {K : PySem.W.Frag} {G : Hp} {v : V} {b : Bool} (h : Rp K G v (.bool b)) : v = .bl b := by cases h; rfl
theorem jt_cmp {op : CmpOp} {w : D → D → W Bool} (ho : OpR X (compareOp op) (rW c fun d e => valB (w d e))) (hm : behindInMarks op b = false) (ha : PE X a (tD c cl1 f)) (hb : PE X b (tD c cl2 g)) :
    PT X (.Compare a [op] [b] pos) (tB c fun env P => f env fun d => g env fun e => w d e P) := by
  refine (pt_cmpR ho ha hb hm).of fun σ H Q ⟨env, G, F, P, R, hw, hq⟩ => ?_
  refine ⟨env, G, F, _, R, hw, fun d v G1 F1 H1 hd st1 ru1 _ sz1 => ⟨env, G1, F1, _, R.step st1, hd, fun e u G2 F2 H2 he st2 ru2 _ sz2 =>
    ⟨G2, F2, d, e, onB P, st2.ok, sz2, ru1.mono st2.g st2.f, ru2, ?_, fun d' v' G3 F3 H3 hp st3 rp => ?_⟩⟩⟩
  · exact he
  · cases d' <;> try exact hp.elim
    rename_i k
    exact ⟨k, bl_of rp, hq k G3 F3 H3 hp ((st1.trans st2).trans st3)⟩
/-- whether an expression's test is its value's truth -/
def plainTest : Expr → Bool
  | .BoolOp .. => false
  | .Compare .. => false
  | .UnaryOp .Not .. => false
  | .IfExp .. => false
  | .NamedExpr .. => false
  | _ => true
theorem plainTest_eq {e : Expr} {env : PySem.Env} (h : plainTest e = true) (whole : Sem Value) : isTrue e env whole = (do let v ← whole; standAt e.pos; holding [v] (truthy v)) := by
  cases e <;> first
    | rfl
    | (simp [plainTest] at h; done)
    | skip
  rename_i op _ _
  cases op <;> first | rfl | (simp [plainTest] at h; done)
theorem jt_truth (hK : c.K = X.K) (hp : plainTest e = true) (he : PE X e (tD c cl1 f)) : PT X e (tB c fun env P => f env fun d => truthW d P) := by
  refine (pt_truth he (plainTest_eq hp)).of fun σ H Q ⟨env, G, F, P, R, hw, hq⟩ => ?_
  refine ⟨env, G, F, _, R, hw, fun d v G1 F1 H1 hd st1 ru1 hc1 sz1 => ?_⟩
  obtain ⟨k, h1, h2⟩ := truV_of hK st1.ok ru1 hd
  exact ⟨k, h1, hq k G1 F1 H1 h2 st1⟩
theorem jt_not {t : Env → W Bool} (h : PT X e (tB c t)) : PT X (.UnaryOp .Not e pos) (tB c fun env => notB (t env)) := by
  refine (pt_not h).of fun σ H Q ⟨env, G, F, P, R, hw, hq⟩ => ?_
  exact ⟨env, G, F, _, R, hw, fun k G1 F1 H1 hk st => hq (!k) G1 F1 H1 hk st⟩
theorem jw_and1 {t : Env → W Bool} (h : PT X e (tB c t)) : PW X (.BoolOp .And [e] pos) (tB c t) := pw_and1 h
theorem jw_or1 {t : Env → W Bool} (h : PT X e (tB c t)) : PW X (.BoolOp .Or [e] pos) (tB c t) := pw_or1 h
def andT (t u : W Bool) : W Bool := fun P => t fun k => if k = true then u P else P false
def orT (t u : W Bool) : W Bool := fun P => t fun k => if k = true then P true else u P
theorem jw_and {t u : Env → W Bool} {rest : List Expr} (h : PT X a (tB c t)) (h' : PW X (.BoolOp .And (b :: rest) pos) (tB c u)) : PW X (.BoolOp .And (a :: b :: rest) pos) (tB c fun env => andT (t env) (u env)) := by
  refine (pw_and h h').of fun σ H Q ⟨env, G, F, P, R, hw, hq⟩ => ?_
  refine ⟨env, G, F, _, R, hw, fun k G1 F1 H1 hk st => ?_⟩
  cases k with
  | true => exact ⟨env, G1, F1, P, R.step st, hk, fun k G2 F2 H2 hk st2 => hq k G2 F2 H2 hk (st.trans st2)⟩
  | false => exact hq false G1 F1 H1 hk st
theorem jw_or {t u : Env → W Bool} {rest : List Expr} (h : PT X a (tB c t)) (h' : PW X (.BoolOp .Or (b :: rest) pos) (tB c u)) : PW X (.BoolOp .Or (a :: b :: rest) pos) (tB c fun env => orT (t env) (u env)) := by
  refine (pw_or h h').of fun σ H Q ⟨env, G, F, P, R, hw, hq⟩ => ?_
  refine ⟨env, G, F, _, R, hw, fun k G1 F1 H1 hk st => ?_⟩
  cases k with
  | false => exact ⟨env, G1, F1, P, R.step st, hk, fun k G2 F2 H2 hk st2 => hq k G2 F2 H2 hk (st.trans st2)⟩
  | true => exact hq true G1 F1 H1 hk st
/-- .. as values: all but the last are bools -/
def andV (t u : W D) : W D := fun P => t fun d => match d with
  | .bool true => u P
  | .bool false => P (.bool false)
  | _ => False
def orV (t u : W D) : W D := fun P => t fun d => match d with
  | .bool true => P (.bool true)
  | .bool false => u P
  | _ => False
def notV (t : W D) : W D := fun P => t fun d => match d with
  | .bool b => P (.bool (!b))
  | _ => False
theorem je_one {op : BoolOp} (h : PE X e (tD0 c true f)) : PE X (.BoolOp op [e] pos) (tD0 c true f) := pe_one h
theorem je_and {rest : List Expr} (h : PE X a (tD c cl1 f)) (h' : PE X (.BoolOp .And (b :: rest) pos) (tD c true g)) : PE X (.BoolOp .And (a :: b :: rest) pos) (tD0 c true fun env => andV (f env) (g env)) := by
  refine (pe_and h h').of fun σ H Q ⟨env, G, F, P, R, hw, hq⟩ => ?_
  refine ⟨env, G, F, _, R, hw, fun d v G1 F1 H1 hd st1 ru1 hc1 sz1 => ?_⟩
  cases d <;> try exact hd.elim
  rename_i k
  refine ⟨k, ru1.bool, ?_⟩
  cases k with
  | true => exact ⟨env, G1, F1, P, R.step st1, hd, fun d v G2 F2 H2 hd st2 ru hc _ => hq d v G2 F2 H2 hd (st1.trans st2) ru hc⟩
  | false => exact hq _ _ G1 F1 H1 hd st1 (.rp (.bl _)) fun _ => .bl _
theorem je_or {rest : List Expr} (h : PE X a (tD c cl1 f)) (h' : PE X (.BoolOp .Or (b :: rest) pos) (tD c true g)) : PE X (.BoolOp .Or (a :: b :: rest) pos) (tD0 c true fun env => orV (f env) (g env)) := by
  refine (pe_or h h').of fun σ H Q ⟨env, G, F, P, R, hw, hq⟩ => ?_
  refine ⟨env, G, F, _, R, hw, fun d v G1 F1 H1 hd st1 ru1 hc1 sz1 => ?_⟩
  cases d <;> try exact hd.elim
  rename_i k
  refine ⟨k, ru1.bool, ?_⟩
  cases k with
  | false => exact ⟨env, G1, F1, P, R.step st1, hd, fun d v G2 F2 H2 hd st2 ru hc _ => hq d v G2 F2 H2 hd (st1.trans st2) ru hc⟩
  | true => exact hq _ _ G1 F1 H1 hd st1 (.rp (.bl _)) fun _ => .bl _
theorem je_not (h : PE X e (tD c cl1 f)) : PE X (.UnaryOp .Not e pos) (tD0 c true fun env => notV (f env)) := by
  refine (pe_not h).of fun σ H Q ⟨env, G, F, P, R, hw, hq⟩ => ?_
  refine ⟨env, G, F, _, R, hw, fun d v G1 F1 H1 hd st1 ru1 hc1 sz1 => ?_⟩
  cases d <;> try exact hd.elim
  rename_i k
  exact ⟨k, ru1.bool, hq _ _ G1 F1 H1 hd st1 (.rp (.bl _)) fun _ => .bl _⟩
theorem je_neg (hK : c.K = X.K) (h : PE X e (tD c cl1 f)) : PE X (.UnaryOp .USub e pos) (tD0 c true fun env P => f env fun d => negW d P) := by
  refine (pe_un un_neg h).of fun σ H Q ⟨env, G, F, P, R, hw, hq⟩ => ?_
  refine ⟨env, G, F, _, R, hw, fun d v G1 F1 H1 hd st1 ru1 hc1 sz1 => ?_⟩
  cases d <;> try exact hd.elim
  exact ⟨_, ru1.int, hq _ _ G1 F1 H1 hd st1 (.rp (.int _)) fun _ => .int _⟩
def iteW (t : W Bool) (u v : W D) : W D := fun P => t fun k => if k = true then u P else v P
theorem je_ite {t : Env → W Bool} {k : Expr} (ht : PT X k (tB c t)) (ha : PE X a (tD c cl1 f)) (hb : PE X b (tD c cl2 g)) : PE X (.IfExp k a b pos) (tD0 c (cl1 && cl2) fun env => iteW (t env) (f env) (g env)) := by
  refine (pe_ifExp ht ha hb).of fun σ H Q ⟨env, G, F, P, R, hw, hq⟩ => ?_
  refine ⟨env, G, F, _, R, hw, fun k G1 F1 H1 hk st => ?_⟩
  cases k with
  | true =>
    refine ⟨env, G1, F1, P, R.step st, hk, fun d v G2 F2 H2 hd st2 ru hc _ => hq d v G2 F2 H2 hd (st.trans st2) ru fun z => hc ?_⟩
    simp only [Bool.and_eq_true] at z
    exact z.1
  | false =>
    refine ⟨env, G1, F1, P, R.step st, hk, fun d v G2 F2 H2 hd st2 ru hc _ => hq d v G2 F2 H2 hd (st.trans st2) ru fun z => hc ?_⟩
    simp only [Bool.and_eq_true] at z
    exact z.2
/-- a op b op' e -/
def chainW (w w' : D → D → W Bool) (f g h : W D) : W Bool := fun P => f fun x => g fun y => w x y fun k => if k = true then h fun z => w' y z P else P false
theorem je_chain {op op' : CmpOp} {w w' : D → D → W Bool} (ho : OpR X (compareOp op) (rW c fun d e => valB (w d e))) (ho' : OpR X (compareOp op') (rW c fun d e => valB (w' d e)))
    (hm : lastMarks [op, op'] [b, e] = false) (ha : PE X a (tD c cl1 f)) (hb : PE X b (tD c cl2 g)) (he : PE X e (tD c cl3 h)) :
    PE X (.Compare a [op, op'] [b, e] pos) (tD0 c true fun env => valB (chainW w w' (f env) (g env) (h env))) := by
  refine (pe_chain ho ho' ha hb he hm).of fun σ H Q ⟨env, G, F, P, R, hw, hq⟩ => ?_
  refine ⟨env, G, F, _, R, hw, fun d v G1 F1 H1 hd st1 ru1 _ sz1 => ⟨env, G1, F1, _, R.step st1, hd, fun e u G2 F2 H2 he st2 ru2 _ sz2 =>
    ⟨G2, F2, d, e, onB _, st2.ok, sz2, ru1.mono st2.g st2.f, ru2, he, fun d' v' G3 F3 H3 hp st3 rp => ?_⟩⟩⟩
  cases d' <;> try exact hp.elim
  rename_i k
  refine ⟨k, bl_of rp, ?_⟩
  have st := (st1.trans st2).trans st3
  cases k with
  | true =>
    refine ⟨env, G3, F3, _, R.step st, hp, fun z y G4 F4 H4 hz st4 ru4 _ sz4 => ⟨G4, F4, e, z, P, st4.ok, sz4, ru2.mono (st3.trans st4).g (st3.trans st4).f, ru4, hz, fun d5 v5 G5 F5 H5 h5 st5 rp5 => ?_⟩⟩
    exact hq d5 v5 G5 F5 H5 h5 ((st.trans st4).trans st5) (.rp rp5) fun _ => rp5
  | false => exact hq _ _ G3 F3 H3 hp st (.rp (.bl _)) fun _ => .bl _
theorem jt_chain {op op' : CmpOp} {w w' : D → D → W Bool} (ho : OpR X (compareOp op) (rW c fun d e => valB (w d e))) (ho' : OpR X (compareOp op') (rW c fun d e => valB (w' d e)))
    (hm : lastMarks [op, op'] [b, e] = false) (ha : PE X a (tD c cl1 f)) (hb : PE X b (tD c cl2 g)) (he : PE X e (tD c cl3 h)) :
    PT X (.Compare a [op, op'] [b, e] pos) (tB c fun env => chainW w w' (f env) (g env) (h env)) := by
  refine (pt_chain ho ho' ha hb he hm).of fun σ H Q ⟨env, G, F, P, R, hw, hq⟩ => ?_
  refine ⟨env, G, F, _, R, hw, fun d v G1 F1 H1 hd st1 ru1 _ sz1 => ⟨env, G1, F1, _, R.step st1, hd, fun e u G2 F2 H2 he st2 ru2 _ sz2 =>
    ⟨G2, F2, d, e, onB _, st2.ok, sz2, ru1.mono st2.g st2.f, ru2, he, fun d' v' G3 F3 H3 hp st3 rp => ?_⟩⟩⟩
  cases d' <;> try exact hp.elim
  rename_i k
  refine ⟨k, bl_of rp, ?_⟩
  have st := (st1.trans st2).trans st3
  cases k with
  | true =>
    refine ⟨env, G3, F3, _, R.step st, hp, fun z y G4 F4 H4 hz st4 ru4 _ sz4 => ⟨G4, F4, e, z, onB P, st4.ok, sz4, ru2.mono (st3.trans st4).g (st3.trans st4).f, ru4, hz, fun d5 v5 G5 F5 H5 h5 st5 rp5 => ?_⟩⟩
    cases d5 <;> try exact h5.elim
    rename_i k
    exact ⟨k, bl_of rp5, hq k G5 F5 H5 h5 ((st.trans st4).trans st5)⟩
  | false => exact ⟨false, rfl, hq _ G3 F3 H3 hp st⟩

/-! ### arguments, displays -/
theorem ja_nil : PA X [] (tAs0 c true fun _ P => P []) := by
  refine pa_nil.of fun σ H Q ⟨env, G, F, P, R, hw, hq⟩ => ?_
  exact hq [] [] G F H hw (.refl R.ok) .nil fun _ => .nil
theorem RpUs.mono {K : PySem.W.Frag} {G F G' F' : Hp} (g : Same G G') (f : Same F F') : ∀ {v : List V} {d : List D}, RpUs K G F v d → RpUs K G' F' v d
  | _, _, .nil => .nil
  | _, _, .cons h r => .cons (h.mono g f) (RpUs.mono g f r)
def notStar : Expr → Bool
  | .Starred .. => false
  | _ => true
theorem star_no {e : Expr} {es : List Expr} {env : PySem.Env} (h : notStar e = true) : starEach (e :: es) env = (false, eval e env) :: starEach es env := by
  cases e <;> first | rfl | (simp [notStar] at h; done)
theorem ja_cons {es : List Expr} {fs : Env → W (List D)} (hn : notStar e = true) (he : PE X e (tD c cl1 f)) (hes : PA X es (tAs0 c cl2 fs)) :
    PA X (e :: es) (tAs0 c (cl1 && cl2) fun env P => f env fun d => fs env fun ds => P (d :: ds)) := by
  refine (pa_cons he hes (star_no hn)).of fun σ H Q ⟨env, G, F, P, R, hw, hq⟩ => ?_
  refine ⟨env, G, F, _, R, hw, fun d v G1 F1 H1 hd st1 ru1 hc1 sz1 => ⟨env, G1, F1, _, R.step st1, hd, fun ds vs G2 F2 H2 hds st2 ru2 hc2 => hq _ _ G2 F2 H2 hds (st1.trans st2) (.cons (ru1.mono st2.g st2.f) ru2) fun z => ?_⟩⟩
  simp only [Bool.and_eq_true] at z
  exact .cons ((hc1 z.1).mono st2.g) (hc2 z.2)
def itemsW : D → W (List D)
  | .list xs, P => P xs
  | .tuple xs, P => P xs
  | _, _ => False
theorem RpUs.append {K : PySem.W.Frag} {G F : Hp} : ∀ {vs ws : List V} {ds es : List D}, RpUs K G F vs ds → RpUs K G F ws es → RpUs K G F (vs ++ ws) (ds ++ es)
  | _, _, _, _, .nil, q => q
  | _, _, _, _, .cons h r, q => .cons h (RpUs.append r q)
theorem RpAll.us {K : PySem.W.Frag} {G F : Hp} : ∀ {vs : List V} {ds : List D}, RpAll K G vs ds → RpUs K G F vs ds
  | _, _, .nil => .nil
  | _, _, .cons h r => .cons (.rp h) (RpAll.us r)
theorem ja_scons (hK : c.K = X.K) {es : List Expr} {fs : Env → W (List D)} {p : Pos} (he : PE X e (tD c cl1 f)) (hes : PA X es (tAs0 c cl2 fs)) :
    PA X (.Starred e p :: es) (tAs0 c cl2 fun env P => f env fun d => itemsW d fun xs => fs env fun ds => P (xs ++ ds)) := by
  refine (StX.pa_star he hes rfl).of fun σ H Q ⟨env, G, F, P, R, hw, hq⟩ => ?_
  refine ⟨env, G, F, _, R, hw, fun d v G1 F1 H1 hd st1 ru1 hc1 sz1 => ?_⟩
  cases d <;> try exact hd.elim
  · obtain ⟨a, vs, rfl, h1, r1⟩ := ru1.list st1.ok.gf
    exact ⟨a, vs, rfl, .inr (.of (st1.ok.fh _ _ h1)), env, G1, F1, _, R.step st1, hd, fun ds ws G2 F2 H2 hds st2 ru2 hc2 => hq _ _ G2 F2 H2 hds (st1.trans st2) ((r1.mono st2.g).us.append ru2) fun z => (r1.mono st2.g).append (hc2 z)⟩
  · obtain ⟨a, vs, rfl, h1, r1⟩ := ru1.tuple
    exact ⟨a, vs, rfl, .inl (sqT_mono (st1.ok.gf.trans st1.ok.fh) (hK ▸ h1)), env, G1, F1, _, R.step st1, hd, fun ds ws G2 F2 H2 hds st2 ru2 hc2 => hq _ _ G2 F2 H2 hds (st1.trans st2) ((r1.mono st2.g).us.append ru2) fun z => (r1.mono st2.g).append (hc2 z)⟩
theorem je_tup {es : List Expr} {fs : Env → W (List D)} {k : Nat} (hes : PA X es (tAs c true fs)) : PE X (.Tuple es k pos) (tD0 c true fun env P => fs env fun ds => ds.length ≤ 16777216 ∧ P (.tuple ds)) := by
  refine ⟨fun pins s σ H Q I ⟨env, G, F, P, R, hw, hq⟩ => ?_⟩
  refine wpAny_Tuple_spliced (thn (hes.run pos pins s σ H (fun xs H1 => xs.length ≤ sizeLine ∧ NewT H1 Q xs) I ⟨env, G, F, _, R, hw, fun ds vs G1 F1 H1 hd st1 ru1 hc sz1 => ⟨by rw [sizeLine_eq, (hc rfl).length]; exact hd.1, fun p o hp ho => ?_⟩⟩) fun us s1 ⟨xs, H1, I1, r, z, q⟩ => ⟨by rw [← r.length]; exact z, ?_⟩)
  · obtain ⟨st, rp⟩ := mk_tup ho st1.ok hp (hc rfl)
    exact hq _ _ _ _ _ hd.2 (st1.trans st) (.rp rp) fun _ => rp
  · exact got_tup (t' := s1.toks) q I1 (fun b u e => Heap.get?_push_of_some _ e) (Nat.le_refl _) z r (Heap.get?_push_size _ rfl)
theorem je_lst {es : List Expr} {fs : Env → W (List D)} (hes : PA X es (tAs c true fs)) : PE X (.List es pos) (tD0 c true fun env P => fs env fun ds => ds.length ≤ 16777216 ∧ P (.list ds)) := by
  refine (pe_lst hes).of fun σ H Q ⟨env, G, F, P, R, hw, hq⟩ => ?_
  refine ⟨env, G, F, _, R, hw, fun ds vs G1 F1 H1 hd st1 ru1 hc sz1 => ⟨by rw [sizeLine_eq, (hc rfl).length]; exact hd.1, fun p hp => ?_⟩⟩
  obtain ⟨st, rp⟩ := mk_list st1.ok hp (hc rfl)
  exact hq _ _ _ _ _ hd.2 (st1.trans st) (.rp rp) fun _ => rp

/-! ### subscripts -/
def plainIx : Expr → Bool
  | .Slice .. => false
  | .Tuple .. => false
  | _ => true
theorem plainIx_eq {b : Expr} (h : plainIx b = true) : PlainIx b := by
  intro o i
  cases b <;> first | rfl | (simp [plainIx] at h; done)
theorem je_idx (hK : c.K = X.K) (hp : plainIx b = true) (ha : PE X a (tD c cl1 f)) (hb : PE X b (tD c cl2 g)) : PE X (.Subscript a b pos) (tD0 c true fun env P => f env fun d => g env fun e => idxW d e P) := by
  refine (pe_ix (ix_idxW hK) ha hb (plainIx_eq hp)).of fun σ H Q ⟨env, G, F, P, R, hw, hq⟩ => ?_
  exact ⟨env, G, F, _, R, hw, fun d v G1 F1 H1 hd st1 ru1 _ sz1 => ⟨env, G1, F1, _, R.step st1, hd, fun e u G2 F2 H2 he st2 ru2 _ sz2 =>
    ⟨G2, F2, d, e, P, st2.ok, sz2, ru1.mono st2.g st2.f, ru2, he, fun d' v' G3 F3 H3 hp st3 rp => hq d' v' G3 F3 H3 hp ((st1.trans st2).trans st3) (.rp rp) fun _ => rp⟩⟩⟩
def tO (c : Ctl) (f : Env → W (Option Int)) : TO := fun σ H Q => ∃ env G F P, Rel c env G F σ H ∧ f env P ∧
  ∀ i G' F' H', P i → Stp c.S G F H G' F' H' → Q i H'
def intO : D → W (Option Int)
  | .int i, P => P (some i)
  | _, _ => False
theorem _root_.L2.PO.of {o : Option Expr} {t t' : TO} (h : PO X o t) (w : ∀ σ H Q, t' σ H Q → t σ H Q) : PO X o t' := ⟨fun pins s σ H Q I hw => h.run pins s σ H Q I (w σ H Q hw)⟩
theorem jo_none : PO X none (tO c fun _ P => P none) := by
  refine po_none.of fun σ H Q ⟨env, G, F, P, R, hw, hq⟩ => ?_
  exact hq none G F H hw (.refl R.ok)
theorem jo_some (h : PE X e (tD c cl1 f)) : PO X (some e) (tO c fun env P => f env fun d => intO d P) := by
  refine (po_some h).of fun σ H Q ⟨env, G, F, P, R, hw, hq⟩ => ?_
  refine ⟨env, G, F, _, R, hw, fun d v G1 F1 H1 hd st1 ru1 hc1 sz1 => ?_⟩
  cases d <;> try exact hd.elim
  exact ⟨_, ru1.int, hq _ G1 F1 H1 hd st1⟩
theorem je_slice (hK : c.K = X.K) {lo hi : Option Expr} {fl fh : Env → W (Option Int)} {p2 : Pos} (ha : PE X a (tD c cl1 f)) (hl : PO X lo (tO c fl)) (hh : PO X hi (tO c fh)) :
    PE X (.Subscript a (.Slice lo hi none p2) pos) (tD0 c true fun env P => f env fun d => fl env fun i => fh env fun j => sliceW d i j P) := by
  refine (pe_slice (sl_sliceW hK) ha hl hh).of fun σ H Q ⟨env, G, F, P, R, hw, hq⟩ => ?_
  exact ⟨env, G, F, _, R, hw, fun d v G1 F1 H1 hd st1 ru1 _ sz1 => ⟨env, G1, F1, _, R.step st1, hd, fun i G2 F2 H2 h2 st2 => ⟨env, G2, F2, _, R.step (st1.trans st2), h2, fun j G3 F3 H3 h3 st3 =>
    ⟨G3, F3, d, P, st3.ok, ru1.mono (st2.trans st3).g (st2.trans st3).f, h3, fun d' v' G4 F4 H4 hp st4 rp => hq d' v' G4 F4 H4 hp ((st1.trans (st2.trans st3)).trans st4) (.rp rp) fun _ => rp⟩⟩⟩⟩
def revW : D → W D
  | .list xs, P => P (.list xs.reverse)
  | .tuple xs, P => P (.tuple xs.reverse)
  | _, _ => False
theorem je_rev (hK : c.K = X.K) {k : Nat} {p1 p2 p3 : Pos} (ha : PE X a (tD c cl1 f)) : PE X (.Subscript a (.Slice none none (some (.UnaryOp .USub (.Constant (.int 1) k p1) p2)) p3) pos) (tD0 c true fun env P => f env fun d => revW d P) := by
  refine (pe_rev ha).of fun σ H Q ⟨env, G, F, P, R, hw, hq⟩ => ?_
  refine ⟨env, G, F, _, R, hw, fun d v G1 F1 H1 hd st1 ru1 hc1 sz1 => ?_⟩
  cases d <;> try exact hd.elim
  · obtain ⟨a, vs, rfl, h1, r1⟩ := ru1.list st1.ok.gf
    refine .inl ⟨a, vs, rfl, .of (st1.ok.fh _ _ h1), fun p hp => ?_⟩
    obtain ⟨st, rp⟩ := mk_list st1.ok hp r1.reverse
    exact hq _ _ _ _ _ hd (st1.trans st) (.rp rp) fun _ => rp
  · obtain ⟨a, vs, rfl, h1, r1⟩ := ru1.tuple
    refine .inr ⟨a, vs, rfl, ?_, fun p o hp ho => ?_⟩
    · rw [← hK]
      exact sqT_mono (st1.ok.gf.trans st1.ok.fh) h1
    · obtain ⟨st, rp⟩ := mk_tup ho st1.ok hp r1.reverse
      exact hq _ _ _ _ _ hd (st1.trans st) (.rp rp) fun _ => rp

/-! ### calls of built-ins -/
theorem je_blt {id : String} {x : Str} {p : Pos} {es : List Expr} {w : List D → W D} {fs : Env → W (List D)} (hc : CallR X (.builtin id) (rC c w)) (hg : Gl X x) (hm : X.mg x = none) (hv : bootBuiltins x = some (.builtin id)) (hn : x ≠ "__name__") (hdb : (x == ("__debug__" : Str)) = false)
    (ha : PA X (e :: es) (tAs c cl1 fs)) (he : starEach (e :: es) X.env = (false, eval e X.env) :: starEach es X.env) (hpl : (backTo pos (starEach es X.env)).any (·.1) = false) :
    PE X (.Call (.Name x p) (e :: es) [] pos) (tD0 c true fun env P => fs env fun ds => w ds P) := by
  refine (pe_callB hc hg hm hv ha hn hdb he hpl).of fun σ H Q ⟨env, G, F, P, R, hw, hq⟩ => ?_
  exact ⟨env, G, F, _, R, hw, fun ds vs G1 F1 H1 hd st1 ru1 _ sz1 => ⟨G1, F1, ds, P, st1.ok, sz1, ru1, hd, fun d v G2 F2 H2 h2 st2 rp => hq _ _ _ _ _ h2 (st1.trans st2) (.rp rp) fun _ => rp⟩⟩
theorem je_cty {T : String} {x : Str} {p : Pos} {es : List Expr} {w : List D → W D} {fs : Env → W (List D)} (hc : CallR X (.type T) (rC c w)) (hg : Gl X x) (hm : X.mg x = none) (hv : bootBuiltins x = some (.type T)) (hn : x ≠ "__name__") (hdb : (x == ("__debug__" : Str)) = false)
    (ha : PA X (e :: es) (tAs c cl1 fs)) (he : starEach (e :: es) X.env = (false, eval e X.env) :: starEach es X.env) (hpl : (backTo pos (starEach es X.env)).any (·.1) = false) :
    PE X (.Call (.Name x p) (e :: es) [] pos) (tD0 c true fun env P => fs env fun ds => w ds P) := by
  refine (pe_callTy hc hg hm hv ha hn hdb he hpl).of fun σ H Q ⟨env, G, F, P, R, hw, hq⟩ => ?_
  exact ⟨env, G, F, _, R, hw, fun ds vs G1 F1 H1 hd st1 ru1 _ sz1 => ⟨G1, F1, ds, P, st1.ok, sz1, ru1, hd, fun d v G2 F2 H2 h2 st2 rp => hq _ _ _ _ _ h2 (st1.trans st2) (.rp rp) fun _ => rp⟩⟩
end
end Mi

set_option Elab.async false
set_option linter.all false
set_option maxRecDepth 100000
set_option maxHeartbeats 4000000
namespace Mi
open PySem PySem.Spec PyProof.Rows L2

/-! ### sequences: lists and tuples -/
inductive Sq where
  | l | t
def Sq.sq : Sq → PySem.W.Frag → Hp → Addr → List V → Prop
  | .l, K, H, a, xs => SqL K H a xs
  | .t, K, H, a, xs => SqT K H a xs
def Sq.it : Sq → Heap → Addr → Addr → Nat → Prop
  | .l, h, it, a, i => h.IsListIter it a i
  | .t, h, it, a, i => h.IsTupleIter it a i
def Sq.is : Sq → Heap → Addr → Array Value → Prop
  | .l, h, a, its => h.IsList a its
  | .t, h, a, its => h.IsTuple a its
def Sq.o : Sq → Addr → Obj
  | .l, a => { cls := .type "list_iterator", data := .fields #[.ref a, .int 0 0] }
  | .t, a => { cls := .type "tuple_iterator", data := .fields #[.ref a, .int 0 0] }
theorem Sq.begins (k : Sq) (a : Addr) (its : Array Value) : Begins (.ref a) (k.o a) fun h => k.is h a its := by
  cases k
  · exact begins_list a its
  · exact begins_tuple a its
theorem Sq.draws {prog : Program} {w : World} {A : Around} (k : Sq) (hh : A.handled = none) (it a : Addr) (hne : a ≠ it) (its : Array Value) :
    Draws prog w A it [it, a] its.size (fun i v => its[i]? = some v) (fun i h => k.it h it a i ∧ k.is h a its) := by
  cases k
  · exact .list hh it a hne its
  · exact .tuple hh it a hne its
theorem Sq.start (k : Sq) {h : Heap} {it a : Addr} (e : h.get? it = some (k.o a)) : k.it h it a 0 := by
  cases k
  · exact ⟨_, e, rfl, rfl⟩
  · exact ⟨_, e, rfl, rfl⟩
theorem Sq.it_at (k : Sq) {h h' : Heap} {it a : Addr} {i : Nat} (x : k.it h it a i) (e : ∀ o, h.get? it = some o → h'.get? it = some o) : k.it h' it a i := by
  cases k
  · exact PySem.Heap.IsListIter.at x e
  · exact PySem.Heap.IsTupleIter.at x e
theorem Sq.it_obj (k : Sq) {h : Heap} {it a : Addr} {i : Nat} (x : k.it h it a i) : ∃ o, h.get? it = some o ∧ ∀ v, o.data ≠ .cell v := by
  cases k
  all_goals
    obtain ⟨o, e, c, d⟩ := x
    exact ⟨o, e, fun v z => by rw [d] at z; cases z⟩
section
variable {X : Cx} {pins : List (Addr × Obj)} {σ : L2.St} {H : Hp} {s : Shared} {a : Addr} {xs ys : List V}
theorem sq_get (k : Sq) (I : Inv X pins σ H s) (h : k.sq X.K H a xs) : ∃ its : List Value, Vals xs its ∧ k.is s.heap a its.toArray ∧ xs.length ≤ sizeLine ∧ a < s.heap.objs.size := by
  cases k
  · obtain ⟨its, r, p, z⟩ := I.list h
    exact ⟨its, r, p.isList, z, p.lt⟩
  · obtain ⟨its, r, p, z⟩ := I.tuple h
    exact ⟨its, r, p, z, p.lt⟩
theorem sq_inj (k : Sq) (I : Inv X pins σ H s) (h : k.sq X.K H a xs) (h' : k.sq X.K H a ys) : xs = ys := by
  cases k
  · exact I.list_inj h h'
  · exact I.tuple_inj h h'
end
theorem sq_ne (k : Sq) {X : Cx} {pins : List (Addr × Obj)} {σ : L2.St} {H : Hp} {s : Shared} {a b : Addr} {xs : List V} (I : Inv X pins σ H s) (h : k.sq X.K H a xs) (hb : FpOk X pins H b) : a ≠ b := by
  have aset : H a ≠ none ∨ ∃ o, X.base.get? a = some o := by
    cases k
    · rcases h with (q | ⟨_, q⟩) | ⟨o, _, _, q, _⟩
      · exact .inl (by rw [q]; simp)
      · exact .inl (by rw [q]; simp)
      · exact .inr ⟨o, I.ok.mod.kin _ _ q⟩
    · rcases h with (q | ⟨_, q⟩) | ⟨o, _, _, q, _⟩
      · exact .inl (by rw [q]; simp)
      · exact .inl (by rw [q]; simp)
      · exact .inr ⟨o, I.ok.mod.kin _ _ q⟩
  intro e
  subst e
  rcases aset with z | ⟨o, z⟩
  · exact z hb.1
  · rcases hb.2.2.2.1 with q | q
    · exact I.ok.noex _ o z q
    · exact absurd (Nat.lt_of_lt_of_le (Heap.lt_size z) (Nat.le_trans I.ok.bsz q)) (Nat.lt_irrefl _)
/-- pairs: the turn's number and an item -/
def ItE (k : Sq) (K : PySem.W.Frag) (a : Addr) : It :=
  ⟨fun i H => ∃ (xs : List V) (x : V), k.sq K H a xs ∧ xs[i]? = some x, fun i H v H' => ∃ T x, v = .ref T ∧ H T = none ∧ H' = upd H T (.tup [.int (i : Nat), x]) ∧ ∀ xs, k.sq K H a xs → xs[i]? = some x, fun i H => ∃ xs : List V, k.sq K H a xs ∧ xs.length = i⟩
theorem turn_enumK (k : Sq) {P : Program} {w : World} {K : PySem.W.Frag} {elts : List Expr} {kk : Nat} {tpos : Pos} (a e it : Addr) :
    Turn P w K (.Tuple elts kk tpos) (ItE k K a) [e, it] e (fun i h => (∃ old, IsEnum h e it ((i : Nat) : Int) old) ∧ k.it h it a i ∧ e ≠ it) where
  mem := by simp
  obj := fun i h st b hb => by
    obtain ⟨⟨old, he⟩, hit, _⟩ := st
    have e' : b = e ∨ b = it := by simpa using hb
    rcases e' with z | z
    · rw [z]; exact ⟨_, he, fun v q => nomatch q⟩
    · rw [z]; exact k.it_obj hit
  keep := fun i h h' st kp => let ⟨⟨old, he⟩, hi, hne⟩ := st; ⟨⟨old, kp e (by simp) _ he⟩, k.it_at hi fun o q => kp it (by simp) o q, hne⟩
  item := by
    intro X hP hw hK hc i pins s σ H E I hf st hg
    subst hP hw hK
    obtain ⟨⟨old, he⟩, hit, hne⟩ := st
    obtain ⟨xs, x, hq, hx⟩ := hg
    obtain ⟨its, rv, p, hz, hlt⟩ := sq_get k I hq
    obtain ⟨u, hu, ru⟩ := rv.get hx
    have hel : e < s.heap.objs.size := Heap.lt_size he
    have hil : it < s.heap.objs.size := by obtain ⟨_, q, _⟩ := k.it_obj hit; exact Heap.lt_size q
    have nit : ∀ b ∈ [e, it], a ≠ b := fun b hb => sq_ne k I hq (hf b hb)
    have D : Draws X.prog X.w X.A.in1 it [it, a] its.toArray.size (fun i v => its.toArray[i]? = some v) (fun i h => k.it h it a i ∧ k.is h a its.toArray) := k.draws (A := X.A.in1) (show X.A.in1.handled = none from I.ok.hd hc) it a (nit it (by simp)) its.toArray
    have hil' : i < its.toArray.size := by
      have := (List.getElem?_eq_some_iff.mp hu).1
      simpa using this
    refine wpAny_pyNext_enum_itemD D he ⟨hit, p⟩ hil' hne (by simp only [List.mem_cons, List.not_mem_nil, or_false, not_or]; exact ⟨hne, (nit e (by simp)).symm⟩) fun y h' tk hy ho ⟨hit', _⟩ hT hsz hk => ?_
    have ey : y = u := by
      have h2 : its[i]? = some y := by simpa using hy
      rw [hu] at h2
      exact (Option.some.inj h2).symm
    subst ey
    refine ⟨_, rfl, wpAny_letOwnedTupleGo_enum (s := { s with heap := h', toks := tk + 1 }) ho fun h'' he' sb => ?_⟩
    have hT2 : h''.get? s.heap.objs.size = some { cls := .type "tuple", data := .seq #[.int i tk, y] } := (sb.2 _ (Nat.ne_of_gt hel)).trans hT
    have new : ObjOk X.prog X.w (upd H s.heap.objs.size (.tup [.int (i : Nat), x])) h'' s.heap.objs.size (.tup [.int (i : Nat), x]) :=
      ⟨by show 2 ≤ sizeLine; decide, [.int i tk, y], .cons ⟨_, rfl⟩ (.cons ru .nil), ⟨_, hT2, rfl, _, rfl⟩⟩
    have I1 : Inv X pins σ (upd H s.heap.objs.size (.tup [.int (i : Nat), x])) { s with heap := h'', toks := tk + 1 } :=
      I.turnedNew (ch := [e, it]) (fun b ob hb q => (sb.2 b (fun z => hb (by simp [z]))).trans (hk b ob (fun z => hb (by simp [z])) (fun z => hb (by simp [z])) q)) hf (Nat.le_refl _) new
    refine ⟨.ref s.heap.objs.size, _, I1, rfl, ⟨_, x, rfl, I.hok.fresh (Nat.le_refl _), rfl, fun ys hy => by rw [sq_inj k I hy hq]; exact hx⟩, ⟨⟨y, ?_⟩, k.it_at hit' fun o q => (sb.2 it (Ne.symm hne)).trans q, hne⟩, fun b hb => ?_⟩
    · have e1 : ((i + 1 : Nat) : Int) = (i : Int) + 1 := by omega
      rw [e1]; exact he'
    · have hb' : b < s.heap.objs.size := by
        have e' : b = e ∨ b = it := by simpa using hb
        rcases e' with z | z
        · rw [z]; exact hel
        · rw [z]; exact hil
      rw [upd_ne (Nat.ne_of_lt hb')]
      exact (hf b hb).1
  done := by
    intro X hP hw hK hc i pins s σ H E I hf st hg
    subst hP hw hK
    obtain ⟨⟨old, he⟩, hit, hne⟩ := st
    obtain ⟨xs, hq, hx⟩ := hg
    obtain ⟨its, rv, p, hz, hlt⟩ := sq_get k I hq
    have nit : ∀ b ∈ [e, it], a ≠ b := fun b hb => sq_ne k I hq (hf b hb)
    have D : Draws X.prog X.w X.A.in1 it [it, a] its.toArray.size (fun i v => its.toArray[i]? = some v) (fun i h => k.it h it a i ∧ k.is h a its.toArray) := k.draws (A := X.A.in1) (show X.A.in1.handled = none from I.ok.hd hc) it a (nit it (by simp)) its.toArray
    obtain ⟨f0, f1, f2, f3, f4, f5⟩ := hf it (by simp)
    have hl := rv.length
    have ei : its.toArray.size = i := by simp; omega
    rw [← ei] at he hit
    exact wpAny_pyNext_enum_endD D he ⟨hit, p⟩ fun h' eb => ⟨rfl, I.turned (t' := s.toks) (fun b o hb q => eb b o hb q) f0 f1 f3 f4 f5⟩
  self := fun A i s Q E st h => let ⟨⟨_, he⟩, _⟩ := st; wpAny_pyIter_enum he h
/-- enumerate(v) -/
theorem meets_enum1 {v : Value} {o : Obj} {H : Heap → Prop} (B : Begins v o H) :
    Meets (Builtin.«enumerate.__new__» ⟨[.type "enumerate", v], []⟩) (fun _ R s => H s.heap ∧
      R (.ok (.ret (.ref (s.heap.push o).objs.size))) { s with heap := (s.heap.push o).push { cls := .type "enumerate", data := .fields #[.none, .bool false, .ref s.heap.objs.size, rawInt 0, .none, .none] } }) :=
  .of_wp fun prog w A R s h => by
    obtain ⟨hp, g, d, tk, os⟩ := s
    obtain ⟨h1, h⟩ := h
    have hsub := PySem.sub_enumerate
    have q1 : ∀ {A' : Around} {E : Value → Shared → Prop} {Q : Value → Shared → Prop}, Q (.ref hp.objs.size) ⟨hp.push o, g, d, tk, os⟩ → wpAny (model prog w) A' (pyIter v) Q E ⟨hp, g, d, tk, os⟩ :=
      fun q => B.iter prog w _ _ ⟨hp, g, d, tk, os⟩ _ h1 q
    wp_walk using q1
    refine wpAny_stack_any fun st => wpAny_pure ?_
    split
    · rename_i c _ _ _ _ _
      cases (c == Value.type "enumerate")
      · wp_walk using q1
        exact ⟨_, rfl, h⟩
      · wp_walk using q1
        exact ⟨_, rfl, h⟩
    · wp_walk using q1
      exact ⟨_, rfl, h⟩
theorem enum_begins1 {prog : Program} {w : World} {A : Around} {E : Value → Shared → Prop} {s : Shared} {v : Value} {o : Obj} {H : Heap → Prop} {Q : Value → Shared → Prop} (B : Begins v o H) (h1 : H s.heap)
    (h : ∀ h', IsEnum h' (s.heap.objs.size + 1) s.heap.objs.size 0 .none → h'.get? s.heap.objs.size = some o → h'.objs.size = s.heap.objs.size + 2 →
      (∀ b o, s.heap.get? b = some o → h'.get? b = some o) → Q (.ref (s.heap.objs.size + 1)) { s with heap := h' }) :
    wpAny (model prog w) A (call (.type "enumerate") [v]) Q E s := by
  refine callType_new PySem.F.called_enumerate (by decide) (PySem.F.typeCall_enumerate_1 _) (PySem.F.newCall_enumerate_1 _) (fun obj => PySem.F.args_object_init_2 obj _) PySem.F.entry_enumerate_new (meets_enum1 B) ⟨h1, ?_⟩
  have hz : (s.heap.push o).objs.size = s.heap.objs.size + 1 := Heap.size_push ..
  show _ ∧ _
  rw [hz]
  have he : IsEnum ((s.heap.push o).push { cls := .type "enumerate", data := .fields #[.none, .bool false, .ref s.heap.objs.size, rawInt 0, .none, .none] }) (s.heap.objs.size + 1) s.heap.objs.size 0 .none := by
    have q := Heap.get?_push_size (s.heap.push o) (o := { cls := .type "enumerate", data := .fields #[.none, .bool false, .ref s.heap.objs.size, rawInt 0, .none, .none] }) rfl
    rw [hz] at q
    exact q
  exact ⟨⟨_, he, rfl⟩, h _ he (Heap.get?_push_of_some _ (Heap.get?_push_size _ B.free)) (by rw [Heap.size_push, hz]) fun b o x => Heap.get?_push_of_some _ (Heap.get?_push_of_some _ x)⟩
def iEnumK (K : PySem.W.Frag) (ta : TA) : TI := fun σ H R => ta σ H fun vs H1 => ∃ k a xs, vs = [.ref a] ∧ Sq.sq k K H1 a xs ∧ R (ItE k K a) H1
theorem pi_enumK {X : Cx} {e : Expr} {ta : TA} {p pos tpos : Pos} {elts : List Expr} {kk : Nat} (hg : Gl X "enumerate") (hm : X.mg "enumerate" = none) (ha : PA X [e] ta) (hs : starEach [e] X.env = [(false, eval e X.env)]) :
    PI X (.Tuple elts kk tpos) (.Call (.Name "enumerate" p) [e] [] pos) (iEnumK X.K ta) := by
  refine ⟨fun pins s σ H R I h => ?_⟩
  refine Call_ (ld_blt I hg hm boot_enumerate (PyProof.Rows.callWith_type1 (thn (ha.run pos pins s σ H _ I h) fun us s1 ⟨vs, H1, I1, r1, q1⟩ => ?_) hs rfl))
  obtain ⟨k, a, xs, ex, hq, q⟩ := q1
  subst ex
  obtain ⟨u, rfl, ru⟩ := vals1 r1
  cases ru
  obtain ⟨its, rv, p', hz, _⟩ := sq_get k I1 hq
  refine enum_begins1 (k.begins a its.toArray) p' fun h' he hit hsz hk => wpAny_pyIter_enum he ?_
  have I2 : Inv X pins σ H1 { s1 with heap := h' } := I1.kept (t' := s1.toks) hk
  refine ⟨s1.heap.objs.size + 1, [s1.heap.objs.size + 1, s1.heap.objs.size], _, _, H1, rfl, I2, turn_enumK k a (s1.heap.objs.size + 1) s1.heap.objs.size, ⟨⟨.none, he⟩, k.start hit, Nat.succ_ne_self _⟩, fun b hb => ?_, q⟩
  have hle : s1.heap.objs.size ≤ b := by
    have e' : b = s1.heap.objs.size + 1 ∨ b = s1.heap.objs.size := by simpa using hb
    rcases e' with z | z
    · rw [z]; exact Nat.le_add_right _ _
    · rw [z]; exact Nat.le_refl _
  exact I1.fpOk hle (I1.hok.fresh hle)

/-! ### zip(v1, v2) -/
def ItZ (k1 k2 : Sq) (K : PySem.W.Frag) (a b : Addr) : It :=
  ⟨fun i H => ∃ (xs ys : List V) (x y : V), k1.sq K H a xs ∧ k2.sq K H b ys ∧ xs[i]? = some x ∧ ys[i]? = some y,
   fun i H v H' => ∃ T x y, v = .ref T ∧ H T = none ∧ H' = upd H T (.tup [x, y]) ∧ (∀ xs, k1.sq K H a xs → xs[i]? = some x) ∧ ∀ ys, k2.sq K H b ys → ys[i]? = some y,
   fun i H => ∃ xs ys : List V, k1.sq K H a xs ∧ k2.sq K H b ys ∧ min xs.length ys.length = i⟩
theorem zmem {c z TI TO i1 i2 : Addr} (m : c ∈ [z, TO, i1, i2]) : c ∈ [z, TI, TO, i1, i2] := by
  simp only [List.mem_cons, List.not_mem_nil, or_false] at m ⊢
  rcases m with h | h | h | h <;> simp [h]
theorem zne (n : Nat) : ((n + 2 : Nat) : Addr) ≠ (n + 4 : Nat) ∧ ((n + 3 : Nat) : Addr) ≠ (n + 4 : Nat) ∧ ((n + 2 : Nat) : Addr) ≠ (n + 3 : Nat) ∧ ((n + 2 : Nat) : Addr) ≠ n ∧ ((n + 2 : Nat) : Addr) ≠ (n + 1 : Nat) ∧
    ((n + 4 : Nat) : Addr) ≠ n ∧ ((n + 4 : Nat) : Addr) ≠ (n + 1 : Nat) ∧ ((n + 3 : Nat) : Addr) ≠ n ∧ ((n + 3 : Nat) : Addr) ≠ (n + 1 : Nat) ∧ (n : Addr) ≠ (n + 1 : Nat) :=
  ⟨show (n + 2 : Nat) ≠ n + 4 by omega, show (n + 3 : Nat) ≠ n + 4 by omega, show (n + 2 : Nat) ≠ n + 3 by omega, show (n + 2 : Nat) ≠ n by omega, show (n + 2 : Nat) ≠ n + 1 by omega,
    show (n + 4 : Nat) ≠ n by omega, show (n + 4 : Nat) ≠ n + 1 by omega, show (n + 3 : Nat) ≠ n by omega, show (n + 3 : Nat) ≠ n + 1 by omega, show (n : Nat) ≠ n + 1 by omega⟩
theorem turn_zipK (k1 k2 : Sq) {P : Program} {w : World} {K : PySem.W.Frag} {elts : List Expr} {kk : Nat} {tpos : Pos} {a b z TI TO i1 i2 : Addr}
    (d : TI ≠ z ∧ TO ≠ z ∧ TI ≠ TO ∧ TI ≠ i1 ∧ TI ≠ i2 ∧ z ≠ i1 ∧ z ≠ i2 ∧ TO ≠ i1 ∧ TO ≠ i2 ∧ i1 ≠ i2) :
    Turn P w K (.Tuple elts kk tpos) (ItZ k1 k2 K a b) [z, TI, TO, i1, i2] z
      (fun i h => IsZip h z TI TO .none ∧ IsTupOf2 h TI (.ref i1) (.ref i2) ∧ (∃ a1 a2, IsTupOf2 h TO a1 a2) ∧ k1.it h i1 a i ∧ k2.it h i2 b i) where
  mem := by simp
  obj := fun i h st c hb => by
    obtain ⟨hz, hTI, ⟨a1, a2, hTO⟩, h1, h2⟩ := st
    have e' : c = z ∨ c = TI ∨ c = TO ∨ c = i1 ∨ c = i2 := by simpa using hb
    rcases e' with e | e | e | e | e
    · rw [e]; exact ⟨_, hz, fun v q => nomatch q⟩
    · rw [e]; exact ⟨_, hTI, fun v q => nomatch q⟩
    · rw [e]; exact ⟨_, hTO, fun v q => nomatch q⟩
    · rw [e]; exact k1.it_obj h1
    · rw [e]; exact k2.it_obj h2
  keep := fun i h h' st kp => let ⟨hz, hTI, ⟨a1, a2, hTO⟩, h1, h2⟩ := st
    ⟨kp z (by simp) _ hz, kp TI (by simp) _ hTI, ⟨a1, a2, kp TO (by simp) _ hTO⟩, k1.it_at h1 fun o q => kp i1 (by simp) o q, k2.it_at h2 fun o q => kp i2 (by simp) o q⟩
  item := by
    intro X hP hw hK hc i pins s σ H E I hf st hg
    subst hP hw hK
    obtain ⟨hz, hTI, hTO, h1, h2⟩ := st
    obtain ⟨xs, ys, x, y, hq1, hq2, hx, hy⟩ := hg
    obtain ⟨its, rv, p, _, hlt⟩ := sq_get k1 I hq1
    obtain ⟨its2, rv2, p2, _, hlt2⟩ := sq_get k2 I hq2
    obtain ⟨u, hu, ru⟩ := rv.get hx
    obtain ⟨u2, hu2, ru2⟩ := rv2.get hy
    have na : ∀ c ∈ [z, TI, TO, i1, i2], a ≠ c := fun c hb => sq_ne k1 I hq1 (hf c hb)
    have nb : ∀ c ∈ [z, TI, TO, i1, i2], b ≠ c := fun c hb => sq_ne k2 I hq2 (hf c hb)
    obtain ⟨d1, d2, d3, d4, d5, d6, d7, d8, d9, d10⟩ := d
    have hh : X.A.in1.handled = none := I.ok.hd hc
    have D1 := k1.draws (prog := X.prog) (w := X.w) (A := X.A.in1) hh i1 a (na i1 (by simp)) its.toArray
    have D2 := k2.draws (prog := X.prog) (w := X.w) (A := X.A.in1) hh i2 b (nb i2 (by simp)) its2.toArray
    have Z : ZipSep2 z TI TO i1 i2 [i1, a] [i2, b] :=
      { TIz := d1, TOz := d2, TITO := d3, TIi1 := d4, mem1 := by simp, zf1 := by simp [d6, (na z (by simp)).symm], Tf1 := by simp [d8, (na TO (by simp)).symm],
        TIi2 := d5, mem2 := by simp, zf2 := by simp [d7, (nb z (by simp)).symm], Tf2 := by simp [d9, (nb TO (by simp)).symm],
        sep1_2 := by simp [d10, (nb i1 (by simp)).symm], sep2_1 := by simp [d10.symm, (na i2 (by simp)).symm] }
    have W := GoesN.zip2 (elts := elts) (x1 := kk) (pos := tpos) Z D1 D2
    have l1 : i < its.toArray.size := by simpa using (List.getElem?_eq_some_iff.mp hu).1
    have l2 : i < its2.toArray.size := by simpa using (List.getElem?_eq_some_iff.mp hu2).1
    refine thn (W.goes i s (fun v s2 => ∃ x H', Inv X pins σ H' s2 ∧ L2.RelV x v ∧ (ItZ k1 k2 X.K a b).yld i H x H' ∧ (IsZip s2.heap z TI TO .none ∧ IsTupOf2 s2.heap TI (.ref i1) (.ref i2) ∧ (∃ a1 a2, IsTupOf2 s2.heap TO a1 a2) ∧ k1.it s2.heap i1 a (i + 1) ∧ k2.it s2.heap i2 b (i + 1)) ∧ ∀ c ∈ [z, TI, TO, i1, i2], H' c = none) E (by omega) ⟨hz, hTI, hTO, ⟨h1, p⟩, ⟨h2, p2⟩⟩ fun v h' tk hY st' hk _ => ?_) fun r s1 q => q
    obtain ⟨T, v1, v2, rfl, hT, e1, e2, hTup⟩ := hY
    have ev1 : v1 = u := by
      have q : its[i]? = some v1 := by simpa using e1
      rw [hu] at q; exact (Option.some.inj q).symm
    have ev2 : v2 = u2 := by
      have q : its2[i]? = some v2 := by simpa using e2
      rw [hu2] at q; exact (Option.some.inj q).symm
    subst ev1 ev2
    have new : ObjOk X.prog X.w (upd H T (.tup [x, y])) h' T (.tup [x, y]) := ⟨by show 2 ≤ sizeLine; decide, [v1, v2], .cons ru (.cons ru2 .nil), hTup⟩
    have hn : H T = none := I.hok.fresh hT
    have I1 : Inv X pins σ (upd H T (.tup [x, y])) { s with heap := h', toks := tk } :=
      I.turnedNew (ch := [z, TI, TO, i1, i2]) (fun c ob hb q => hk c ob (fun m => hb (zmem m)) q) hf hT new
    refine ⟨.ref T, _, I1, rfl, ⟨T, x, y, rfl, hn, rfl, fun ws hw => by rw [sq_inj k1 I hw hq1]; exact hx, fun ws hw => by rw [sq_inj k2 I hw hq2]; exact hy⟩, ⟨st'.1, st'.2.1, st'.2.2.1, st'.2.2.2.1.1, st'.2.2.2.2.1⟩, fun c hb => ?_⟩
    have hc' : c ≠ T := by
      intro e
      have hl : c < s.heap.objs.size := by
        have e' : c = z ∨ c = TI ∨ c = TO ∨ c = i1 ∨ c = i2 := by simpa using hb
        rcases e' with q | q | q | q | q
        · rw [q]; exact Heap.lt_size hz
        · rw [q]; exact Heap.lt_size hTI
        · obtain ⟨_, _, hTO⟩ := hTO; rw [q]; exact Heap.lt_size hTO
        · obtain ⟨_, w1, _⟩ := k1.it_obj h1; rw [q]; exact Heap.lt_size w1
        · obtain ⟨_, w1, _⟩ := k2.it_obj h2; rw [q]; exact Heap.lt_size w1
      rw [e] at hl
      exact absurd (Nat.lt_of_lt_of_le hl hT) (Nat.lt_irrefl _)
    rw [upd_ne hc']
    exact (hf c hb).1
  done := by
    intro X hP hw hK hc i pins s σ H E I hf st hg
    subst hP hw hK
    obtain ⟨hz, hTI, hTO, h1, h2⟩ := st
    obtain ⟨xs, ys, hq1, hq2, hx⟩ := hg
    obtain ⟨its, rv, p, _, hlt⟩ := sq_get k1 I hq1
    obtain ⟨its2, rv2, p2, _, hlt2⟩ := sq_get k2 I hq2
    have na : ∀ c ∈ [z, TI, TO, i1, i2], a ≠ c := fun c hb => sq_ne k1 I hq1 (hf c hb)
    have nb : ∀ c ∈ [z, TI, TO, i1, i2], b ≠ c := fun c hb => sq_ne k2 I hq2 (hf c hb)
    obtain ⟨d1, d2, d3, d4, d5, d6, d7, d8, d9, d10⟩ := d
    have hh : X.A.in1.handled = none := I.ok.hd hc
    have D1 := k1.draws (prog := X.prog) (w := X.w) (A := X.A.in1) hh i1 a (na i1 (by simp)) its.toArray
    have D2 := k2.draws (prog := X.prog) (w := X.w) (A := X.A.in1) hh i2 b (nb i2 (by simp)) its2.toArray
    have Z : ZipSep2 z TI TO i1 i2 [i1, a] [i2, b] :=
      { TIz := d1, TOz := d2, TITO := d3, TIi1 := d4, mem1 := by simp, zf1 := by simp [d6, (na z (by simp)).symm], Tf1 := by simp [d8, (na TO (by simp)).symm],
        TIi2 := d5, mem2 := by simp, zf2 := by simp [d7, (nb z (by simp)).symm], Tf2 := by simp [d9, (nb TO (by simp)).symm],
        sep1_2 := by simp [d10, (nb i1 (by simp)).symm], sep2_1 := by simp [d10.symm, (na i2 (by simp)).symm] }
    have W := GoesN.zip2 (elts := elts) (x1 := kk) (pos := tpos) Z D1 D2
    have lx := rv.length
    have ly := rv2.length
    have ei : min its.toArray.size its2.toArray.size = i := by simp; omega
    exact W.stops s _ E (by rw [ei]; exact ⟨hz, hTI, hTO, ⟨h1, p⟩, ⟨h2, p2⟩⟩) fun h' tk hk _ => I.turnedL (ch := [z, TI, TO, i1, i2]) (fun c ob hb q => hk c ob (fun m => hb (zmem m)) q) hf
  self := fun A i s Q E st h => wpAny_pyIter_zip st.1 h
def iZipK (K : PySem.W.Frag) (ta : TA) : TI := fun σ H R => ta σ H fun vs H1 => ∃ k1 k2 a b xs ys, vs = [.ref a, .ref b] ∧ Sq.sq k1 K H1 a xs ∧ Sq.sq k2 K H1 b ys ∧ R (ItZ k1 k2 K a b) H1
theorem pi_zipK {X : Cx} {e e2 : Expr} {ta : TA} {p pos tpos : Pos} {elts : List Expr} {kk : Nat} (hg : Gl X "zip") (hm : X.mg "zip" = none) (ha : PA X [e, e2] ta)
    (hs : starEach [e, e2] X.env = (false, eval e X.env) :: starEach [e2] X.env) (hpl : (backTo pos (starEach [e2] X.env)).any (·.1) = false) :
    PI X (.Tuple elts kk tpos) (.Call (.Name "zip" p) [e, e2] [] pos) (iZipK X.K ta) := by
  refine ⟨fun pins s σ H R I h => ?_⟩
  refine Call_ (ld_blt I hg hm PyProof.Rows.boot_zip (PyProof.Rows.callWith_type1 (thn (ha.run pos pins s σ H _ I h) fun us s1 ⟨vs, H1, I1, r1, q1⟩ => ?_) hs hpl))
  obtain ⟨k1, k2, a, b, xs, ys, ex, hq1, hq2, q⟩ := q1
  subst ex
  obtain ⟨u1, u2, rfl, ru, ru2⟩ := vals2 r1
  cases ru
  cases ru2
  obtain ⟨its, rv, p1, _, _⟩ := sq_get k1 I1 hq1
  obtain ⟨its2, rv2, p2, _, _⟩ := sq_get k2 I1 hq2
  refine zip_begins2 (k1.begins a its.toArray) (k2.begins b its2.toArray) p1 p2 fun h' hz hTI hTO h1 h2 hsz hk => wpAny_pyIter_zip hz ?_
  have I2 : Inv X pins σ H1 { s1 with heap := h' } := I1.kept (t' := s1.toks) hk
  refine ⟨s1.heap.objs.size + 4, [s1.heap.objs.size + 4, s1.heap.objs.size + 2, s1.heap.objs.size + 3, s1.heap.objs.size, s1.heap.objs.size + 1], _, _, H1, rfl, I2, turn_zipK k1 k2 ?_, ⟨hz, hTI, ⟨_, _, hTO⟩, k1.start h1, k2.start h2⟩, fun c hcm => ?_, q⟩
  · exact zne _
  · have hle : s1.heap.objs.size ≤ c := by
      have e' : c = s1.heap.objs.size + 4 ∨ c = s1.heap.objs.size + 2 ∨ c = s1.heap.objs.size + 3 ∨ c = s1.heap.objs.size ∨ c = s1.heap.objs.size + 1 := by simpa using hcm
      rcases e' with z | z | z | z | z
      · rw [z]; exact Nat.le_add_right _ _
      · rw [z]; exact Nat.le_add_right _ _
      · rw [z]; exact Nat.le_add_right _ _
      · rw [z]; exact Nat.le_refl _
      · rw [z]; exact Nat.le_add_right _ _
    exact I1.fpOk hle (I1.hok.fresh hle)
end Mi

set_option Elab.async false
set_option linter.all false
set_option maxRecDepth 100000
set_option maxHeartbeats 4000000
namespace Mi
open PySem PySem.Spec PyProof.Rows L2

/-! ### targets -/
/-- a datum that may be a tuple of which nothing else is known -/
def RpY (wk : Bool) (K : PySem.W.Frag) (G : Hp) (v : V) (d : D) : Prop := match wk with
  | false => Rp K G v d
  | true => ∃ a vs ds, v = .ref a ∧ d = .tuple ds ∧ SqT K G a vs ∧ RpAll K G vs ds
theorem RpY.mono {wk : Bool} {K : PySem.W.Frag} {G G' : Hp} {v : V} {d : D} (e : Same G G') (h : RpY wk K G v d) : RpY wk K G' v d := by
  cases wk with
  | false => exact Rp.mono e h
  | true =>
    obtain ⟨a, vs, ds, rfl, rfl, h, r⟩ := h
    exact ⟨a, vs, ds, rfl, rfl, sqT_mono e h, r.mono e⟩
def tG (c : Ctl) (wk : Bool) (sl : List Nat) (g : D → Env → W Env) : TG := fun v σ H Q => ∃ env G F d P, Rel c env G F σ H ∧ RpY wk c.K G v d ∧ g d env P ∧
  ∀ env' σ', P env' → Rel c env' G F σ' H → (∀ vs, (∀ i ∈ sl, i ∈ vs) → wipe σ' vs = wipe σ vs) → Q σ' H
def tGs (c : Ctl) (sl : List Nat) (g : List D → Env → W Env) : TGs := fun vs σ H Q => ∃ env G F ds P, Rel c env G F σ H ∧ RpAll c.K G vs ds ∧ g ds env P ∧
  ∀ env' σ', P env' → Rel c env' G F σ' H → (∀ vs, (∀ i ∈ sl, i ∈ vs) → wipe σ' vs = wipe σ vs) → Q σ' H
theorem _root_.L2.PG.of {X : Cx} {e : Expr} {t t' : TG} (h : PG X e t) (w : ∀ v σ H Q, σ.length = X.N.length → t' v σ H Q → t v σ H Q) : PG X e t' := ⟨fun pins s σ H v u Q I r hw => h.run pins s σ H v u Q I r (w v σ H Q I.len hw)⟩
theorem _root_.L2.PG.or {X : Cx} {e : Expr} {t t' : TG} (h : PG X e t) (h' : PG X e t') : PG X e (fun v σ H Q => t v σ H Q ∨ t' v σ H Q) :=
  ⟨fun pins s σ H v u Q I r hw => hw.elim (h.run pins s σ H v u Q I r) (h'.run pins s σ H v u Q I r)⟩
theorem _root_.L2.PGs.of {X : Cx} {e : List Expr} {t t' : TGs} (h : PGs X e t) (w : ∀ v σ H Q, t' v σ H Q → t v σ H Q) : PGs X e t' := ⟨fun pins s σ H v u Q I r hw => h.run pins s σ H v u Q I r (w v σ H Q hw)⟩
theorem wipe_set {σ : L2.St} {i : Nat} {x : Option V} : ∀ {vs : List Nat}, i ∈ vs → wipe (σ.set i x) vs = wipe σ vs
  | [], h => by simp at h
  | v :: vs, h => by
    unfold wipe
    by_cases e : i ∈ vs
    · rw [wipe_set e]
    · have hv : i = v := by simpa [e] using h
      subst hv
      have out : ∀ (ws : List Nat), i ∉ ws → wipe (σ.set i x) ws = (wipe σ ws).set i x := by
        intro ws
        induction ws with
        | nil => intro _; rfl
        | cons w ws ih =>
          intro hn
          simp only [List.mem_cons, not_or] at hn
          unfold wipe
          rw [ih hn.2, List.set_comm _ _ hn.1]
      rw [out vs e, List.set_set]
theorem Rel.set {c : Ctl} {env : Env} {G F H : Hp} {σ : L2.St} {i : Nat} {v : V} {d : D} (R : Rel c env G F σ H) (hi : i < σ.length) (r : Rp c.K G v d) : Rel c (env.set i (.v d)) G F (σ.set i (some v)) H := by
  refine ⟨R.ok, R.fr, R.al, R.g0, R.ng0, fun j s e n => ?_, fun j k ds es a hjk e1 e2 h1 h2 => ?_⟩
  · by_cases hj : j = i
    · subst hj
      have hl : j < env.length := by
        have := (List.getElem?_eq_some_iff.mp e).1
        simpa using this
      rw [List.getElem?_set_self hl] at e
      cases e
      exact ⟨v, List.getElem?_set_self hi, r⟩
    · rw [List.getElem?_set_ne (Ne.symm hj)] at e
      obtain ⟨x, h1, h2⟩ := R.sl j s e n
      exact ⟨x, by rw [List.getElem?_set_ne (Ne.symm hj)]; exact h1, h2⟩
  · have key : ∀ {m : Nat} {ls : List D}, (env.set i (.v d))[m]? = some (.own ls) → m ≠ i := fun {m ls} e z => by
      subst z
      have hl : m < env.length := by
        have := (List.getElem?_eq_some_iff.mp e).1
        simpa using this
      rw [List.getElem?_set_self hl] at e
      cases e
    have n1 := key e1
    have n2 := key e2
    rw [List.getElem?_set_ne (Ne.symm n1)] at e1 h1
    rw [List.getElem?_set_ne (Ne.symm n2)] at e2 h2
    exact R.ap j k ds es a hjk e1 e2 h1 h2
def setW (i : Nat) (d : D) (env : Env) : W Env := fun P => P (env.set i (.v d))
section
variable {X : Cx} {c : Ctl} {a b e : Expr} {pos : Pos} {cl1 cl2 cl3 : Bool} {f g h : Env → W D}
theorem jg_name {i : Nat} {x : Str} (hN : X.N.Nodup) (hi : X.N[i]? = some x) (hx : Loc X.env.scope x) (hf : X.fn x = true ∨ X.env.scope.names.lookup x = some .local) : PG X (.Name x pos) (tG c false [i] (setW i)) := by
  refine (pg_name hN hi hx hf).of fun v σ H Q hl ⟨env, G, F, d, P, R, r, hw, hq⟩ => ?_
  have hi' : i < σ.length := by
    rw [hl]
    exact (List.getElem?_eq_some_iff.mp hi).1
  exact hq _ _ hw (R.set hi' r) fun vs hv => wipe_set (hv i (by simp))
def gNilW : List D → Env → W Env := fun ds env P => ds = [] ∧ P env
def gConsW (g : D → Env → W Env) (gs : List D → Env → W Env) : List D → Env → W Env := fun ds env P => match ds with
  | [] => False
  | d :: ds => g d env fun env1 => gs ds env1 P
theorem jgs_nil : PGs X [] (tGs c [] gNilW) := by
  refine pgs_nil.of fun v σ H Q ⟨env, G, F, ds, P, R, r, hw, hq⟩ => ?_
  obtain ⟨rfl, hw⟩ := hw
  cases r
  exact ⟨rfl, hq env σ hw R fun _ _ => rfl⟩
theorem jgs_cons {es : List Expr} {sl sl' : List Nat} {g : D → Env → W Env} {gs : List D → Env → W Env} (h : PG X e (tG c false sl g)) (hs : PGs X es (tGs c sl' gs)) (hr : (assignEach (e :: es) X.env).map (·.2) = assign e X.env :: (assignEach es X.env).map (·.2)) :
    PGs X (e :: es) (tGs c (sl ++ sl') (gConsW g gs)) := by
  refine (pgs_cons h hs hr).of fun v σ H Q ⟨env, G, F, ds, P, R, r, hw, hq⟩ => ?_
  cases ds with
  | nil => exact hw.elim
  | cons d ds =>
    cases r with
    | cons r rs =>
      refine ⟨_, _, rfl, env, G, F, d, _, R, r, hw, fun env1 σ1 h1 R1 w1 => ⟨env1, G, F, ds, P, R1, rs, h1, fun env2 σ2 h2 R2 w2 => hq env2 σ2 h2 R2 fun vs hv => ?_⟩⟩
      rw [w2 vs fun i hi => hv i (List.mem_append_right _ hi), w1 vs fun i hi => hv i (List.mem_append_left _ hi)]
def gSeqW (n : Nat) (gs : List D → Env → W Env) : D → Env → W Env := fun d env P => match d with
  | .tuple ds => ds.length = n ∧ gs ds env P
  | .list ds => ds.length = n ∧ gs ds env P
  | _ => False
theorem jg_seq (hK : c.K = X.K) {wk : Bool} {es : List Expr} {k n : Nat} {sl : List Nat} {gs : List D → Env → W Env} (hc : X.calm = true) (h : PGs X es (tGs c sl gs)) (hn : (assignEach es X.env).length = n) (hst : (assignEach es X.env).findIdx? (·.1) = none) :
    PG X (.Tuple es k pos) (tG c wk sl (gSeqW n gs)) := by
  refine ((pg_tup hc h hn hst).or (pg_unl hc h hn hst)).of fun v σ H Q _ ⟨env, G, F, d, P, R, r, hw, hq⟩ => ?_
  have tup : ∀ {Z : Prop} {a : Addr} {vs : List V} {ds : List D}, v = .ref a → SqT c.K G a vs → RpAll c.K G vs ds → gSeqW n gs (.tuple ds) env P → gTup X.K n (tGs c sl gs) v σ H Q ∨ Z := fun {Z a vs ds} e h1 r hw =>
    .inl ⟨a, vs, e, sqT_mono (R.ok.gf.trans R.ok.fh) (hK ▸ h1), by rw [r.length]; exact hw.1, env, G, F, _, P, R, r, hw.2, hq⟩
  cases wk with
  | true =>
    obtain ⟨a, vs, ds, e, rfl, h1, r⟩ := r
    exact tup e h1 r hw
  | false =>
    cases d <;> try exact hw.elim
    · cases r with
      | lst h1 r => exact .inr ⟨_, _, rfl, .of (R.ok.fh _ _ (R.ok.gf _ _ h1)), by rw [r.length]; exact hw.1, env, G, F, _, P, R, r, hw.2, hq⟩
    · cases r with
      | tup h1 r => exact tup rfl h1.sqT r hw

/-! ### what is walked -/
def IterOk (c : Ctl) (wk : Bool) (G0 F0 : Hp) (J : It) (ds : List D) : Prop := ∃ Gp Y, Walk J ds.length Gp Y ∧ (∀ H, Same F0 H → Gp H) ∧
  ∀ (i : Nat) H x H' d, ds[i]? = some d → Y i H x H' → ∀ G F, Ok c.S G F H → Same G0 G → Same F0 F → ∃ G' F', Stp c.S G F H G' F' H' ∧ RpY wk c.K G' x d
def tI (c : Ctl) (cl wk : Bool) (g : Env → W (List D)) : TI := fun σ H R => ∃ env G F P, Rel c env G F σ H ∧ g env P ∧
  ∀ ds G' F' H' J, P ds → Stp c.S G F H G' F' H' → IterOk c wk G' F' J ds → (cl = true → IterOk c wk G' G' J ds) → ds.length ≤ 16777216 → R J H'
theorem iterOk_at {G0 F0 : Hp} {J : It} {Gp : Hp → Prop} {vs : List V} {ds : List D} (w : Walk J vs.length Gp (YAt vs)) (r : RpAll c.K G0 vs ds) (hg : ∀ H, Same F0 H → Gp H) : IterOk c false G0 F0 J ds := by
  refine ⟨Gp, YAt vs, by rw [← r.length]; exact w, hg, fun i H x H' d hd y G F ok hG hF => ?_⟩
  obtain ⟨rfl, hx⟩ := y
  obtain ⟨v, h1, h2⟩ := r.at hd
  rw [h1] at hx
  cases hx
  exact ⟨G, F, .refl ok, h2.mono hG⟩
/-- a list or a tuple -/
theorem ji_seq (hK : c.K = X.K) {tg : Expr} (he : PE X e (tD c cl1 f)) : PI X tg e (tI c cl1 false fun env P => f env fun d => itemsW d P) := by
  have pi1 : PI X tg e (fun σ H R => iList X.K (tD c cl1 f) σ H R ∨ iTup X.K (tD c cl1 f) σ H R) := ⟨fun pins s σ H R I h => h.elim ((pi_list he).run pins s σ H R I) ((pi_tup he).run pins s σ H R I)⟩
  have pi2 : PI X tg e (fun σ H R => tD c cl1 f σ H fun x H1 => (∃ a, x = .ref a ∧ (∃ xs, SqL X.K H1 a xs) ∧ R (Itl X.K a) H1) ∨ ∃ a, x = .ref a ∧ (∃ xs, SqT X.K H1 a xs) ∧ R (Itt X.K a) H1) := by
    refine ⟨fun pins s σ H R I h => ?_⟩
    refine thn (he.run pins s σ H _ I h) fun v s1 ⟨x, H1, I1, r1, q1⟩ => ?_
    rcases q1 with ⟨a, rfl, ⟨xs, hq⟩, q⟩ | ⟨a, rfl, ⟨xs, hq⟩, q⟩
    · cases r1
      obtain ⟨its, rv, p, hz⟩ := I1.list hq
      refine wpAny_pyIter_list p.isList ?_
      refine ⟨s1.heap.objs.size, [s1.heap.objs.size], _, _, H1, rfl, I1.kept (t' := s1.toks) fun b o e => Heap.get?_push_of_some _ e, turn_list a _, ⟨_, Heap.get?_push_size _ rfl, rfl, rfl⟩, fun b hb => ?_, q⟩
      have e : b = s1.heap.objs.size := by simpa using hb
      subst e
      exact I1.fpOk (Nat.le_refl _) (I1.hok.fresh (Nat.le_refl _))
    · cases r1
      obtain ⟨its, rv, p, hz⟩ := I1.tuple hq
      refine wpAny_pyIter_tuple (show s1.heap.IsTuple a its.toArray from p) ?_
      refine ⟨s1.heap.objs.size, [s1.heap.objs.size], _, _, H1, rfl, I1.kept (t' := s1.toks) fun b o e => Heap.get?_push_of_some _ e, turn_tuple a _, ⟨_, Heap.get?_push_size _ rfl, rfl, rfl⟩, fun b hb => ?_, q⟩
      have e : b = s1.heap.objs.size := by simpa using hb
      subst e
      exact I1.fpOk (Nat.le_refl _) (I1.hok.fresh (Nat.le_refl _))
  refine pi2.of fun σ H R ⟨env, G, F, P, Rl, hw, hq⟩ => ?_
  refine ⟨env, G, F, _, Rl, hw, fun d v G1 F1 H1 hd st ru hc sz => ?_⟩
  have fin : ∀ {vs : List V} {ds : List D}, RpAll c.K G1 vs ds → vs.length ≤ sizeLine → ds.length ≤ 16777216 := fun {vs ds} r z => by rw [← r.length, ← sizeLine_eq]; exact z
  cases d <;> try exact hd.elim
  · obtain ⟨a, vs, rfl, h1, r1⟩ := ru.list st.ok.gf
    have hF : SqL X.K F1 a vs := .of h1
    refine .inl ⟨a, rfl, ⟨vs, .of (st.ok.fh _ _ h1)⟩, hq _ G1 F1 H1 _ hd st (iterOk_at walk_list r1 fun H' e => .of (e _ _ h1)) (fun z => ?_) (fin r1 (sz.2 a vs (.inl (.of (st.ok.fh _ _ h1)))))⟩
    have hc := hc z
    cases hc with
    | lst h2 r2 =>
      have e2 := st.ok.gf _ _ h2
      rw [h1] at e2
      cases e2
      exact iterOk_at walk_list r1 fun H' e => .of (e _ _ h2)
  · obtain ⟨a, vs, rfl, h1, r1⟩ := ru.tuple
    have h1' := h1
    rw [hK] at h1
    have hH := sqT_mono (st.ok.gf.trans st.ok.fh) h1
    exact .inr ⟨a, rfl, ⟨vs, hH⟩, hq _ G1 F1 H1 _ hd st (iterOk_at walk_tup r1 fun H' e => sqT_mono (st.ok.gf.trans e) h1) (fun z => iterOk_at walk_tup r1 fun H' e => sqT_mono e h1) (fin r1 (sz.2 a vs (.inr (hK ▸ hH))))⟩
/-- range -/
def rangeD (lo : Int) (n : Nat) : List D := (List.range n).map fun i : Nat => PyData.int (lo + (i : Int))
theorem iterOk_range {G0 F0 : Hp} {lo : Int} {n : Nat} : IterOk c false G0 F0 (Itr lo n) (rangeD lo n) := by
  have hl : (rangeD lo n).length = n := by simp [rangeD]
  refine ⟨fun _ => True, _, by rw [hl]; exact walk_range, fun _ _ => trivial, fun i H x H' d hd y G F ok hG hF => ?_⟩
  obtain ⟨rfl, rfl⟩ := y
  simp only [rangeD, List.getElem?_map, Option.map_eq_some_iff, List.getElem?_range] at hd
  obtain ⟨j, h1, rfl⟩ := hd
  have : j = i := by
    by_cases h : i < n
    · rw [List.getElem?_range h] at h1; exact (Option.some.inj h1).symm
    · rw [List.getElem?_eq_none (by simp; omega)] at h1; cases h1
  subst this
  exact ⟨G, F, .refl ok, .int _⟩
def range1W : List D → W (List D)
  | [.int n], P => (-1000000000 ≤ n ∧ n ≤ 16777216) ∧ P (rangeD 0 n.toNat)
  | _, _ => False
def range2W : List D → W (List D)
  | [.int a, .int b], P => (-1000000000 ≤ a ∧ a ≤ 1000000000 ∧ -1000000000 ≤ b ∧ b ≤ 1000000000 ∧ b - a ≤ 16777216) ∧ P (rangeD a (b - a).toNat)
  | _, _ => False
theorem ji_range1 {tg : Expr} {p : Pos} {fs : Env → W (List D)} (hg : Gl X "range") (hm : X.mg "range" = none) (ha : PA X [a] (tAs c true fs)) (hs : starEach [a] X.env = [(false, eval a X.env)]) :
    PI X tg (.Call (.Name "range" p) [a] [] pos) (tI c true false fun env P => fs env fun ds => range1W ds P) := by
  refine (pi_range1 hg hm ha hs).of fun σ H R ⟨env, G, F, P, Rl, hw, hq⟩ => ?_
  refine ⟨env, G, F, _, Rl, hw, fun ds vs G1 F1 H1 hd st ru hc sz => ?_⟩
  match ds, hd with
  | [.int n], ⟨h1, hd⟩ =>
    obtain ⟨x, rfl, h0⟩ := ru.one
    have := h0.int; subst this
    exact ⟨n, rfl, by omega, by omega, hq _ G1 F1 H1 _ hd st iterOk_range (fun _ => iterOk_range) (by simp [rangeD]; omega)⟩
theorem ji_range2 {tg : Expr} {p : Pos} {fs : Env → W (List D)} (hg : Gl X "range") (hm : X.mg "range" = none) (ha : PA X [a, b] (tAs c true fs)) (hs : starEach [a, b] X.env = [(false, eval a X.env), (false, eval b X.env)]) (hs2 : starEach [b] X.env = [(false, eval b X.env)]) :
    PI X tg (.Call (.Name "range" p) [a, b] [] pos) (tI c true false fun env P => fs env fun ds => range2W ds P) := by
  refine (pi_range2 hg hm ha hs hs2).of fun σ H R ⟨env, G, F, P, Rl, hw, hq⟩ => ?_
  refine ⟨env, G, F, _, Rl, hw, fun ds vs G1 F1 H1 hd st ru hc sz => ?_⟩
  match ds, hd with
  | [.int i, .int j], ⟨h1, hd⟩ =>
    obtain ⟨x, y, rfl, h0, h0'⟩ := ru.two
    have := h0.int; subst this
    have := h0'.int; subst this
    exact ⟨i, j, rfl, by omega, hq _ G1 F1 H1 _ hd st iterOk_range (fun _ => iterOk_range) (by simp [rangeD]; omega)⟩
/-- enumerate, zip -/
def pairs (xs ys : List D) : List D := (xs.zip ys).map fun p => PyData.tuple [p.1, p.2]
def enumD (k : Nat) : List D → List D
  | [] => []
  | d :: ds => .tuple [.int (k : Int), d] :: enumD (k + 1) ds
theorem enumD_at : ∀ {ds : List D} {k i : Nat}, (enumD k ds)[i]? = (ds[i]?).map fun d => PyData.tuple [.int ((k + i : Nat) : Int), d]
  | [], _, _ => by simp [enumD]
  | d :: ds, k, 0 => by simp [enumD]
  | d :: ds, k, i + 1 => by
    simp only [enumD, List.getElem?_cons_succ]
    rw [enumD_at]
    rw [show k + 1 + i = k + (i + 1) by omega]
theorem enumD_len : ∀ {ds : List D} {k : Nat}, (enumD k ds).length = ds.length
  | [], _ => rfl
  | d :: ds, k => by simp [enumD, enumD_len]
/-- a new pair of what stands in G -/
theorem pair_new {c : Ctl} {G F H : Hp} {T : Addr} {x y : V} {d e : D} (ok : Ok c.S G F H) (hT : H T = none) (h1 : Rp c.K G x d) (h2 : Rp c.K G y e) :
    Stp c.S G F H (upd G T (.tup [x, y])) (upd F T (.tup [x, y])) (upd H T (.tup [x, y])) ∧ RpY true c.K (upd G T (.tup [x, y])) (.ref T) (.tuple [d, e]) :=
  have st := Stp.new ok hT (.tup [x, y])
  ⟨st, T, [x, y], [d, e], rfl, rfl, .of upd_same, (RpAll.cons h1 (.cons h2 .nil)).mono st.g⟩
def sqW : D → W (List D) := itemsW
theorem sq_of {G F H : Hp} {v : V} {d : D} {P : List D → Prop} (hK : c.K = X.K) (ok : Ok c.S G F H) (ru : RpU c.K G F v d) (hw : itemsW d P) :
    ∃ k a vs ds, v = .ref a ∧ Sq.sq k X.K H a vs ∧ RpAll c.K G vs ds ∧ P ds ∧ (∀ H', Same F H' → Sq.sq k X.K H' a vs) ∧ (Rp c.K G v d → ∀ H', Same G H' → Sq.sq k X.K H' a vs) := by
  cases d <;> try exact hw.elim
  · obtain ⟨a, vs, rfl, h1, r1⟩ := ru.list ok.gf
    refine ⟨.l, a, vs, _, rfl, .of (ok.fh _ _ h1), r1, hw, fun H' e => .of (e _ _ h1), fun hc H' e => ?_⟩
    cases hc with
    | lst h2 r2 =>
      have e2 := ok.gf _ _ h2
      rw [h1] at e2
      cases e2
      exact .of (e _ _ h2)
  · obtain ⟨a, vs, rfl, h1, r1⟩ := ru.tuple
    rw [hK] at h1
    exact ⟨.t, a, vs, _, rfl, sqT_mono (ok.gf.trans ok.fh) h1, r1, hw, fun H' e => sqT_mono (ok.gf.trans e) h1, fun _ H' e => sqT_mono e h1⟩
theorem sz_sq (hK : c.K = X.K) {k : Sq} {H : Hp} {a : Addr} {vs : List V} (sz : Sz c.K H) (h : Sq.sq k X.K H a vs) : vs.length ≤ 16777216 := by
  rw [← sizeLine_eq]
  rw [hK] at sz
  cases k
  · exact sz.2 a vs (.inl h)
  · exact sz.2 a vs (.inr h)
theorem walk_enumK {k : Sq} {K : PySem.W.Frag} {a : Addr} {xs : List V} : Walk (ItE k K a) xs.length (fun H => k.sq K H a xs) (YPair (fun i => some (.int (i : Nat))) (fun i => xs[i]?)) := by
  refine ⟨fun i _ hi q => ⟨xs, xs[i], q, by simp [hi]⟩, fun _ q => ⟨xs, q, rfl⟩, fun i H v H' _ q y => ?_⟩
  obtain ⟨T, x, h1, h2, h3, h4⟩ := y
  exact ⟨T, .int (i : Nat), x, h1, h2, h3, rfl, h4 xs q⟩
theorem walk_zipK {k1 k2 : Sq} {K : PySem.W.Frag} {a b : Addr} {xs ys : List V} {n : Nat} (hn : n = min xs.length ys.length) : Walk (ItZ k1 k2 K a b) n (fun H => k1.sq K H a xs ∧ k2.sq K H b ys) (YPair (fun i => xs[i]?) (fun i => ys[i]?)) := by
  subst hn
  refine ⟨fun i _ hi q => ?_, fun _ q => ⟨xs, ys, q.1, q.2, rfl⟩, fun i H v H' _ q y => ?_⟩
  · have h1 : i < xs.length := by omega
    have h2 : i < ys.length := by omega
    exact ⟨xs, ys, xs[i], ys[i], q.1, q.2, by simp [h1], by simp [h2]⟩
  · obtain ⟨T, x, z, h1, h2, h3, h4, h5⟩ := y
    exact ⟨T, x, z, h1, h2, h3, h4 xs q.1, h5 ys q.2⟩
theorem iterOk_enum {k : Sq} {G0 F0 : Hp} {a : Addr} {vs : List V} {ds : List D} (r : RpAll c.K G0 vs ds) (hg : ∀ H', Same F0 H' → Sq.sq k X.K H' a vs) : IterOk c true G0 F0 (ItE k X.K a) (enumD 0 ds) := by
  refine ⟨_, _, by rw [enumD_len, ← r.length]; exact walk_enumK, hg, fun i H x H' d hd y G F ok hG hF => ?_⟩
  obtain ⟨T, u, v, rfl, hT, rfl, e1, e2⟩ := y
  rw [enumD_at] at hd
  obtain ⟨d', h1, rfl⟩ := Option.map_eq_some_iff.mp hd
  obtain ⟨v', h2, h3⟩ := r.at h1
  have e2 : vs[i]? = some v := e2
  rw [h2] at e2
  cases e1
  cases e2
  have q := pair_new ok hT (.int (i : Nat)) (h3.mono hG)
  exact ⟨_, _, q.1, by simpa using q.2⟩
theorem iterOk_zip {k1 k2 : Sq} {G0 F0 : Hp} {a b : Addr} {vs ws : List V} {ds es : List D} (r : RpAll c.K G0 vs ds) (r2 : RpAll c.K G0 ws es) (hg : ∀ H', Same F0 H' → Sq.sq k1 X.K H' a vs) (hg2 : ∀ H', Same F0 H' → Sq.sq k2 X.K H' b ws) :
    IterOk c true G0 F0 (ItZ k1 k2 X.K a b) (pairs ds es) := by
  refine ⟨_, _, walk_zipK (by simp [pairs, r.length, r2.length]), fun H' e => ⟨hg H' e, hg2 H' e⟩, fun i H x H' d hd y G F ok hG hF => ?_⟩
  obtain ⟨T, u, v, rfl, hT, rfl, e1, e2⟩ := y
  simp only [pairs, List.getElem?_map, Option.map_eq_some_iff] at hd
  obtain ⟨⟨d1, d2⟩, h1, rfl⟩ := hd
  rw [List.getElem?_zip_eq_some] at h1
  obtain ⟨v1, h2, h3⟩ := r.at h1.1
  obtain ⟨v2, h4, h5⟩ := r2.at h1.2
  have e1 : vs[i]? = some u := e1
  have e2 : ws[i]? = some v := e2
  rw [h2] at e1
  rw [h4] at e2
  cases e1
  cases e2
  have q := pair_new ok hT (h3.mono hG) (h5.mono hG)
  exact ⟨_, _, q.1, q.2⟩
def enumW : List D → W (List D)
  | [d], P => itemsW d fun ds => P (enumD 0 ds)
  | _, _ => False
def zipW : List D → W (List D)
  | [d, e], P => itemsW d fun ds => itemsW e fun es => P (pairs ds es)
  | _, _ => False
theorem RpAll.one {K : PySem.W.Frag} {G : Hp} {x : V} {d : D} (h : RpAll K G [x] [d]) : Rp K G x d := by
  cases h; assumption
theorem RpAll.two {K : PySem.W.Frag} {G : Hp} {x y : V} {d e : D} (h : RpAll K G [x, y] [d, e]) : Rp K G x d ∧ Rp K G y e := by
  cases h with
  | cons h r => cases r; exact ⟨h, by assumption⟩
theorem ji_enum (hK : c.K = X.K) {elts : List Expr} {kk : Nat} {tpos p : Pos} {fs : Env → W (List D)} (hg : Gl X "enumerate") (hm : X.mg "enumerate" = none) (ha : PA X [a] (tAs c cl1 fs)) (hs : starEach [a] X.env = [(false, eval a X.env)]) :
    PI X (.Tuple elts kk tpos) (.Call (.Name "enumerate" p) [a] [] pos) (tI c cl1 true fun env P => fs env fun ds => enumW ds P) := by
  refine (pi_enumK hg hm ha hs).of fun σ H R ⟨env, G, F, P, Rl, hw, hq⟩ => ?_
  refine ⟨env, G, F, _, Rl, hw, fun ds vs G1 F1 H1 hd st ru hc sz => ?_⟩
  match ds, hd with
  | [d], hd =>
    obtain ⟨x, rfl, h0⟩ := ru.one
    obtain ⟨k, a, vs, ds, rfl, h1, r1, hp, g1, g2⟩ := sq_of hK st.ok h0 hd
    exact ⟨k, a, vs, rfl, h1, hq _ G1 F1 H1 _ hp st (iterOk_enum r1 g1) (fun z => iterOk_enum r1 (g2 (hc z).one)) (by rw [enumD_len, ← r1.length]; exact sz_sq hK sz h1)⟩
theorem ji_zip (hK : c.K = X.K) {elts : List Expr} {kk : Nat} {tpos p : Pos} {fs : Env → W (List D)} (hg : Gl X "zip") (hm : X.mg "zip" = none) (ha : PA X [a, b] (tAs c cl1 fs))
    (hs : starEach [a, b] X.env = (false, eval a X.env) :: starEach [b] X.env) (hpl : (backTo pos (starEach [b] X.env)).any (·.1) = false) :
    PI X (.Tuple elts kk tpos) (.Call (.Name "zip" p) [a, b] [] pos) (tI c cl1 true fun env P => fs env fun ds => zipW ds P) := by
  refine (pi_zipK hg hm ha hs hpl).of fun σ H R ⟨env, G, F, P, Rl, hw, hq⟩ => ?_
  refine ⟨env, G, F, _, Rl, hw, fun ds vs G1 F1 H1 hd st ru hc sz => ?_⟩
  match ds, hd with
  | [d, e], hd =>
    obtain ⟨x, y, rfl, h0, h0'⟩ := ru.two
    obtain ⟨k, a, vs, ds, rfl, h1, r1, hp, g1, g2⟩ := sq_of hK st.ok h0 hd
    obtain ⟨k2, b, ws, es, rfl, h1', r1', hp, g1', g2'⟩ := sq_of hK st.ok h0' hp
    refine ⟨k, k2, a, b, vs, ws, rfl, h1, h1', hq _ G1 F1 H1 _ hp st (iterOk_zip r1 r1' g1 g1') (fun z => iterOk_zip r1 r1' (g2 (hc z).two.1) (g2' (hc z).two.2)) ?_⟩
    have := sz_sq hK sz h1
    simp only [pairs, List.length_map, List.length_zip, ← r1.length]
    omega
end
end Mi

set_option Elab.async false
set_option linter.all false
set_option maxRecDepth 100000
set_option maxHeartbeats 4000000
namespace Mi
open PySem PySem.Spec PyProof.Rows L2

def wipeE (env : Env) : List Nat → Env
  | [] => env
  | v :: vs => (wipeE env vs).set v .no
def mapW : List D → (D → (Option D → Prop) → Prop) → W (List D)
  | [], _, P => P []
  | d :: ds, f, P => f d fun o => mapW ds f fun ys => P (match o with
    | some y => y :: ys
    | none => ys)
def bodyW (g : D → Env → W Env) (t : Env → W Bool) (fe : Env → W D) (env : Env) : D → (Option D → Prop) → Prop :=
  fun d k => g d env fun env1 => t env1 fun b => if b = true then fe env1 fun y => k (some y) else k none
def compW (gi : Env → W (List D)) (g : D → Env → W Env) (t : Env → W Bool) (fe : Env → W D) (own : List Nat) (env : Env) : W D :=
  fun P => gi env fun ds => mapW ds (bodyW g t fe (wipeE env own)) fun ys => P (.list ys)
theorem Rel.forget {c : Ctl} {env : Env} {G F H : Hp} {σ : L2.St} (R : Rel c env G F σ H) (v : Nat) : Rel c (env.set v .no) G F (σ.set v none) H := by
  have out : ∀ {j : Nat} {s : Slot}, (env.set v .no)[j]? = some s → s ≠ .no → j ≠ v ∧ env[j]? = some s := fun {j s} e n => by
    by_cases hj : j = v
    · subst hj
      have hl : j < env.length := by
        have := (List.getElem?_eq_some_iff.mp e).1
        simpa using this
      rw [List.getElem?_set_self hl] at e
      cases e
      exact absurd rfl n
    · rw [List.getElem?_set_ne (Ne.symm hj)] at e
      exact ⟨hj, e⟩
  refine ⟨R.ok, R.fr, R.al, R.g0, R.ng0, fun j s e n => ?_, fun j k ds es a hjk e1 e2 h1 h2 => ?_⟩
  · obtain ⟨hj, e⟩ := out e n
    obtain ⟨x, h1, h2⟩ := R.sl j s e n
    exact ⟨x, by rw [List.getElem?_set_ne (Ne.symm hj)]; exact h1, h2⟩
  · obtain ⟨n1, e1⟩ := out e1 (by simp)
    obtain ⟨n2, e2⟩ := out e2 (by simp)
    rw [List.getElem?_set_ne (Ne.symm n1)] at h1
    rw [List.getElem?_set_ne (Ne.symm n2)] at h2
    exact R.ap j k ds es a hjk e1 e2 h1 h2
theorem Rel.wiped {c : Ctl} {env : Env} {G F H : Hp} {σ : L2.St} (R : Rel c env G F σ H) : ∀ vs : List Nat, Rel c (wipeE env vs) G F (wipe σ vs) H
  | [] => R
  | v :: vs => (R.wiped vs).forget v
theorem jts_nil {X : Cx} {c : Ctl} : PTs X [] (tB c fun _ P => P true) := by
  refine ⟨fun pins s σ H Q I ⟨env, G, F, P, R, hw, hq⟩ => ?_⟩
  exact pts_nil.run pins s σ H Q I (hq true G F H hw (.refl R.ok))
theorem jts_one {X : Cx} {c : Ctl} {e : Expr} {t : Env → W Bool} (h : PT X e (tB c t)) : PTs X [e] (tB c t) := pts_one h
theorem wipe_wipe {σ : L2.St} {ws : List Nat} : ∀ {vs : List Nat}, (∀ i ∈ vs, i ∈ ws) → wipe (wipe σ vs) ws = wipe σ ws
  | [], _ => rfl
  | v :: vs, h => by
    show wipe ((wipe σ vs).set v none) ws = _
    rw [wipe_set (h v (by simp)), wipe_wipe fun i hi => h i (List.mem_cons_of_mem _ hi)]
section
variable {X : Cx} {c : Ctl} {pos : Pos} {cl cl2 wk : Bool}
theorem lc_ok {gi : Env → W (List D)} {g : D → Env → W Env} {t : Env → W Bool} {fe : Env → W D} {sl own : List Nat} (hsl : ∀ i ∈ sl, i ∈ own) {σ : L2.St} {H : Hp} {Q : VK}
    (h : tD0 c true (compW gi g t fe own) σ H Q) : tLc (tI c cl wk gi) (tG c wk sl g) (tB c t) (tD c true fe) own σ H Q := by
  obtain ⟨env, G, F, P, R, hw, hq⟩ := h
  refine ⟨env, G, F, _, R, hw, fun ds G1 F1 H1 J hd st1 it _ hlen D hD => ?_⟩
  obtain ⟨Gp, Y, wk, hGp, hY⟩ := it
  have hF1D : F1 D = none := st1.ok.fh.free hD
  have base : Stp c.S G1 F1 H1 G1 F1 (upd H1 D (.lst [])) := by
    have q := Stp.newOwn st1.ok hD (.lst [])
    exact ⟨⟨st1.ok.gf, st1.ok.fh.trans (same_upd hD), fun a l e => ⟨(st1.ok.wd a l e).1, (st1.ok.wd a l e).2.1, (q.ok.wd a l e).2.2⟩⟩, .refl _, .refl _, q.fr, q.al, fun _ _ z => .inl z, fun _ _ z => .inl z⟩
  refine lc_it wk (fun i H => ∃ G F acc vs, Stp c.S G1 F1 H1 G F H ∧ F D = none ∧ H D = some (.lst vs) ∧ RpAll c.K G vs acc ∧ vs.length ≤ i ∧ mapW (ds.drop i) (bodyW g t fe (wipeE env own)) fun ys => P (.list (acc ++ ys)))
    ⟨G1, F1, [], [], base, hF1D, upd_same, .nil, Nat.zero_le _, hd⟩ (fun i H _ ⟨G, F, acc, vs, st, _⟩ => hGp H (st.f.trans st.ok.fh)) (fun i x H2 H3 hi ⟨G2, F2, acc, vs, st2, hFD, hHD, hr, hvl, hm⟩ y => ?_) (fun H2 ⟨G2, F2, acc, vs, st2, hFD, hHD, hr, hvl, hm⟩ => ?_)
  · have hdi : ds[i]? = some ds[i] := List.getElem?_eq_getElem hi
    rw [List.drop_eq_getElem_cons hi] at hm
    obtain ⟨G3, F3, st3, rx⟩ := hY i H2 x H3 _ hdi y G2 F2 st2.ok st2.g st2.f
    have R3 := (R.step st1).step (st2.trans st3)
    have hD3 : H3 D = some (.lst vs) := st3.fr D _ hHD fun ⟨a, l, e, z⟩ => by
      obtain ⟨w1, w2, w3, w4⟩ := st1.ok.wd a l e
      obtain ⟨_, _, _, _, e1, e2⟩ := w4
      rcases z with z | z
      · rw [z, e1] at hD; cases hD
      · rw [z, e2] at hD; cases hD
    have nsrc : ¬ IsSrc c.S D := fun ⟨a, l, e, z⟩ => by
      obtain ⟨w1, w2, w3, w4⟩ := st1.ok.wd a l e
      obtain ⟨_, _, _, _, e1, e2⟩ := w4
      rcases z with z | z
      · rw [z, e1] at hD; cases hD
      · rw [z, e2] at hD; cases hD
    have noD : ∀ {Ga Fa Ha Gb Fb Hb}, Stp c.S Ga Fa Ha Gb Fb Hb → Fa D = none → Ha D = some (.lst vs) → Fb D = none := fun {Ga Fa Ha Gb Fb Hb} s h1 h2 => by
      cases e : Fb D with
      | none => rfl
      | some o =>
        rcases s.nf D o e with z | z
        · rw [h1] at z; cases z
        · rw [h2] at z; cases z
    have hF3 := noD st3 hFD hHD
    refine ⟨_, G3, F3, _, _, R3.wiped own, rx, hm, fun env4 σ4 h4 R4 w4 => ⟨(w4 own hsl).trans (wipe_wipe fun _ h => h), env4, G3, F3, _, R4, h4, fun b G5 F5 H5 hb st5 => ?_⟩⟩
    have hD5 := st5.fr D _ hD3 nsrc
    have hF5 := noD st5 hF3 hD3
    cases b with
    | false =>
      simp only [Bool.false_eq_true, if_false] at hb ⊢
      exact ⟨G5, F5, acc, vs, (st2.trans st3).trans st5, hF5, hD5, (hr.mono st3.g).mono st5.g, Nat.le_succ_of_le hvl, hb⟩
    | true =>
      simp only [if_true] at hb ⊢
      refine ⟨env4, G5, F5, _, R4.step st5, hb, fun d v G6 F6 H6 h6 st6 _ hc _ => ?_⟩
      have hD6 := st6.fr D _ hD5 nsrc
      have hF6 := noD st6 hF5 hD5
      refine ⟨vs, hD6, ?_, G6, F6, acc ++ [d], vs ++ [v], ?_, hF6, upd_same, ?_, by simp; omega, ?_⟩
      · rw [sizeLine_eq]; omega
      · have s6 := ((st2.trans st3).trans st5).trans st6
        refine ⟨⟨s6.ok.gf, fun b u e => ?_, fun a l e => ?_⟩, s6.g, s6.f, fun b u e hn => ?_, fun b hb => ?_, s6.ng, s6.nf⟩
        · rw [upd_ne (fun z => by rw [z, hF6] at e; cases e)]
          exact s6.ok.fh b u e
        · obtain ⟨w1, w2, w3, w4⟩ := s6.ok.wd a l e
          exact ⟨w1, w2, w3, w4.keep fun b u hb e' => by
            rw [upd_ne (fun z => nsrc ⟨a, l, e, by rw [← z]; exact hb⟩)]; exact e'⟩
        · rw [upd_ne (fun z => by rw [z, hD] at e; cases e)]
          exact s6.fr b u e hn
        · unfold upd
          split
          · simp
          · exact s6.al b hb
      · exact (((hr.mono st3.g).mono st5.g).mono st6.g).append (.cons (hc rfl) .nil)
      · have e : (fun ys : List PyData => P (.list (acc ++ d :: ys))) = fun ys => P (.list (acc ++ [d] ++ ys)) := by funext ys; simp
        rw [← e]
        exact h6
  · rw [List.drop_eq_nil_of_le (Nat.le_refl _)] at hm
    have hm : P (.list (acc ++ [])) := hm
    rw [List.append_nil] at hm
    have hn : G2 D = none := st2.ok.gf.free hFD
    refine hq _ _ (upd G2 D (.lst vs)) (upd F2 D (.lst vs)) H2 hm (st1.trans ?_) (.rp (.lst upd_same (hr.mono (same_upd hn)))) fun _ => .lst upd_same (hr.mono (same_upd hn))
    refine ⟨⟨fun b u e => ?_, fun b u e => ?_, fun a l e => ?_⟩, st2.g.trans (same_upd hn), st2.f.trans (same_upd hFD), st2.fr, st2.al, fun b u e => ?_, fun b u e => ?_⟩
    · by_cases hb : b = D
      · subst hb; rw [upd_same] at e ⊢; exact e
      · rw [upd_ne hb] at e ⊢; exact st2.ok.gf b u e
    · by_cases hb : b = D
      · subst hb; rw [upd_same] at e; rw [← e]; exact hHD
      · rw [upd_ne hb] at e; exact st2.ok.fh b u e
    · obtain ⟨w1, w2, w3, w4⟩ := st2.ok.wd a l e
      obtain ⟨_, _, _, w5⟩ := st1.ok.wd a l e
      obtain ⟨_, _, _, _, e1, e2⟩ := w5
      have n1 : a ≠ D := fun z => by rw [z, hD] at e1; cases e1
      have n2 : l ≠ D := fun z => by rw [z, hD] at e2; cases e2
      exact ⟨by rw [upd_ne n1]; exact w1, by rw [upd_ne n2]; exact w2, w3, w4⟩
    · by_cases hb : b = D
      · subst hb; exact .inr hD
      · rw [upd_ne hb] at e; exact st2.ng b u e
    · by_cases hb : b = D
      · subst hb; exact .inr hD
      · rw [upd_ne hb] at e; exact st2.nf b u e
end
end Mi

set_option Elab.async false
set_option linter.all false
set_option maxRecDepth 100000
set_option maxHeartbeats 4000000
namespace Mi
open PySem PySem.Spec PyProof.Rows L2

/-! ### a def's promise, where no repr is under way around it -/
abbrev SpG := List V → Hp → VK → Prop
structure FnG (P : Program) (w : World) (K : PySem.W.Frag) (mg : Str → Option Value) (base : Heap) (k : Nat) (f : Addr) (fd : FuncData) (ps : List Str) (sp : SpG) : Prop where
  len : ∀ vs H Q, sp vs H Q → vs.length = ps.length
  run : ∀ (A : Around) (outer : List PySem.Env) (s : Shared) (H : Hp) (args : Args) (us : List Value) (vs : List V) (Q : VK), A.guards = some [] → Room k A → Env0 P w K mg base A outer s H → BindsTo s fd args (ps.zip us) → Vals vs us → sp vs H Q →
    codeAny (model P w) A (.call (.ref f) args) (CR CX0 outer P w H s Q E0) s
section
variable {X : Cx} {k : Nat} {f : Addr} {fd : FuncData} {ps : List Str} {sp : SpG} {x : Str} {p pos : Pos} {e : Expr} {es : List Expr} {t : TA}
theorem run_g {pins : List (Addr × Obj)} {σ : L2.St} {H : Hp} {s : Shared} {Q : VK} {us : List Value} {vs : List V} (F : FnG X.prog X.w X.K X.mg X.base k f fd ps sp) (hgu : X.A.guards = some []) (hr : Room k X.A) (hb : Binds X.K fd ps [])
    (I : Inv X pins σ H s) (r : Vals vs us) (h : sp vs H Q) : wpAny (model X.prog X.w) X.A (call (.ref f) us) (EP X pins σ Q) X.xe s := by
  have hl : us.length = ps.length := by rw [← r.length]; exact F.len _ _ _ h
  have hbs : BindsTo s fd ⟨us, []⟩ (ps.zip us) := by simpa using hb s us I.kIn (by simpa using hl)
  refine wpAny_call (codeAny_mono (F.run X.A X.stack s H ⟨us, []⟩ us vs Q hgu hr I.env0 hbs r h) fun r s' hq => ?_)
  cases r with
  | error e => exact hq.elim
  | ok fl =>
    cases fl with
    | ret u => exact I.after hq
    | next => exact False.elim hq
    | brk => exact False.elim hq
    | cont => exact False.elim hq
def tCG (sp : SpG) (t : TA) : TE := fun σ H Q => t σ H fun vs H1 => sp vs H1 Q
theorem pe_callG (F : FnG X.prog X.w X.K X.mg X.base k f fd ps sp) (hgu : X.A.guards = some []) (hr : Room k X.A) (hg : Gl X x) (hm : X.mg x = some (.ref f)) (hk : PySem.W.keepIn X.K (.ref f) = true) (hb : Binds X.K fd ps [])
    (ha : PA X (e :: es) t) (hdb : (x == ("__debug__" : Str)) = false) (he : starEach (e :: es) X.env = (false, eval e X.env) :: starEach es X.env) (hpl : (backTo pos (starEach es X.env)).any (·.1) = false) :
    PE X (.Call (.Name x p) (e :: es) [] pos) (tCG sp t) := by
  refine ⟨fun pins s σ H Q I h => ?_⟩
  refine wpAny_Call_Name_kw (ld_glob I hg hm ?_ hdb)
  refine PySem.W.callWith_K (h₀ := X.base) I.ok.mod.kin hk (thn (ha.run pos pins s σ H _ I h) fun us s1 ⟨vs, H1, I1, r, q⟩ => ⟨I1.kIn, ?_⟩) he hpl
  exact run_g F hgu hr hb I1 r q
end
theorem deeper_guards (A : Around) (env : PySem.Env) : (A.deeper env).guards = A.guards := rfl
/-- the rule of a def, by its body -/
theorem fn_g {P : Program} {w : World} {K : PySem.W.Frag} {mg : Str → Option Value} {base : Heap} {k : Nat} {f : Addr} {x qual : Str} {st : Stmt} {fd : FuncData} {N ps : List Str} {sp : SpG}
    (F : FunD K x qual (defArgs st) (defBody st) (defScope st) [] [] f fd) (S : FnScope N ps (defScope st)) (len : ∀ vs H Q, sp vs H Q → vs.length = ps.length)
    (hbody : ∀ (cdv : Value) (A : Around) (outer : List PySem.Env) (s : Shared) (H : Hp) (vs : List V) (Q : VK), A.guards = some [] → Room k (A.deeper (envOfC qual (defScope st) s.heap.objs.size f cdv)) → sp vs H Q →
      ∃ t, PSs (cxOf CX0 P w K mg base N qual (defScope st) f cdv A outer s H E0).nox (defBody st) t ∧ t { nx := fun _ H' => Q .non H', rt := Q } (L2.start N vs) H) : FnG P w K mg base (k + 1) f fd ps sp := by
  obtain ⟨oc, od, dV, kV, doc, pm, an, cdv, ct, osl, rfl, lk, hcd, _, _⟩ := F.ex
  refine ⟨len, fun A outer s H args us vs Q hgu hr e0 hb r hsp => ?_⟩
  have hl := len _ _ _ hsp
  have KX : K.In s.heap := e0.mod.kin.keeps fun b o e => (e0.bs b o e).1
  have lim : s.heap.NoLimit := e0.mod.nolimit.keeps fun b o e => (e0.bs b o e).1
  have hkind : ∀ y ∈ ps.zip us, (defScope st).names.lookup y.1 = some .local ∨ ((defScope st).names.lookup y.1 = some .cell ∧ ((cellsFrom (s.heap.objs.size + 1) (defScope st).names []).lookup y.1).isSome = true) := fun ⟨n, v⟩ hy => by
    rcases S.par n (List.of_mem_zip hy).1 with q | q
    · exact .inl q
    · exact .inr ⟨q, PySem.W.cellsFrom_some _ _ _ (.inl q)⟩
  refine codeAny_call_function hr.depth (KX _ _ lk) rfl S.co S.gen rfl (PySem.W.codeRec_of KX hcd) (hb _ _ _ _ ?_)
  refine wpAny_newFunctionEnv_cells S.kind hkind fun env he s1 xx => ?_
  subst he
  refine ⟨lim.keeps xx.toInCall.keep, codeAny_func ?_⟩
  obtain ⟨t, ht, hq⟩ := hbody cdv A outer s H vs Q hgu (hr.deeper _) hsp
  have I : Inv (cxOf CX0 P w K mg base N qual (defScope st) f cdv A outer s H E0) [] (L2.start N vs) H s1 := inv_start S hr.hd e0 hl r xx
  have fin : ∀ {σ' : L2.St} {H' : Hp} {v : V} {u : Value} {s' : Shared}, Inv (cxOf CX0 P w K mg base N qual (defScope st) f cdv A outer s H E0) [] σ' H' s' → L2.RelV v u → Q v H' → CE outer P w H s Q u s' :=
    fun {σ' H' v u s'} J rv q => ⟨v, H', J.os, J.bare, J.base, J.hok, rv, q⟩
  refine wpAny_mono (ht.nox.run [] s1 (L2.start N vs) H _ I hq) (fun fl s' hs => ?_) fun e s' hs => hs
  cases fl with
  | ret u =>
    obtain ⟨v, σ', H', J, rv, q⟩ := hs
    exact fin J rv q
  | next =>
    obtain ⟨σ', H', J, q⟩ := hs
    exact fin (v := V.non) (u := Value.none) J rfl q
  | brk =>
    obtain ⟨_, _, _, q⟩ := hs
    exact False.elim q
  | cont =>
    obtain ⟨_, _, _, q⟩ := hs
    exact False.elim q
/-! ### promises over plain data -/
def ArgR (K : PySem.W.Frag) (S : Option (Addr × Addr)) (G F : Hp) : Slot → V → Prop
  | .v d, x => Rp K G x d
  | .bor ds, x => ∃ a vs, x = .ref a ∧ F a = some (.lst vs) ∧ RpAll K G vs ds
  | .src, x => ∃ a l, S = some (a, l) ∧ x = .ref a
  | _, _ => False
inductive ArgsR (K : PySem.W.Frag) (S : Option (Addr × Addr)) (G F : Hp) : List V → List Slot → Prop
  | nil : ArgsR K S G F [] []
  | cons {v : V} {vs : List V} {s : Slot} {ss : List Slot} : ArgR K S G F s v → ArgsR K S G F vs ss → ArgsR K S G F (v :: vs) (s :: ss)
theorem ArgsR.length {K : PySem.W.Frag} {S : Option (Addr × Addr)} {G F : Hp} : ∀ {vs : List V} {ss : List Slot}, ArgsR K S G F vs ss → vs.length = ss.length
  | _, _, .nil => rfl
  | _, _, .cons _ r => by simp [ArgsR.length r]
theorem ArgsR.at {K : PySem.W.Frag} {S : Option (Addr × Addr)} {G F : Hp} : ∀ {vs : List V} {ss : List Slot} {i : Nat} {s : Slot}, ArgsR K S G F vs ss → ss[i]? = some s → ∃ v, vs[i]? = some v ∧ ArgR K S G F s v
  | _, _, _, _, .nil, h => by simp at h
  | _, _, 0, _, .cons r _, h => by simp at h; subst h; exact ⟨_, rfl, r⟩
  | _, _, i + 1, _, .cons _ r, h => by
    obtain ⟨v, h1, h2⟩ := ArgsR.at (i := i) r (by simpa using h)
    exact ⟨v, by simpa using h1, h2⟩
/-- what a def of n parameters is worth: φ -/
def spW (K : PySem.W.Frag) (n : Nat) (φ : List Slot → W D) : SpG := fun vs H Q => ∃ S ss G F P, ss.length = n ∧ Ok S G F H ∧ ArgsR K S G F vs ss ∧ φ ss P ∧
  ∀ d v G' F' H', P d → Stp S G F H G' F' H' → Rp K G' v d → Q v H'
/-- a call's arguments -/
def tArgs (c : Ctl) (f : Env → W (List Slot)) : TA := fun σ H Q => ∃ env G F P, Rel c env G F σ H ∧ f env P ∧
  ∀ ss vs G' F' H', P ss → Stp c.S G F H G' F' H' → ArgsR c.K c.S G' F' vs ss → Q vs H'
section
variable {X : Cx} {c : Ctl} {e : Expr} {pos : Pos} {cl1 : Bool} {f : Env → W D}
theorem ArgR.step {K : PySem.W.Frag} {S : Option (Addr × Addr)} {G F H G' F' H' : Hp} (q : Stp S G F H G' F' H') : ∀ {s : Slot} {x : V}, ArgR K S G F s x → ArgR K S G' F' s x
  | .v d, _, h => Rp.mono q.g h
  | .bor ds, _, ⟨a, vs, e, h1, h2⟩ => ⟨a, vs, e, q.f _ _ h1, h2.mono q.g⟩
  | .src, _, h => h
  | .no, _, h => h.elim
  | .own _, _, h => h.elim
theorem jc_nil : PA X [] (tArgs c fun _ P => P []) := by
  refine pa_nil.of fun σ H Q ⟨env, G, F, P, R, hw, hq⟩ => ?_
  exact hq [] [] G F H hw (.refl R.ok) .nil
theorem jc_cons {es : List Expr} {fs : Env → W (List Slot)} (hn : notStar e = true) (he : PE X e (tD c true f)) (hes : PA X es (tArgs c fs)) :
    PA X (e :: es) (tArgs c fun env P => f env fun d => fs env fun ds => P (.v d :: ds)) := by
  refine (pa_cons he hes (star_no hn)).of fun σ H Q ⟨env, G, F, P, R, hw, hq⟩ => ?_
  exact ⟨env, G, F, _, R, hw, fun d v G1 F1 H1 hd st1 ru1 hc1 sz1 => ⟨env, G1, F1, _, R.step st1, hd, fun ds vs G2 F2 H2 hds st2 ru2 => hq _ _ G2 F2 H2 hds (st1.trans st2) (.cons ((hc1 rfl).mono st2.g) ru2)⟩⟩
/-- a list lent -/
theorem jc_lent {es : List Expr} {fs : Env → W (List Slot)} (hn : notStar e = true) (he : PE X e (tD c cl1 f)) (hes : PA X es (tArgs c fs)) :
    PA X (e :: es) (tArgs c fun env P => f env fun d => match d with
      | .list xs => fs env fun ds => P (.bor xs :: ds)
      | _ => False) := by
  refine (pa_cons he hes (star_no hn)).of fun σ H Q ⟨env, G, F, P, R, hw, hq⟩ => ?_
  refine ⟨env, G, F, _, R, hw, fun d v G1 F1 H1 hd st1 ru1 hc1 sz1 => ?_⟩
  cases d <;> try exact hd.elim
  obtain ⟨a, vs, rfl, h1, r1⟩ := ru1.list st1.ok.gf
  exact ⟨env, G1, F1, _, R.step st1, hd, fun ds vs' G2 F2 H2 hds st2 ru2 => hq _ _ G2 F2 H2 hds (st1.trans st2) (.cons ⟨a, vs, rfl, st2.f _ _ h1, r1.mono st2.g⟩ ru2)⟩
/-- the source handed on -/
theorem jc_src {i : Nat} {x : Str} {p : Pos} {es : List Expr} {fs : Env → W (List Slot)} (hN : X.N[i]? = some x) (hv : Vis X.env.scope x) (hd : (x == ("__debug__" : Str)) = false) (hcd : (x == ("__classdict__" : Str)) = false) (hes : PA X es (tArgs c fs)) :
    PA X (.Name x p :: es) (tArgs c fun env P => env[i]? = some .src ∧ fs env fun ds => P (.src :: ds)) := by
  refine (pa_cons (pe_var hN hv hd hcd) hes (star_no rfl)).of fun σ H Q ⟨env, G, F, P, R, ⟨he, hw⟩, hq⟩ => ?_
  obtain ⟨v, h1, h2⟩ := R.sl i _ he (by simp)
  exact ⟨v, h1, env, G, F, _, R, hw, fun ds vs G2 F2 H2 hds st2 ru2 => hq _ _ G2 F2 H2 hds st2 (.cons h2 ru2)⟩
/-- a def of the text, called -/
structure CallOk (X : Cx) (c : Ctl) (x : Str) (n : Nat) (φ : List Slot → W D) : Prop where
  ex : ∃ (k : Nat) (f : Addr) (fd : FuncData) (ps : List Str), FnG X.prog X.w X.K X.mg X.base k f fd ps (spW X.K n φ) ∧ Room k X.A ∧ X.mg x = some (.ref f) ∧ PySem.W.keepIn X.K (.ref f) = true ∧ Binds X.K fd ps []
theorem je_call (hK : c.K = X.K) {x : Str} {n : Nat} {φ : List Slot → W D} {p : Pos} {es : List Expr} {fs : Env → W (List Slot)} (C : CallOk X c x n φ) (hgu : X.A.guards = some []) (hg : Gl X x) (hdb : (x == ("__debug__" : Str)) = false)
    (ha : PA X (e :: es) (tArgs c fs)) (he : starEach (e :: es) X.env = (false, eval e X.env) :: starEach es X.env) (hpl : (backTo pos (starEach es X.env)).any (·.1) = false) :
    PE X (.Call (.Name x p) (e :: es) [] pos) (tD0 c true fun env P => fs env fun ss => ss.length = n ∧ φ ss P) := by
  obtain ⟨k, f, fd, ps, F, hr, hm, hk, hb⟩ := C.ex
  refine (pe_callG F hgu hr hg hm hk hb ha hdb he hpl).of fun σ H Q ⟨env, G, F, P, R, hw, hq⟩ => ?_
  exact ⟨env, G, F, _, R, hw, fun ss vs G1 F1 H1 hd st1 ar => ⟨c.S, ss, G1, F1, P, hd.1, st1.ok, hK ▸ ar, hd.2, fun d v G2 F2 H2 hp st2 rp => hq d v G2 F2 H2 hp (st1.trans st2) (.rp (hK ▸ rp)) fun _ => hK ▸ rp⟩⟩
end
end Mi

set_option Elab.async false
set_option linter.all false
set_option maxRecDepth 100000
set_option maxHeartbeats 4000000
namespace Mi
open PySem PySem.Spec PyProof.Rows L2

def notSet : Expr → Bool
  | .Set .. => false
  | _ => true
theorem notSet_eq {e : Expr} {env : PySem.Env} (h : notSet e = true) (x : Value) : foldedSetIterable e env x = pure x := by
  cases e <;> first
    | rfl
    | (simp [notSet] at h; done)
section
variable {X : Cx} {c : Ctl} {a b e : Expr} {pos : Pos} {cl cl1 cl2 cl3 wk : Bool} {f g h : Env → W D}
theorem je_comp {elt tg iter : Expr} {ifs : List Expr} {scope : Scope} {own : List (Str × Nat)} {gi : Env → W (List D)} {g : D → Env → W Env} {t : Env → W Bool} {fe : Env → W D} {sl : List Nat} (hc : X.calm = true) (hN : X.N.Nodup) (hsl : ∀ i ∈ sl, i ∈ own.map (·.2))
    (hi : PI X tg iter (tI c cl wk gi)) (ok : BlkOk X.N X.env.scope scope own)
    (hg : ∀ (s : Shared) (H : Hp) (C : Addr) (cl : List (Str × Addr)) (fp : List Addr), PG (X.blk s H scope (compEnvC scope cl C X.env) fp) tg (tG c wk sl g)) (ht : ∀ (s : Shared) (H : Hp) (C : Addr) (cl : List (Str × Addr)) (fp : List Addr), PTs (X.blk s H scope (compEnvC scope cl C X.env) fp) ifs (tB c t))
    (he : ∀ (s : Shared) (H : Hp) (C : Addr) (cl : List (Str × Addr)) (fp : List Addr), PE (X.blk s H scope (compEnvC scope cl C X.env) fp) elt (tD c true fe)) (hs : notSet iter = true) :
    PE X (.ListComp elt [⟨tg, iter, ifs, 0⟩] scope pos) (tD0 c true (compW gi g t fe (own.map (·.2)))) :=
  (pe_lc hc hN hi ok hg ht he fun x => notSet_eq hs x).of fun σ H Q h => lc_ok hsl h

/-! ### sorted(xs, reverse=True) -/
theorem je_sortR (hK : c.K = X.K) (hs : SysOk X) {p p1 : Pos} {j : Nat} {kp : Pos} {fs : Env → W (List D)} (hu : X.A.units + 64 < cLine) (hg : Gl X "sorted") (hm : X.mg "sorted" = none) (hn : notStar e = true) (ha : PA X [e] (tAs c cl1 fs)) :
    PE X (.Call (.Name "sorted" p) [e] [⟨some "reverse", .Constant (.bool true) j p1, kp⟩] pos) (tD0 c true fun env P => fs env fun ds => sortW true ds P) := by
  have hcr : CallRK X (.builtin "sorted") [Str.ofString "reverse"] (fun xs zs H Q => zs = [.bl true] ∧ rC c (sortW true) xs H Q) := by
    intro pins s σ H xs zs us ws Q I r1 r2 h
    obtain ⟨rfl, h⟩ := h
    obtain ⟨w, rfl, rw'⟩ := r2.one
    cases (show w = Value.bool true from rw')
    exact call_sortR hK hu I r1 h
  have base := pe_callBK (pos := pos) (p := p) hcr hg hm (by decide +kernel) ha (pk_cons (nm := some "reverse") (kpos := kp) (pe_bl (X := X) (b := true) (j := j) (pos := p1)) pk_nil) (by decide) (by decide)
    (by rw [star_no hn]; rfl) (by rw [star_no hn]; rfl) rfl rfl rfl
  refine base.of fun σ H Q ⟨env, G, F, P, R, hw, hq⟩ => ?_
  refine ⟨env, G, F, _, R, hw, fun ds vs G1 F1 H1 hd st1 ru1 hc1 sz1 => ?_⟩
  exact ⟨rfl, G1, F1, ds, P, st1.ok, sz1, ru1, hd, fun d v G2 F2 H2 h2 st2 rp => hq d v G2 F2 H2 h2 (st1.trans st2) (.rp rp) fun _ => rp⟩

/-! ### isinstance(x, T) -/
theorem je_isi (hK : c.K = X.K) (T : Ty) {p p2 : Pos} (hg : Gl X "isinstance") (hm : X.mg "isinstance" = none) (hg2 : Gl X (Str.ofString T.name)) (hm2 : X.mg (Str.ofString T.name) = none) (hn : notStar e = true) (he : PE X e (tD c cl1 f)) :
    PE X (.Call (.Name "isinstance" p) [e, .Name (Str.ofString T.name) p2] [] pos) (tD0 c true fun env P => f env fun d => P (.bool (isD T d))) := by
  have hT : bootBuiltins (Str.ofString T.name) = some (.type T.name) ∧ Str.ofString T.name ≠ "__name__" ∧ (Str.ofString T.name == ("__debug__" : Str)) = false := by
    cases T <;> exact ⟨by decide +kernel, by decide +kernel, by decide +kernel⟩
  have hp2 : PE X (.Name (Str.ofString T.name) p2) (tC (.ty T.name)) := pe_bltn hg2 hm2 hT.1 rfl hT.2.1 hT.2.2
  have base := pe_callB (pos := pos) (p := p) (cr_isiW (X := X) (c := c) hK T) hg hm (by decide +kernel) (pa_cons he (pa_cons hp2 pa_nil rfl) (star_no hn)) (by decide) (by decide) (star_no hn) rfl
  refine base.of fun σ H Q ⟨env, G, F, P, R, hw, hq⟩ => ?_
  refine ⟨env, G, F, _, R, hw, fun d v G1 F1 H1 hd st1 ru1 hc1 sz1 => ?_⟩
  exact ⟨v, rfl, G1, F1, d, P, st1.ok, ru1, hd, fun d v G2 F2 H2 h2 st2 rp => hq d v G2 F2 H2 h2 (st1.trans st2) (.rp rp) fun _ => rp⟩

/-! ### list(range(..)), tuple(range(..)) -/
theorem rgV_rp {K : PySem.W.Frag} {G : Hp} (a b : Int) : RpAll K G (rgV a b) (rangeD a (b - a).toNat) := by
  unfold rgV rangeD
  have key : ∀ l : List Nat, RpAll K G (l.map fun i => V.int (a + (i : Nat))) (l.map fun i : Nat => PyData.int (a + (i : Int))) := by
    intro l
    induction l with
    | nil => exact .nil
    | cons x r ih => exact .cons (.int _) ih
  exact key _
theorem rgOk1 {n : Int} (h : -1000000000 ≤ n ∧ n ≤ 16777216) : RgOk 0 n := ⟨by omega, by omega, by omega, by omega, by omega⟩
theorem rgOk2 {i j : Int} (h : -1000000000 ≤ i ∧ i ≤ 1000000000 ∧ -1000000000 ≤ j ∧ j ≤ 1000000000 ∧ j - i ≤ 16777216) : RgOk i j := ⟨by omega, by omega, by omega, by omega, by omega⟩
theorem range2_of {d e : D} {P : List D → Prop} (h : range2W [d, e] P) : ∃ n m, d = .int n ∧ e = .int m ∧ (-1000000000 ≤ n ∧ n ≤ 1000000000 ∧ -1000000000 ≤ m ∧ m ≤ 1000000000 ∧ m - n ≤ 16777216) ∧ P (rangeD n (m - n).toNat) := by
  cases d with
  | int n =>
    cases e with
    | int m => exact ⟨n, m, rfl, rfl, h⟩
    | _ => exact h.elim
  | _ => cases e <;> exact h.elim
theorem je_listR1 {p p1 p2 : Pos} (hc : X.calm = true) (hg : Gl X "list") (hm : X.mg "list" = none) (hg2 : Gl X "range") (hm2 : X.mg "range" = none) (hn : notStar a = true) (ha : PE X a (tD c cl1 f)) :
    PE X (.Call (.Name "list" p) [.Call (.Name "range" p1) [a] [] p2] [] pos) (tD0 c true fun env P => f env fun d => range1W [d] fun ds => P (.list ds)) := by
  refine (pe_listRg hc hg hm (prg_1 (pos := p2) (p := p1) hg2 hm2 ha (star_no hn)) rfl).of fun σ H Q ⟨env, G, F, P, R, hw, hq⟩ => ?_
  refine ⟨env, G, F, _, R, hw, fun d v G1 F1 H1 hd st1 ru1 hc1 sz1 => ?_⟩
  cases d <;> try exact hd.elim
  rename_i n
  refine ⟨n, ru1.int, rgOk1 hd.1, fun q hq' => ?_⟩
  obtain ⟨st, rp⟩ := mk_list st1.ok hq' (rgV_rp (K := c.K) 0 n)
  exact hq _ _ _ _ _ (by simpa using hd.2) (st1.trans st) (.rp rp) fun _ => rp
theorem je_listR2 {p p1 p2 : Pos} (hc : X.calm = true) (hg : Gl X "list") (hm : X.mg "list" = none) (hg2 : Gl X "range") (hm2 : X.mg "range" = none) (hn : notStar a = true) (hn2 : notStar b = true) (ha : PE X a (tD c cl1 f)) (hb : PE X b (tD c cl2 g)) :
    PE X (.Call (.Name "list" p) [.Call (.Name "range" p1) [a, b] [] p2] [] pos) (tD0 c true fun env P => f env fun d => g env fun e => range2W [d, e] fun ds => P (.list ds)) := by
  refine (pe_listRg hc hg hm (prg_2 (pos := p2) (p := p1) hg2 hm2 ha hb (star_no hn) (star_no hn2) (by rw [star_no hn2]; rfl)) rfl).of fun σ H Q ⟨env, G, F, P, R, hw, hq⟩ => ?_
  refine ⟨env, G, F, _, R, hw, fun d v G1 F1 H1 hd st1 ru1 hc1 sz1 => ⟨env, G1, F1, _, R.step st1, hd, fun e u G2 F2 H2 he st2 ru2 _ sz2 => ?_⟩⟩
  obtain ⟨n, m, rfl, rfl, he⟩ := range2_of he
  refine ⟨n, m, ru1.int, ru2.int, rgOk2 he.1, fun q hq' => ?_⟩
  obtain ⟨st, rp⟩ := mk_list st2.ok hq' (rgV_rp (K := c.K) n m)
  exact hq _ _ _ _ _ he.2 ((st1.trans st2).trans st) (.rp rp) fun _ => rp
def tTupRgN (te : L2.St → Hp → (Int → Int → Hp → Prop) → Prop) : TE := fun σ H Q => te σ H fun a b H1 => RgOk a b ∧ NewT H1 Q (rgV a b)
theorem pe_tupRgN {p pos : Pos} {te : L2.St → Hp → (Int → Int → Hp → Prop) → Prop} (hc : X.calm = true) (hg : Gl X "tuple") (hm : X.mg "tuple" = none) (he : PRg X e te) (na : starEach [e] X.env = (false, eval e X.env) :: starEach [] X.env) :
    PE X (.Call (.Name "tuple" p) [e] [] pos) (tTupRgN te) := by
  refine ⟨fun pins s σ H Q I h => ?_⟩
  refine Call_ (ld_blt I hg hm boot_tuple (PyProof.Rows.callWith_type1 (args_cons (thn (he pins s σ H _ I h) fun x s1 ⟨r, a, b, t, u, v, H1, ex, hr, I1, ok, q⟩ => args_nil ?_) na) na))
  subst ex
  obtain ⟨b1, b2, b3, b4, b5⟩ := ok
  refine call_tuple_range (n := (b - a).toNat) (I1.ok.hd hc) hr (small_one b1 b2 b3 b4) (rangeSize_nat a b) b5 fun h' tk acc hk hi => ?_
  have I2 : Inv X pins σ H1 { s1 with heap := h', toks := tk } := I1.kept hk
  have ea : acc = acc.toList.toArray := by rw [Array.toArray_toList]
  rw [ea]
  exact got_tup (s := { s1 with heap := h', toks := tk }) (t' := tk) q I2 (fun c o e => Heap.get?_push_of_some _ e) (Nat.le_refl _) (by rw [rgV_length, sizeLine_eq]; omega) (vals_rg hi) (Heap.get?_push_size _ rfl)
theorem je_tupR1 {p p1 p2 : Pos} (hc : X.calm = true) (hg : Gl X "tuple") (hm : X.mg "tuple" = none) (hg2 : Gl X "range") (hm2 : X.mg "range" = none) (hn : notStar a = true) (ha : PE X a (tD c cl1 f)) :
    PE X (.Call (.Name "tuple" p) [.Call (.Name "range" p1) [a] [] p2] [] pos) (tD0 c true fun env P => f env fun d => range1W [d] fun ds => P (.tuple ds)) := by
  refine (pe_tupRgN hc hg hm (prg_1 (pos := p2) (p := p1) hg2 hm2 ha (star_no hn)) rfl).of fun σ H Q ⟨env, G, F, P, R, hw, hq⟩ => ?_
  refine ⟨env, G, F, _, R, hw, fun d v G1 F1 H1 hd st1 ru1 hc1 sz1 => ?_⟩
  cases d <;> try exact hd.elim
  rename_i n
  refine ⟨n, ru1.int, rgOk1 hd.1, fun q o hq' ho => ?_⟩
  obtain ⟨st, rp⟩ := mk_tup ho st1.ok hq' (rgV_rp (K := c.K) 0 n)
  exact hq _ _ _ _ _ (by simpa using hd.2) (st1.trans st) (.rp rp) fun _ => rp
theorem je_tupR2 {p p1 p2 : Pos} (hc : X.calm = true) (hg : Gl X "tuple") (hm : X.mg "tuple" = none) (hg2 : Gl X "range") (hm2 : X.mg "range" = none) (hn : notStar a = true) (hn2 : notStar b = true) (ha : PE X a (tD c cl1 f)) (hb : PE X b (tD c cl2 g)) :
    PE X (.Call (.Name "tuple" p) [.Call (.Name "range" p1) [a, b] [] p2] [] pos) (tD0 c true fun env P => f env fun d => g env fun e => range2W [d, e] fun ds => P (.tuple ds)) := by
  refine (pe_tupRgN hc hg hm (prg_2 (pos := p2) (p := p1) hg2 hm2 ha hb (star_no hn) (star_no hn2) (by rw [star_no hn2]; rfl)) rfl).of fun σ H Q ⟨env, G, F, P, R, hw, hq⟩ => ?_
  refine ⟨env, G, F, _, R, hw, fun d v G1 F1 H1 hd st1 ru1 hc1 sz1 => ⟨env, G1, F1, _, R.step st1, hd, fun e u G2 F2 H2 he st2 ru2 _ sz2 => ?_⟩⟩
  obtain ⟨n, m, rfl, rfl, he⟩ := range2_of he
  refine ⟨n, m, ru1.int, ru2.int, rgOk2 he.1, fun q o hq' ho => ?_⟩
  obtain ⟨st, rp⟩ := mk_tup ho st2.ok hq' (rgV_rp (K := c.K) n m)
  exact hq _ _ _ _ _ he.2 ((st1.trans st2).trans st) (.rp rp) fun _ => rp

/-! ### xs.index(k) of ints -/
def indexW (d e : D) (P : D → Prop) : Prop := ∃ (ns : List Int) (k : Int), (d = .list (ns.map PyData.int) ∨ d = .tuple (ns.map PyData.int)) ∧ e = .int k ∧ k ∈ ns ∧ P (.int (ns.idxOf k : Nat))
theorem je_index (hK : c.K = X.K) {apos : Pos} (hba : attributeBase a "index" X.env (eval a X.env) = eval a X.env) (hline : (apos.endLine == pos.line) = true) (hn : notStar e = true) (ha : PE X a (tD c cl1 f)) (he : PE X e (tD c cl2 g)) :
    PE X (.Call (.Attribute a "index" apos) [e] [] pos) (tD0 c true fun env P => f env fun d => (match d with | .list _ => True | .tuple _ => True | _ => False) ∧ g env fun e => indexW d e P) := by
  have hs := star_no (es := []) (env := X.env) hn
  refine ⟨fun pins s σ H Q I ⟨env, G, F, P, R, hw, hq⟩ => ?_⟩
  refine wpAny_Call_method_late hba (by rw [hs]; rfl) hline rfl (thn (ha.run pins s σ H (fun v H1 => ∃ d G1 F1, ((match d with | .list _ => True | .tuple _ => True | _ => False) ∧ g env fun e => indexW d e P) ∧ Stp c.S G F H G1 F1 H1 ∧ RpU c.K G1 F1 v d ∧ Sz c.K H1) I ⟨env, G, F, _, R, hw, fun d v G1 F1 H1 hd st ru _ sz => ⟨d, G1, F1, hd, st, ru, sz⟩⟩) fun v s1 ⟨x, H1, I1, r1, d, G1, F1, ⟨hcase, hd⟩, st1, ru1, sz1⟩ => ?_)
  have go : ∀ (T id : String), PlainAttrs T → _root_.PySem.Slot T "index" id → typeOf (.builtin id) = pure (.type "method_descriptor") → s1.TypeIs v T → (∀ a, v = .ref a → ∃ ob, s1.heap.get? a = some ob ∧ ob.dict = none) →
      (∀ (s2 : Shared) (H2 : Hp) (ns : List Int) (k : Int) (t : Tok) (G2 F2 : Hp), Inv X pins σ H2 s2 → (d = .list (ns.map PyData.int) ∨ d = .tuple (ns.map PyData.int)) → Stp c.S G1 F1 H1 G2 F2 H2 → k ∈ ns → Q (.int (ns.idxOf k : Nat)) H2 → wpAny (model X.prog X.w) X.A (call (.builtin id) [v, .int k t]) (EP X pins σ Q) X.xe s2) →
      MethodOn X.prog X.w X.A "index" pos v (backTo pos (starEach [e] X.env)) (EP X pins σ Q) X.xe s1 := fun T id pa slot hty h1 h2 hcall => by
    refine ⟨T, id, pa, slot, hty, h1, h2, ?_⟩
    have hA := (pa_cons he pa_nil hs).run pos pins s1 σ H1 (fun vs H2 => ∃ e y G2 F2, vs = [y] ∧ indexW d e P ∧ Stp c.S G1 F1 H1 G2 F2 H2 ∧ RpU c.K G2 F2 y e) I1 ⟨env, G1, F1, _, R.step st1, hd, fun e y G2 F2 H2 he st2 ru2 _ _ => ⟨e, y, G2, F2, rfl, he, st2, ru2⟩⟩
    rw [hs] at hA ⊢
    refine Calls.callWith_builtin rfl (Calls.evalArgs_plain (thn hA fun us s2 ⟨vs, H2, I2, r2, e, y, G2, F2, ev, he, st2, ru2⟩ => ?_))
    subst ev
    obtain ⟨u, rfl, ru⟩ := r2.one
    obtain ⟨ns, k, hd, rfl, hk, hP⟩ := he
    have hy := ru2.int
    subst hy
    obtain ⟨t, rfl⟩ := ru
    exact hcall s2 H2 ns k t G2 F2 I2 hd st2 hk (hq _ _ _ _ _ hP (st1.trans st2) (.rp (.int _)) fun _ => .int _)
  cases d with
  | list ds =>
    obtain ⟨p, vs, rfl, h1, r1'⟩ := ru1.list st1.ok.gf
    obtain ⟨t1, t2⟩ := tyV_is I1 r1 (T := "list") (.inl ⟨rfl, vs, .of (st1.ok.fh _ _ h1)⟩)
    cases r1
    refine go "list" "list.index" PySem.F.plainAttrs_list PySem.F.slot_list_index PySem.F.type_list_index t1 t2 fun s2 H2 ns k t G2 F2 I2 hd st2 hk q => ?_
    have e : ds = ns.map PyData.int := by rcases hd with hd | hd <;> cases hd; rfl
    subst e
    have ev := RpAll.of_ints r1'
    subst ev
    obtain ⟨its, rv, pl, hz⟩ := I2.list (.of (st2.ok.fh _ _ (st2.f _ _ h1)))
    exact PySem.SeqAt.list_index_ints pl.isList (ints_of_vals rv) (by simpa using hz) hk ⟨.int _, H2, I2.tok _, ⟨_, rfl⟩, q⟩
  | tuple ds =>
    obtain ⟨p, vs, rfl, ⟨o, h1, ho⟩, r1'⟩ := ru1.tupleN
    cases r1
    obtain ⟨hget, hz', its', rv', ⟨o', ho', hcl, _⟩⟩ := I1.hok p _ (st1.ok.fh _ _ (st1.ok.gf _ _ h1))
    refine go "tuple" "tuple.index" PySem.F.plainAttrs_tuple PySem.F.slot_tuple_index PySem.F.type_tuple_index ⟨o', ho', hcl⟩ (fun a e => by cases e; exact ⟨o, hget, ho⟩) fun s2 H2 ns k t G2 F2 I2 hd st2 hk q => ?_
    have e : ds = ns.map PyData.int := by rcases hd with hd | hd <;> cases hd; rfl
    subst e
    have ev := RpAll.of_ints r1'
    subst ev
    have hT : SqT X.K H2 p (ns.map V.int) := .inl (.inr ⟨o, st2.ok.fh _ _ (st2.f _ _ (st1.ok.gf _ _ h1))⟩)
    obtain ⟨its, rv, pl, hz⟩ := I2.tuple hT
    exact PySem.SeqAt.tuple_index_ints pl (ints_of_vals rv) hk ⟨.int _, H2, I2.tok _, ⟨_, rfl⟩, q⟩
  | _ => exact hcase.elim
end
end Mi

set_option Elab.async false
set_option linter.all false
set_option maxRecDepth 100000
set_option maxHeartbeats 4000000
namespace Mi
open PySem PySem.Spec PyProof.Rows L2

/-! ### what an assignment stores -/
def SlotN (c : Ctl) (G F H : Hp) : Slot → V → Prop
  | .v d, x => Rp c.K G x d
  | .own ds, x => ∃ a vs, x = .ref a ∧ F a = some (.lst vs) ∧ G a = none ∧ H a = none ∧ RpAll c.K G vs ds
  | _, _ => False
/-- a value, or a new list -/
def tX (c : Ctl) (f : Env → W Slot) : TE := fun σ H Q => ∃ env G F P, Rel c env G F σ H ∧ f env P ∧
  ∀ s v G' F' H', P s → Stp c.S G F H G' F' H' → SlotN c G' F' H s v → Q v H'
structure SlotsN (c : Ctl) (G F H : Hp) (ss : List Slot) (vs : List V) : Prop where
  at' : ∀ (i : Nat) s, ss[i]? = some s → ∃ v, vs[i]? = some v ∧ SlotN c G F H s v
  len : vs.length = ss.length
  ap : ∀ (i j : Nat) ds es a, i ≠ j → ss[i]? = some (.own ds) → ss[j]? = some (.own es) → vs[i]? = some (.ref a) → vs[j]? = some (.ref a) → False
def tXs (c : Ctl) (f : Env → W (List Slot)) : TA := fun σ H Q => ∃ env G F P, Rel c env G F σ H ∧ f env P ∧
  ∀ ss vs G' F' H', P ss → Stp c.S G F H G' F' H' → SlotsN c G' F' H ss vs → Q vs H'
/-- a list made anew -/
def tF (c : Ctl) (f : Env → W (List D)) : TE := fun σ H Q => ∃ env G F P, Rel c env G F σ H ∧ f env P ∧
  ∀ ds vs G' F' H' p, P ds → Stp c.S G F H G' F' H' → RpAll c.K G' vs ds → H' p = none → Q (.ref p) (upd H' p (.lst vs))
theorem SlotN.step {c : Ctl} {G F H H0 G' F' H' : Hp} (ok : Ok c.S G F H) (q : Stp c.S G F H G' F' H') : ∀ {s : Slot} {x : V}, SlotN c G F H0 s x → SlotN c G' F' H0 s x
  | .v d, _, h => Rp.mono q.g h
  | .own ds, _, ⟨a, vs, e, h1, h2, h3, h4⟩ => by
    have hg : G' a = none := by
      cases z : G' a with
      | none => rfl
      | some o =>
        rcases q.ng a o z with z | z
        · rw [h2] at z; cases z
        · rw [ok.fh _ _ h1] at z; cases z
    exact ⟨a, vs, e, q.f _ _ h1, hg, h3, RpAll.mono q.g h4⟩
  | .no, _, h => h.elim
  | .bor _, _, h => h.elim
  | .src, _, h => h.elim
section
variable {X : Cx} {c : Ctl} {a b e : Expr} {pos : Pos} {cl cl1 cl2 cl3 wk : Bool} {f g h : Env → W D}
theorem jx_val (he : PE X e (tD0 c true f)) : PE X e (tX c fun env P => f env fun d => P (.v d)) :=
  he.of fun σ H Q ⟨env, G, F, P, R, hw, hq⟩ => ⟨env, G, F, _, R, hw, fun d v G' F' H' hp st _ hc => hq _ _ _ _ _ hp st (hc rfl)⟩
theorem jx_new {f : Env → W (List D)} (he : PE X e (tF c f)) : PE X e (tX c fun env P => f env fun ds => P (.own ds)) := by
  refine he.of fun σ H Q ⟨env, G, F, P, R, hw, hq⟩ => ⟨env, G, F, _, R, hw, fun ds vs G' F' H' p hp st r hn => ?_⟩
  have st2 := Stp.newOwn st.ok hn (.lst vs)
  refine hq _ _ _ _ _ hp (st.trans st2) ⟨p, vs, rfl, upd_same, st.ok.gf.free (st.ok.fh.free hn), ?_, r⟩
  cases z : H p with
  | none => rfl
  | some o => exact absurd hn (st.al p (by rw [z]; simp))
theorem je_new {f : Env → W (List D)} (he : PE X e (tF c f)) : PE X e (tD0 c true fun env P => f env fun ds => P (.list ds)) := by
  refine he.of fun σ H Q ⟨env, G, F, P, R, hw, hq⟩ => ⟨env, G, F, _, R, hw, fun ds vs G' F' H' p hp st r hn => ?_⟩
  obtain ⟨st2, rp⟩ := mk_list st.ok hn r
  exact hq _ _ _ _ _ hp (st.trans st2) (.rp rp) fun _ => rp
theorem jf_lst {es : List Expr} {fs : Env → W (List D)} (hes : PA X es (tAs c true fs)) : PE X (.List es pos) (tF c fun env P => fs env fun ds => ds.length ≤ 16777216 ∧ P ds) := by
  refine (pe_lst hes).of fun σ H Q ⟨env, G, F, P, R, hw, hq⟩ => ?_
  refine ⟨env, G, F, _, R, hw, fun ds vs G1 F1 H1 hd st1 ru1 hc sz1 => ⟨by rw [sizeLine_eq, (hc rfl).length]; exact hd.1, fun p hp => ?_⟩⟩
  exact hq _ _ _ _ _ _ hd.2 st1 (hc rfl) hp
theorem jf_listOf (hK : c.K = X.K) {p : Pos} (hg : Gl X "list") (hm : X.mg "list" = none) (hn : notStar e = true) (he : PE X e (tD c cl1 f)) :
    PE X (.Call (.Name "list" p) [e] [] pos) (tF c fun env P => f env fun d => itemsW d P) := by
  refine (pe_callTy (call_list_of) hg hm (by decide +kernel) (pa_cons he pa_nil (star_no hn)) (by decide) (by decide) (star_no hn) rfl).of fun σ H Q ⟨env, G, F, P, R, hw, hq⟩ => ?_
  refine ⟨env, G, F, _, R, hw, fun d v G1 F1 H1 hd st1 ru1 hc sz1 => ?_⟩
  cases d <;> try exact hd.elim
  · obtain ⟨a, vs, rfl, h1, r1⟩ := ru1.list st1.ok.gf
    exact ⟨a, vs, rfl, .inl (.of (st1.ok.fh _ _ h1)), fun p hp => hq _ _ _ _ _ _ hd st1 r1 hp⟩
  · obtain ⟨a, vs, rfl, h1, r1⟩ := ru1.tuple
    exact ⟨a, vs, rfl, .inr (sqT_mono (st1.ok.gf.trans st1.ok.fh) (hK ▸ h1)), fun p hp => hq _ _ _ _ _ _ hd st1 r1 hp⟩
theorem jf_listR1 {p p1 p2 : Pos} (hc : X.calm = true) (hg : Gl X "list") (hm : X.mg "list" = none) (hg2 : Gl X "range") (hm2 : X.mg "range" = none) (hn : notStar a = true) (ha : PE X a (tD c cl1 f)) :
    PE X (.Call (.Name "list" p) [.Call (.Name "range" p1) [a] [] p2] [] pos) (tF c fun env P => f env fun d => range1W [d] P) := by
  refine (pe_listRg hc hg hm (prg_1 (pos := p2) (p := p1) hg2 hm2 ha (star_no hn)) rfl).of fun σ H Q ⟨env, G, F, P, R, hw, hq⟩ => ?_
  refine ⟨env, G, F, _, R, hw, fun d v G1 F1 H1 hd st1 ru1 hc1 sz1 => ?_⟩
  cases d <;> try exact hd.elim
  rename_i n
  exact ⟨n, ru1.int, rgOk1 hd.1, fun q hq' => hq _ _ _ _ _ _ (by simpa using hd.2) st1 (rgV_rp (K := c.K) 0 n) hq'⟩
/-- [..] * k -/
def repW (ds : List D) (e : D) (P : List D → Prop) : Prop := match e with
  | .int k => (0 ≤ k ∧ k ≤ 1000 ∧ ds.length ≤ 1000) ∧ P (List.replicate k.toNat ds).flatten
  | _ => False
theorem jf_rep (hK : c.K = X.K) (ha : PE X a (tD c cl1 f)) (hb : PE X b (tD c cl2 g)) :
    PE X (.BinOp a .Mult b pos) (tF c fun env P => f env fun d => (match d with | .list _ => True | _ => False) ∧ g env fun e => match d with | .list ds => repW ds e P | _ => False) := by
  refine (pe_op op_rep ha hb).of fun σ H Q ⟨env, G, F, P, R, hw, hq⟩ => ?_
  refine ⟨env, G, F, _, R, hw, fun d v G1 F1 H1 hd st1 ru1 _ sz1 => ?_⟩
  cases d <;> try exact hd.1.elim
  rename_i ds
  obtain ⟨a, vs, rfl, h1, r1⟩ := ru1.list st1.ok.gf
  refine ⟨env, G1, F1, _, R.step st1, hd.2, fun e u G2 F2 H2 he st2 ru2 _ sz2 => ?_⟩
  cases e <;> try exact he.elim
  rename_i k _
  obtain ⟨⟨w1, w2, w3⟩, he⟩ := he
  refine ⟨a, k, vs, rfl, ru2.int, st2.ok.fh _ _ (st2.f _ _ h1), by omega, by omega, ?_, fun p hp => hq _ _ _ _ _ _ he (st1.trans st2) ((r1.mono st2.g).rep _) hp⟩
  rw [sizeLine_eq, r1.length]
  exact Nat.le_trans (Nat.mul_le_mul w3 (show Int.toNat _ ≤ 1000 by omega)) (by decide)
/-! pairs of them -/
theorem jxs_nil : PA X [] (tXs c fun _ P => P []) := by
  refine pa_nil.of fun σ H Q ⟨env, G, F, P, R, hw, hq⟩ => ?_
  exact hq [] [] G F H hw (.refl R.ok) ⟨fun i s e => by simp at e, rfl, fun i j _ _ _ _ e => by simp at e⟩
theorem jxs_cons {es : List Expr} {fx : Env → W Slot} {fs : Env → W (List Slot)} (hn : notStar e = true) (he : PE X e (tX c fx)) (hes : PA X es (tXs c fs)) :
    PA X (e :: es) (tXs c fun env P => fx env fun s => fs env fun ss => P (s :: ss)) := by
  refine (pa_cons he hes (star_no hn)).of fun σ H Q ⟨env, G, F, P, R, hw, hq⟩ => ?_
  refine ⟨env, G, F, _, R, hw, fun s v G1 F1 H1 hd st1 sn1 => ⟨env, G1, F1, _, R.step st1, hd, fun ss vs G2 F2 H2 hds st2 sn2 => hq _ _ G2 F2 H2 hds (st1.trans st2) ⟨fun i s' e => ?_, by simp [sn2.len], fun i j ds es a hij e1 e2 h1 h2 => ?_⟩⟩⟩
  · cases i with
    | zero =>
      simp at e; subst e
      exact ⟨v, rfl, sn1.step st1.ok st2⟩
    | succ i =>
      obtain ⟨w, h1, h2⟩ := sn2.at' i s' (by simpa using e)
      refine ⟨w, by simpa using h1, ?_⟩
      cases s' with
      | own es =>
        obtain ⟨a, ws, e1, e2, e3, e4, e5⟩ := h2
        refine ⟨a, ws, e1, e2, e3, ?_, e5⟩
        cases z : H a with
        | none => rfl
        | some o => exact absurd e4 (st1.al a (by rw [z]; simp))
      | v d => exact h2
      | _ => exact h2.elim
  · have key : ∀ {n : Nat} {es : List D} {s0 : List D}, s = .own s0 → ss[n]? = some (.own es) → v = .ref a → vs[n]? = some (.ref a) → False := fun {n es s0} e0 f1 f2 f3 => by
      subst e0
      obtain ⟨b, ws, eb, h1, _⟩ := sn1
      rw [f2] at eb; cases eb
      obtain ⟨w, q1, b', ws', q2, q3, q4, q5, _⟩ := sn2.at' n _ f1
      rw [f3] at q1; cases q1; cases q2
      rw [st1.ok.fh _ _ h1] at q5; cases q5
    cases i with
    | zero =>
      cases j with
      | zero => exact hij rfl
      | succ j => exact key (by simpa using e1) (by simpa using e2) (by simpa using h1) (by simpa using h2)
    | succ i =>
      cases j with
      | zero => exact key (by simpa using e2) (by simpa using e1) (by simpa using h2) (by simpa using h1)
      | succ j => exact sn2.ap i j ds es a (by omega) (by simpa using e1) (by simpa using e2) (by simpa using h1) (by simpa using h2)
end
/-! ### statements -/
structure EndsM where
  nx : Env → Prop
  rt : D → Prop
  bk : Env → Prop
  ct : Env → Prop
def tS (c : Ctl) (f : Env → EndsM → Prop) : TS := fun D σ H => ∃ env G F E, Rel c env G F σ H ∧ f env E ∧
  (∀ env' σ' G' F' H', E.nx env' → Rel c env' G' F' σ' H' → Same G G' → D.nx σ' H') ∧
  (∀ d v env' σ' G' F' H', E.rt d → Rel c env' G' F' σ' H' → Rp c.K G' v d → D.rt v H') ∧
  (∀ env' σ' G' F' H', E.bk env' → Rel c env' G' F' σ' H' → Same G G' → D.bk σ' H') ∧
  (∀ env' σ' G' F' H', E.ct env' → Rel c env' G' F' σ' H' → Same G G' → D.ct σ' H')
theorem Rel.setX {c : Ctl} {env : Env} {G F H : Hp} {σ : L2.St} {i : Nat} {v : V} {s : Slot} (R : Rel c env G F σ H) (hi : i < σ.length) (r : SlotR c G F s v)
    (hn : ∀ ds a, s = .own ds → v = .ref a → ∀ (j : Nat) es, j ≠ i → env[j]? = some (.own es) → σ[j]? ≠ some (some (.ref a))) : Rel c (env.set i s) G F (σ.set i (some v)) H := by
  have self : ∀ {m : Nat} {t : Slot}, (env.set i s)[m]? = some t → (m = i ∧ t = s) ∨ (m ≠ i ∧ env[m]? = some t) := fun {m t} e => by
    by_cases hj : m = i
    · subst hj
      have hl : m < env.length := by
        have := (List.getElem?_eq_some_iff.mp e).1
        simpa using this
      rw [List.getElem?_set_self hl] at e
      cases e
      exact .inl ⟨rfl, rfl⟩
    · rw [List.getElem?_set_ne (Ne.symm hj)] at e
      exact .inr ⟨hj, e⟩
  refine ⟨R.ok, R.fr, R.al, R.g0, R.ng0, fun j t e n => ?_, fun j k ds es a hjk e1 e2 h1 h2 => ?_⟩
  · rcases self e with ⟨rfl, rfl⟩ | ⟨hj, e⟩
    · exact ⟨v, List.getElem?_set_self hi, r⟩
    · obtain ⟨x, h1, h2⟩ := R.sl j t e n
      exact ⟨x, by rw [List.getElem?_set_ne (Ne.symm hj)]; exact h1, h2⟩
  · rcases self e1 with ⟨rfl, z⟩ | ⟨n1, e1⟩
    · rcases self e2 with ⟨z2, _⟩ | ⟨n2, e2⟩
      · exact hjk z2.symm
      · rw [List.getElem?_set_self hi] at h1
        rw [List.getElem?_set_ne (Ne.symm n2)] at h2
        exact hn ds a z.symm (by simpa using h1) k es n2 e2 h2
    · rw [List.getElem?_set_ne (Ne.symm n1)] at h1
      rcases self e2 with ⟨z2, z⟩ | ⟨n2, e2⟩
      · rw [z2, List.getElem?_set_self hi] at h2
        exact hn es a z.symm (by simpa using h2) j ds n1 e1 h1
      · rw [List.getElem?_set_ne (Ne.symm n2)] at h2
        exact R.ap j k ds es a hjk e1 e2 h1 h2
theorem SlotN.slotR {c : Ctl} {env : Env} {G0 F0 G F H : Hp} {σ : L2.St} (R : Rel c env G0 F0 σ H) : ∀ {s : Slot} {v : V}, SlotN c G F H s v → SlotR c G F s v
  | .v d, _, h => h
  | .own ds, _, ⟨a, vs, e, h1, h2, h3, h4⟩ => by
    refine ⟨a, vs, e, h1, h2, ?_, h4⟩
    cases z : c.H0 a with
    | none => rfl
    | some o => exact absurd h3 (R.al a (by rw [z]; simp))
  | .no, _, h => h.elim
  | .bor _, _, h => h.elim
  | .src, _, h => h.elim
/-- an assignment of what was made since H -/
theorem Rel.setN {c : Ctl} {env : Env} {G F H G1 F1 H1 : Hp} {σ : L2.St} {i : Nat} {v : V} {s : Slot} (R : Rel c env G F σ H) (st : Stp c.S G F H G1 F1 H1) (hi : i < σ.length) (r : SlotN c G1 F1 H s v) : Rel c (env.set i s) G1 F1 (σ.set i (some v)) H1 := by
  refine (R.step st).setX hi (r.slotR R) fun ds a e1 e2 j es hj e3 e4 => ?_
  subst e1 e2
  obtain ⟨b, vs, eb, h1, h2, h3, h4⟩ := r
  cases eb
  obtain ⟨x, hx, b', ws, eb', q1, _⟩ := R.sl j _ e3 (by simp)
  rw [e4] at hx
  cases hx
  cases eb'
  rw [R.ok.fh _ _ q1] at h3
  cases h3
theorem _root_.L2.PS.ofL {X : Cx} {e : Stmt} {t t' : TS} (h : PS X e t) (w : ∀ D σ H, σ.length = X.N.length → t' D σ H → t D σ H) : PS X e t' := ⟨fun pins s σ H D I hw => h.run pins s σ H D I (w D σ H I.len hw)⟩
section
variable {X : Cx} {c : Ctl} {a b e : Expr} {pos : Pos} {cl cl1 cl2 cl3 wk : Bool} {f g h : Env → W D} {u u2 : Env → EndsM → Prop} {st : Stmt} {sts : List Stmt}
def seqS (u v : Env → EndsM → Prop) : Env → EndsM → Prop := fun env E => u env { E with nx := fun env' => v env' E }
theorem jss_nil : PSs X [] (tS c fun env E => E.nx env) := by
  refine pss_nil.of fun D σ H ⟨env, G, F, E, R, hw, h1, h2, h3, h4⟩ => ?_
  exact h1 _ _ _ _ _ hw R (.refl _)
theorem jss_cons (hs : PS X st (tS c u)) (hss : PSs X sts (tS c u2)) : PSs X (st :: sts) (tS c (seqS u u2)) := by
  refine (pss_cons hs hss).of fun D σ H ⟨env, G, F, E, R, hw, h1, h2, h3, h4⟩ => ?_
  refine ⟨env, G, F, _, R, hw, fun env' σ' G' F' H' q R' sg => ?_, h2, h3, h4⟩
  exact ⟨env', G', F', E, R', q, fun _ _ _ _ _ e R2 s2 => h1 _ _ _ _ _ e R2 (sg.trans s2), h2, fun _ _ _ _ _ e R2 s2 => h3 _ _ _ _ _ e R2 (sg.trans s2), fun _ _ _ _ _ e R2 s2 => h4 _ _ _ _ _ e R2 (sg.trans s2)⟩
theorem js_pass : PS X (.Pass pos) (tS c fun env E => E.nx env) := by
  refine ps_pass.of fun D σ H ⟨env, G, F, E, R, hw, h1, h2, h3, h4⟩ => ?_
  exact h1 _ _ _ _ _ hw R (.refl _)
theorem js_break : PS X (.Break pos) (tS c fun env E => E.bk env) := by
  refine ps_break.of fun D σ H ⟨env, G, F, E, R, hw, h1, h2, h3, h4⟩ => ?_
  exact h3 _ _ _ _ _ hw R (.refl _)
theorem js_cont : PS X (.Continue pos) (tS c fun env E => E.ct env) := by
  refine ps_continue.of fun D σ H ⟨env, G, F, E, R, hw, h1, h2, h3, h4⟩ => ?_
  exact h4 _ _ _ _ _ hw R (.refl _)
theorem js_never : PS X st (tS c fun _ _ => False) := ⟨fun _ _ _ _ _ _ ⟨_, _, _, _, _, h, _⟩ => h.elim⟩
theorem js_ret (he : PE X e (tD0 c true f)) : PS X (.Return (some e) pos) (tS c fun env E => f env E.rt) := by
  refine (ps_ret he).of fun D σ H ⟨env, G, F, E, R, hw, h1, h2, h3, h4⟩ => ?_
  exact ⟨env, G, F, _, R, hw, fun d v G' F' H' hp st _ hc => h2 _ _ _ _ _ _ _ hp (R.step st) (hc rfl)⟩
theorem js_retN : PS X (.Return none pos) (tS c fun env E => E.rt .none) := by
  refine ps_retN.of fun D σ H ⟨env, G, F, E, R, hw, h1, h2, h3, h4⟩ => ?_
  exact h2 _ _ _ _ _ _ _ hw R .non
theorem js_drop (he : PE X e (tD0 c cl f)) (hs : swapsWith e none pos.line X.env = pure false) : PS X (.Expr e pos) (tS c fun env E => f env fun _ => E.nx env) := by
  refine (ps_expr he hs).of fun D σ H ⟨env, G, F, E, R, hw, h1, h2, h3, h4⟩ => ?_
  exact ⟨env, G, F, _, R, hw, fun d v G' F' H' hp st _ hc => h1 _ _ _ _ _ hp (R.step st) st.g⟩
theorem js_doc {x j pos'} : PS X (.Expr (.Constant (.str x) j pos) pos') (tS c fun env E => E.nx env) := by
  refine ps_doc.of fun D σ H ⟨env, G, F, E, R, hw, h1, h2, h3, h4⟩ => ?_
  exact h1 _ _ _ _ _ hw R (.refl _)
theorem js_if {t : Env → W Bool} {p q : List Stmt} (ht : PT X e (tB c t)) (hp : PSs X p (tS c u)) (hq : PSs X q (tS c u2)) : PS X (.If e p q pos) (tS c fun env E => t env fun k => if k = true then u env E else u2 env E) := by
  refine (ps_if ht hp hq).of fun D σ H ⟨env, G, F, E, R, hw, h1, h2, h3, h4⟩ => ?_
  refine ⟨env, G, F, _, R, hw, fun k G1 F1 H1 hk st => ?_⟩
  have fin : ∀ {v}, v env E → tS c v D σ H1 := fun hv => ⟨env, G1, F1, E, R.step st, hv, fun _ _ _ _ _ e R2 s2 => h1 _ _ _ _ _ e R2 (st.g.trans s2), h2, fun _ _ _ _ _ e R2 s2 => h3 _ _ _ _ _ e R2 (st.g.trans s2), fun _ _ _ _ _ e R2 s2 => h4 _ _ _ _ _ e R2 (st.g.trans s2)⟩
  cases k with
  | true => exact fin hk
  | false => exact fin hk
/-- name = e -/
theorem js_set {i : Nat} {x : Str} {pos' : Pos} {fx : Env → W Slot} (hN : X.N.Nodup) (hi : X.N[i]? = some x) (hx : Loc X.env.scope x) (he : PE X e (tX c fx)) (hs : swapsWith e (some (.Name x pos')) pos.line X.env = pure false) (hf : X.fn x = true ∨ X.env.scope.names.lookup x = some .local) :
    PS X (.Assign [.Name x pos'] e pos) (tS c fun env E => fx env fun s => E.nx (env.set i s)) := by
  refine (ps_set hN hi hx he hs hf).ofL fun D σ H hl ⟨env, G, F, E, R, hw, h1, h2, h3, h4⟩ => ?_
  have hi' : i < σ.length := by
    rw [hl]
    exact (List.getElem?_eq_some_iff.mp hi).1
  exact ⟨env, G, F, _, R, hw, fun s v G' F' H' hp st r => h1 _ _ _ _ _ hp (R.setN st hi' r) st.g⟩
/-- target = e -/
theorem js_asg {tg : Expr} {sl : List Nat} {gg : D → Env → W Env} (he : PE X e (tD0 c true f)) (hg : PG X tg (tG c false sl gg)) (hs : swapsWithSole [tg] e pos.line X.env = pure false) (hw : swappedStores [tg] e X.env = pure none) (ha : (assignEach [tg] X.env).map (·.2) = [assign tg X.env]) :
    PS X (.Assign [tg] e pos) (tS c fun env E => f env fun d => gg d env E.nx) := by
  refine (ps_asg he hg hs hw ha).of fun D σ H ⟨env, G, F, E, R, hw, h1, h2, h3, h4⟩ => ?_
  exact ⟨env, G, F, _, R, hw, fun d v G' F' H' hp st _ hc => ⟨env, G', F', d, _, R.step st, hc rfl, hp, fun env' σ' q R' _ => h1 _ _ _ _ _ q R' st.g⟩⟩
theorem js_par2 {i j : Nat} {x y : Str} {px py pt : Pos} {kt k2 pt2} {fs : Env → W (List Slot)} (hc : X.calm = true) (hN : X.N.Nodup) (hi : X.N[i]? = some x) (hj : X.N[j]? = some y) (hij : i ≠ j)
    (hx : X.env.scope.names.lookup x = some .local) (hy : X.env.scope.names.lookup y = some .local) (ha : PA X [a, b] (tXs c fs)) (hw : swappedStores [.Tuple [.Name x px, .Name y py] kt pt] (.Tuple [a, b] k2 pt2) X.env = pure (some [x, y])) :
    PS X (.Assign [.Tuple [.Name x px, .Name y py] kt pt] (.Tuple [a, b] k2 pt2) pos) (tS c fun env E => fs env fun ss => match ss with | [s, t] => E.nx ((env.set i s).set j t) | _ => False) := by
  refine (ps_par hc hN hi hj hij hx hy ha hw rfl).ofL fun D σ H hl ⟨env, G, F, E, R, hw, h1, h2, h3, h4⟩ => ?_
  have hi' : i < σ.length := by rw [hl]; exact (List.getElem?_eq_some_iff.mp hi).1
  have hj' : j < (σ.set i none).length := by rw [List.length_set, hl]; exact (List.getElem?_eq_some_iff.mp hj).1
  refine ⟨env, G, F, _, R, hw, fun ss vs G' F' H' hp st r => ?_⟩
  match ss, hp with
  | [s, t], hp =>
    obtain ⟨v, hv, rv⟩ := r.at' 0 s rfl
    obtain ⟨w, hw', rw'⟩ := r.at' 1 t rfl
    have hl2 := r.len
    match vs, hl2 with
    | [v1, w1], _ =>
      have ev : v1 = v := by simpa using hv
      have ew : w1 = w := by simpa using hw'
      subst ev ew
      refine ⟨v1, w1, rfl, h1 _ _ G' F' H' hp ?_ st.g⟩
      refine (R.setN st hi' rv).setX (by simpa using hj') (rw'.slotR R) fun ds q e1 e2 k es hk e3 e4 => ?_
      subst e1 e2
      by_cases hki : k = i
      · subst hki
        rw [List.getElem?_set_self hi'] at e4
        have hl : k < env.length := by
          have := (List.getElem?_eq_some_iff.mp e3).1
          simpa using this
        rw [List.getElem?_set_self hl] at e3
        cases e3
        exact r.ap 0 1 es ds q (by decide) rfl rfl (by simpa using e4) rfl
      · rw [List.getElem?_set_ne (Ne.symm hki)] at e3 e4
        obtain ⟨b, ws, eb, q1, q2, q3, q4⟩ := rw'
        cases eb
        obtain ⟨x, hx, b', ws', eb', q5, _⟩ := R.sl k _ e3 (by simp)
        rw [e4] at hx
        cases hx
        cases eb'
        rw [R.ok.fh _ _ q5] at q3
        cases q3
/-- for -/
def forS (gg : D → Env → W Env) (u : Env → EndsM → Prop) : List D → Env → EndsM → Prop
  | [], env, E => E.nx env
  | d :: ds, env, E => gg d env fun env1 => u env1 { E with nx := fun env2 => forS gg u ds env2 E, ct := fun env2 => forS gg u ds env2 E, bk := E.nx }
theorem js_for {tg iter : Expr} {body : List Stmt} {sl : List Nat} {gi : Env → W (List D)} {gg : D → Env → W Env} (hx : PassesOwn (model X.prog X.w) X.A X.env X.xe) (hc : X.calm = true) (hi : PI X tg iter (tI c true wk gi)) (hg : PG X tg (tG c wk sl gg)) (hb : PSs X body (tS c u)) (hs : notSet iter = true) :
    PS X (.For tg iter body [] pos) (tS c fun env E => gi env fun ds => forS gg u ds env E) := by
  refine (ps_for hx hc hi hg hb fun x => notSet_eq hs x).of fun D σ H ⟨env, G, F, E, R, hw, h1, h2, h3, h4⟩ => ?_
  refine ⟨env, G, F, _, R, hw, fun ds G1 F1 H1 J hd st it itc hlen => ?_⟩
  obtain ⟨Gp, Y, wk', hGp, hY⟩ := itc rfl
  refine for_it wk' (fun i σ' H' => ∃ env' G' F', Rel c env' G' F' σ' H' ∧ Same G1 G' ∧ forS gg u (ds.drop i) env' E) ⟨env, G1, F1, R.step st, .refl _, hd⟩ (fun i σ' H' _ ⟨env', G', F', R', sg, _⟩ => hGp _ ((sg.trans R'.ok.gf).trans R'.ok.fh)) (fun i x σ' H' H2 hlt ⟨env', G', F', R', sg, hf⟩ y => ?_) fun σ' H' ⟨env', G', F', R', sg, hf⟩ => ?_
  · have hd' : ds[i]? = some ds[i] := List.getElem?_eq_getElem hlt
    rw [List.drop_eq_getElem_cons hlt] at hf
    obtain ⟨G2, F2, st2, rx⟩ := hY i H' x H2 _ hd' y G' F' R'.ok sg (sg.trans R'.ok.gf)
    refine ⟨env', G2, F2, _, _, R'.step st2, rx, hf, fun env3 σ3 h3' R3 _ => ⟨env3, G2, F2, _, R3, h3', ?_, h2, ?_, ?_⟩⟩
    · intro env4 σ4 G4 F4 H4 q R4 s4
      exact ⟨env4, G4, F4, R4, (sg.trans st2.g).trans s4, q⟩
    · intro env4 σ4 G4 F4 H4 q R4 s4
      exact h1 _ _ _ _ _ q R4 (((st.g.trans sg).trans st2.g).trans s4)
    · intro env4 σ4 G4 F4 H4 q R4 s4
      exact ⟨env4, G4, F4, R4, (sg.trans st2.g).trans s4, q⟩
  · rw [List.drop_eq_nil_of_le (Nat.le_refl _)] at hf
    exact h1 _ _ _ _ _ hf R' (st.g.trans sg)
def whileS (t : Env → W Bool) (u : Env → EndsM → Prop) : Env → EndsM → Prop := fun env E => ∃ J : Nat → Env → Prop, (∃ n, J n env) ∧ ∀ n env, J n env →
  t env fun k => if k = true then u env { E with nx := fun env' => ∃ m, m < n ∧ J m env', ct := fun env' => ∃ m, m < n ∧ J m env', bk := E.nx } else E.nx env
theorem js_while {body : List Stmt} {t : Env → W Bool} (hx : PassesOwn (model X.prog X.w) X.A X.env X.xe) (ht : PT X e (tB c t)) (hb : PSs X body (tS c u)) : PS X (.While e body [] pos) (tS c (whileS t u)) := by
  refine (ps_while hx ht hb).of fun D σ H ⟨env, G, F, E, R, ⟨J, ⟨n0, hJ⟩, step⟩, h1, h2, h3, h4⟩ => ?_
  refine ⟨fun n σ' H' => ∃ env' G' F', Rel c env' G' F' σ' H' ∧ Same G G' ∧ J n env', ⟨n0, env, G, F, R, .refl _, hJ⟩, fun n σ' H' ⟨env', G', F', R', sg, j⟩ => ?_⟩
  refine ⟨env', G', F', _, R', step n env' j, fun k G2 F2 H2 hk st => ?_⟩
  cases k with
  | true =>
    simp only [if_true] at hk ⊢
    refine ⟨fun σ3 H3 => ∃ m, m < n ∧ ∃ env3 G3 F3, Rel c env3 G3 F3 σ3 H3 ∧ Same G G3 ∧ J m env3, fun σ3 H3 q => q, env', G2, F2, _, R'.step st, hk, ?_, h2, ?_, ?_⟩
    · rintro env4 σ4 G4 F4 H4 ⟨m, hm, q⟩ R4 s4
      exact ⟨m, hm, env4, G4, F4, R4, (sg.trans st.g).trans s4, q⟩
    · intro env4 σ4 G4 F4 H4 q R4 s4
      exact h1 _ _ _ _ _ q R4 ((sg.trans st.g).trans s4)
    · rintro env4 σ4 G4 F4 H4 ⟨m, hm, q⟩ R4 s4
      exact ⟨m, hm, env4, G4, F4, R4, (sg.trans st.g).trans s4, q⟩
  | false =>
    simp only [Bool.false_eq_true, if_false] at hk ⊢
    exact h1 _ _ _ _ _ hk (R'.step st) (sg.trans st.g)
end
end Mi

set_option Elab.async false
set_option linter.all false
set_option maxRecDepth 100000
set_option maxHeartbeats 4000000
namespace Mi
open PySem PySem.Spec PyProof.Rows L2

theorem Rel.write {c : Ctl} {env : Env} {G F H : Hp} {σ : L2.St} {i : Nat} {a : Addr} {ds es : List D} {ws : List V} (R : Rel c env G F σ H) (he : env[i]? = some (.own ds)) (hs : σ[i]? = some (some (.ref a))) (r : RpAll c.K G ws es) :
    Rel c (env.set i (.own es)) G (upd F a (.lst ws)) σ (upd H a (.lst ws)) := by
  obtain ⟨x, hx, b, vs, e, q1, q2, q3, q4⟩ := R.sl i _ he (by simp)
  rw [hs] at hx
  cases hx
  cases e
  have hl : i < env.length := (List.getElem?_eq_some_iff.mp he).1
  have nF : ∀ {b o}, G b = some o → b ≠ a := fun e z => by rw [z, q2] at e; cases e
  refine ⟨⟨fun b o e => ?_, fun b o e => ?_, fun x l e => ?_⟩, fun b o e n => ?_, fun b h => ?_, R.g0, R.ng0, fun j s e n => ?_, fun j k xs ys p hjk e1 e2 h1 h2 => ?_⟩
  · rw [upd_ne (nF e)]
    exact R.ok.gf b o e
  · by_cases hb : b = a
    · subst hb; rw [upd_same] at e ⊢; exact e
    · rw [upd_ne hb] at e ⊢; exact R.ok.fh b o e
  · obtain ⟨w1, w2, w3, w4⟩ := R.ok.wd x l e
    have n1 : x ≠ a := fun z => by rw [z, q1] at w1; cases w1
    have n2 : l ≠ a := fun z => by rw [z, q1] at w2; cases w2
    exact ⟨by rw [upd_ne n1]; exact w1, by rw [upd_ne n2]; exact w2, w3, w4.keep fun b o hb e' => by
      rw [upd_ne (fun z => by rcases hb with hb | hb <;> subst hb <;> first | exact n1 z | exact n2 z)]
      exact e'⟩
  · rw [upd_ne (fun z => by rw [z, q3] at e; cases e)]
    exact R.fr b o e n
  · unfold upd
    split
    · simp
    · exact R.al b h
  · by_cases hj : j = i
    · subst hj
      rw [List.getElem?_set_self hl] at e
      cases e
      exact ⟨_, hs, a, ws, rfl, upd_same, q2, q3, r⟩
    · rw [List.getElem?_set_ne (Ne.symm hj)] at e
      obtain ⟨x, h1, h2⟩ := R.sl j s e n
      refine ⟨x, h1, ?_⟩
      cases s with
      | no => trivial
      | v d => exact h2
      | own xs =>
        obtain ⟨p, us, rfl, p1, p2, p3, p4⟩ := h2
        have np : p ≠ a := fun z => R.ap j i xs ds a hj e he (by rw [h1, z]) hs
        exact ⟨p, us, rfl, by rw [upd_ne np]; exact p1, p2, p3, p4⟩
      | bor xs =>
        obtain ⟨p, us, rfl, p1, p2, p3⟩ := h2
        have np : p ≠ a := fun z => by rw [z, q3] at p1; cases p1
        exact ⟨p, us, rfl, p1, by rw [upd_ne np]; exact p2, p3⟩
      | src => exact h2
  · have key : ∀ {m : Nat} {ls : List D}, (env.set i (.own es))[m]? = some (.own ls) → ∃ ls', env[m]? = some (.own ls') := fun {m ls} e => by
      by_cases hm : m = i
      · subst hm; exact ⟨_, he⟩
      · rw [List.getElem?_set_ne (Ne.symm hm)] at e; exact ⟨_, e⟩
    obtain ⟨_, e1⟩ := key e1
    obtain ⟨_, e2⟩ := key e2
    exact R.ap j k _ _ p hjk e1 e2 h1 h2
/-- an own list is given away: from now on nobody changes it -/
theorem Rel.freeze {c : Ctl} {env : Env} {G F H : Hp} {σ : L2.St} {i : Nat} {ds : List D} (R : Rel c env G F σ H) (he : env[i]? = some (.own ds)) : ∃ G', Rel c (env.set i (.v (.list ds))) G' F σ H ∧ Same G G' := by
  obtain ⟨x, hx, a, vs, rfl, q1, q2, q3, q4⟩ := R.sl i _ he (by simp)
  have hl : i < env.length := (List.getElem?_eq_some_iff.mp he).1
  have sg : Same G (upd G a (.lst vs)) := same_upd q2
  refine ⟨upd G a (.lst vs), ⟨⟨fun b o e => ?_, R.ok.fh, R.ok.wd⟩, R.fr, R.al, R.g0.trans sg, fun b o e => ?_, fun j s e n => ?_, fun j k xs ys p hjk e1 e2 h1 h2 => ?_⟩, sg⟩
  · by_cases hb : b = a
    · subst hb; rw [upd_same] at e; rw [← e]; exact q1
    · rw [upd_ne hb] at e; exact R.ok.gf b o e
  · by_cases hb : b = a
    · subst hb; exact .inr q3
    · rw [upd_ne hb] at e; exact R.ng0 b o e
  · by_cases hj : j = i
    · subst hj
      rw [List.getElem?_set_self hl] at e
      cases e
      exact ⟨_, hx, .lst upd_same (q4.mono sg)⟩
    · rw [List.getElem?_set_ne (Ne.symm hj)] at e
      obtain ⟨x, h1, h2⟩ := R.sl j s e n
      refine ⟨x, h1, ?_⟩
      cases s with
      | no => trivial
      | v d => exact Rp.mono sg h2
      | own xs =>
        obtain ⟨p, us, rfl, p1, p2, p3, p4⟩ := h2
        have np : p ≠ a := fun z => R.ap j i xs ds a hj e he (by rw [h1, z]) hx
        exact ⟨p, us, rfl, p1, by rw [upd_ne np]; exact p2, p3, p4.mono sg⟩
      | bor xs =>
        obtain ⟨p, us, rfl, p1, p2, p3⟩ := h2
        exact ⟨p, us, rfl, p1, p2, p3.mono sg⟩
      | src => exact h2
  · have key : ∀ {m : Nat} {ls : List D}, (env.set i (.v (.list ds)))[m]? = some (.own ls) → env[m]? = some (.own ls) := fun {m ls} e => by
      by_cases hm : m = i
      · subst hm
        rw [List.getElem?_set_self hl] at e
        cases e
      · rw [List.getElem?_set_ne (Ne.symm hm)] at e; exact e
    exact R.ap j k _ _ p hjk (key e1) (key e2) h1 h2
section
variable {X : Cx} {c : Ctl} {a b e : Expr} {pos : Pos} {cl cl1 cl2 cl3 wk : Bool} {f g h : Env → W D} {u u2 : Env → EndsM → Prop} {st : Stmt} {sts : List Stmt}
theorem js_frz {i : Nat} (hs : PS X st (tS c u)) : PS X st (tS c fun env E => ∃ ds, env[i]? = some (.own ds) ∧ u (env.set i (.v (.list ds))) E) := by
  refine hs.of fun D σ H ⟨env, G, F, E, R, ⟨ds, he, hw⟩, h1, h2, h3, h4⟩ => ?_
  obtain ⟨G', R', sg⟩ := R.freeze he
  exact ⟨_, G', F, E, R', hw, fun _ _ _ _ _ e R2 s2 => h1 _ _ _ _ _ e R2 (sg.trans s2), h2, fun _ _ _ _ _ e R2 s2 => h3 _ _ _ _ _ e R2 (sg.trans s2), fun _ _ _ _ _ e R2 s2 => h4 _ _ _ _ _ e R2 (sg.trans s2)⟩
def ownS (i : Nat) (k : List D → Env → EndsM → Prop) : Env → EndsM → Prop := fun env E => ∃ ds, env[i]? = some (.own ds) ∧ k ds env E
/-- name.append(e) -/
def appS (i : Nat) (f : Env → W D) : Env → EndsM → Prop := ownS i fun ds env E => f env fun d => ds.length < 16777216 ∧ E.nx (env.set i (.own (ds ++ [d])))
theorem js_app {i : Nat} {x : Str} {px apos : Pos} (hN : X.N[i]? = some x) (hv : Vis X.env.scope x) (hd : (x == ("__debug__" : Str)) = false) (hcd : (x == ("__classdict__" : Str)) = false)
    (hn : notStar e = true) (he : PE X e (tD c true f)) {p2 : Pos} (hline : (apos.endLine == p2.line) = true) (hba : attributeBase (.Name x px) "append" X.env (eval (.Name x px) X.env) = eval (.Name x px) X.env) :
    PS X (.Expr (.Call (.Attribute (.Name x px) "append" apos) [e] [] p2) pos) (tS c (appS i f)) := by
  have hs := star_no (es := []) (env := X.env) hn
  refine (ps_expr (pe_bm PySem.F.plainAttrs_list PySem.F.slot_list_append PySem.F.type_list_append mt_append (pe_var hN hv hd hcd) (pa_cons he pa_nil hs) hba (by rw [hs]; rfl) hline hs rfl) rfl).of fun D σ H ⟨env, G, F, E, R, ⟨ds, hi, hw⟩, h1, h2, h3, h4⟩ => ?_
  obtain ⟨x', hx, p, vs, rfl, q1, q2, q3, q4⟩ := R.sl i _ hi (by simp)
  refine ⟨_, hx, .inl ⟨rfl, vs, .of (R.ok.fh _ _ q1)⟩, env, G, F, _, R, hw, fun d v G1 F1 H1 hp st _ hc _ => ?_⟩
  obtain ⟨hl, hp⟩ := hp
  have q5 := st.f _ _ q1
  refine ⟨p, vs, v, rfl, rfl, st.ok.fh _ _ q5, by rw [sizeLine_eq, q4.length]; exact hl, ?_⟩
  exact h1 _ _ _ _ _ hp ((R.step st).write hi hx ((q4.mono st.g).append (.cons (hc rfl) .nil))) st.g
/-- name2 = name.pop() -/
def popS (i j : Nat) : Env → EndsM → Prop := ownS j fun ds env E => ∃ d, ds[ds.length - 1]? = some d ∧ E.nx ((env.set j (.own ds.dropLast)).set i (.v d))
theorem js_pop {i j : Nat} {x y : Str} {px py apos : Pos} (hN : X.N.Nodup) (hi : X.N[i]? = some x) (hx : Loc X.env.scope x) (hf : X.fn x = true ∨ X.env.scope.names.lookup x = some .local) (hj : X.N[j]? = some y) (hv : Vis X.env.scope y) (hd : (y == ("__debug__" : Str)) = false) (hcd : (y == ("__classdict__" : Str)) = false)
    {p2 : Pos} (hline : (apos.endLine == p2.line) = true) (hba : attributeBase (.Name y py) "pop" X.env (eval (.Name y py) X.env) = eval (.Name y py) X.env) :
    PS X (.Assign [.Name x px] (.Call (.Attribute (.Name y py) "pop" apos) [] [] p2) pos) (tS c (popS i j)) := by
  refine (ps_set hN hi hx (pe_bm0 PySem.F.plainAttrs_list PySem.F.slot_list_pop PySem.F.type_list_pop mt_pop (pe_var hj hv hd hcd) hba hline) rfl hf).ofL fun D σ H hl ⟨env, G, F, E, R, ⟨ds, he, d, hdl, hw⟩, h1, h2, h3, h4⟩ => ?_
  obtain ⟨x', hx', p, vs, rfl, q1, q2, q3, q4⟩ := R.sl j _ he (by simp)
  obtain ⟨v, hv1, hv2⟩ := q4.at hdl
  refine ⟨_, hx', .inl ⟨rfl, vs, .of (R.ok.fh _ _ q1)⟩, p, vs, v, rfl, rfl, R.ok.fh _ _ q1, by rw [q4.length]; exact hv1, ?_⟩
  have hi' : i < σ.length := by rw [hl]; exact (List.getElem?_eq_some_iff.mp hi).1
  exact h1 _ _ _ _ _ hw ((R.write he hx' q4.dropLast).set hi' hv2) (.refl _)
/-- name2 = name.pop(e) -/
def popAtS (i j : Nat) (f : Env → W D) : Env → EndsM → Prop := ownS j fun ds env E => f env fun e => ∃ (k : Int) (n : Nat) (d : D), e = .int k ∧ -(2 ^ 63) ≤ k ∧ k < 2 ^ 63 ∧ seqIndex? k ds.length = some n ∧ ds[n]? = some d ∧ E.nx ((env.set j (.own (ds.eraseIdx n))).set i (.v d))
theorem js_popAt {i j : Nat} {x y : Str} {px py apos : Pos} (hN : X.N.Nodup) (hi : X.N[i]? = some x) (hx : Loc X.env.scope x) (hf : X.fn x = true ∨ X.env.scope.names.lookup x = some .local) (hj : X.N[j]? = some y) (hv : Vis X.env.scope y) (hd : (y == ("__debug__" : Str)) = false) (hcd : (y == ("__classdict__" : Str)) = false)
    (hn : notStar e = true) (he : PE X e (tD c cl1 f)) {p2 : Pos} (hline : (apos.endLine == p2.line) = true) (hba : attributeBase (.Name y py) "pop" X.env (eval (.Name y py) X.env) = eval (.Name y py) X.env) :
    PS X (.Assign [.Name x px] (.Call (.Attribute (.Name y py) "pop" apos) [e] [] p2) pos) (tS c (popAtS i j f)) := by
  have hs := star_no (es := []) (env := X.env) hn
  refine (ps_set hN hi hx (pe_bm PySem.F.plainAttrs_list PySem.F.slot_list_pop PySem.F.type_list_pop mt_popAt (pe_var hj hv hd hcd) (pa_cons he pa_nil hs) hba (by rw [hs]; rfl) hline hs rfl) rfl hf).ofL fun D σ H hl ⟨env, G, F, E, R, ⟨ds, hee, hw⟩, h1, h2, h3, h4⟩ => ?_
  obtain ⟨x', hx', p, vs, rfl, q1, q2, q3, q4⟩ := R.sl j _ hee (by simp)
  refine ⟨_, hx', .inl ⟨rfl, vs, .of (R.ok.fh _ _ q1)⟩, env, G, F, _, R, hw, fun d v G1 F1 H1 hp st ru _ _ => ?_⟩
  obtain ⟨k, n, d, rfl, k1, k2, k3, k4, hp⟩ := hp
  obtain ⟨w, hv1, hv2⟩ := q4.at k4
  have q5 := st.f _ _ q1
  refine ⟨p, vs, k, n, w, rfl, by rw [ru.int], st.ok.fh _ _ q5, k1, k2, by rw [q4.length]; exact k3, hv1, ?_⟩
  have hi' : i < σ.length := by rw [hl]; exact (List.getElem?_eq_some_iff.mp hi).1
  exact h1 _ _ _ _ _ hp (((R.step st).write hee hx' ((q4.mono st.g).eraseIdx n)).set hi' (hv2.mono st.g)) st.g
/-- name[e2] = e -/
def setI (k : D) (n : Nat) (j : Nat) : Prop := ∃ i : Int, k = .int i ∧ ixN n i = some j
def setItemS (i : Nat) (f g : Env → W D) : Env → EndsM → Prop := ownS i fun ds env E => f env fun d => g env fun k => ∃ j, setI k ds.length j ∧ E.nx (env.set i (.own (ds.set j d)))
theorem js_setItem {i : Nat} {x : Str} {px p2 : Pos} (hN : X.N[i]? = some x) (hv : Vis X.env.scope x) (hd : (x == ("__debug__" : Str)) = false) (hcd : (x == ("__classdict__" : Str)) = false) (he : PE X e (tD c true f)) (hb : PE X b (tD c cl2 g))
    (hsub : ∀ v, assign (.Subscript (.Name x px) b p2) X.env v = (do
      let ov ← holding [v] (eval (.Name x px) X.env)
      let iv ← holding [v, ov] (eval b X.env)
      standAt p2
      holding [v, ov, iv] (setItem ov iv v)
      release [v, ov, iv] [])) (hs : swapsWithSole [.Subscript (.Name x px) b p2] e pos.line X.env = pure false) (hw : swappedStores [.Subscript (.Name x px) b p2] e X.env = pure none) :
    PS X (.Assign [.Subscript (.Name x px) b p2] e pos) (tS c (setItemS i f g)) := by
  refine (ps_asg he (pg_sub (pe_var hN hv hd hcd) hb set_list hsub) hs hw rfl).of fun D σ H ⟨env, G, F, E, R, ⟨ds, hi, hw⟩, h1, h2, h3, h4⟩ => ?_
  refine ⟨env, G, F, _, R, hw, fun d v G1 F1 H1 hp st _ hc _ => ?_⟩
  obtain ⟨x', hx, p, vs, rfl, q1, q2, q3, q4⟩ := R.sl i _ hi (by simp)
  refine ⟨_, hx, env, G1, F1, _, R.step st, hp, fun k w G2 F2 H2 hp2 st2 ru2 _ _ => ?_⟩
  obtain ⟨j, ⟨k, rfl, hj⟩, hp2⟩ := hp2
  have q5 := st2.f _ _ (st.f _ _ q1)
  refine ⟨p, vs, k, j, rfl, ru2.int, st2.ok.fh _ _ q5, by rw [q4.length]; exact hj, ?_⟩
  exact h1 _ _ _ _ _ hp2 ((R.step (st.trans st2)).write hi hx (((q4.mono st.g).mono st2.g).set ((hc rfl).mono st2.g) j)) (st.trans st2).g
theorem js_par3 {i j l : Nat} {x y z : Str} {a b d : Expr} {px py pz pt : Pos} {kt k2 pt2} {fs : Env → W (List Slot)} (hc : X.calm = true) (hN : X.N.Nodup) (hi : X.N[i]? = some x) (hj : X.N[j]? = some y) (hl : X.N[l]? = some z) (hij : i ≠ j) (hil : i ≠ l) (hjl : j ≠ l)
    (hx : X.env.scope.names.lookup x = some .local) (hy : X.env.scope.names.lookup y = some .local) (hz : X.env.scope.names.lookup z = some .local) (ha : PA X [a, b, d] (tXs c fs)) (hw : swappedStores [.Tuple [.Name x px, .Name y py, .Name z pz] kt pt] (.Tuple [a, b, d] k2 pt2) X.env = pure (some [x, y, z])) :
    PS X (.Assign [.Tuple [.Name x px, .Name y py, .Name z pz] kt pt] (.Tuple [a, b, d] k2 pt2) pos) (tS c fun env E => fs env fun ss => match ss with | [s, t, r] => E.nx (((env.set i s).set j t).set l r) | _ => False) := by
  refine (ps_par3 hc hN hi hj hl hij hil hjl hx hy hz ha hw rfl).ofL fun D σ H hlen ⟨env, G, F, E, R, hw, h1, h2, h3, h4⟩ => ?_
  have bd : ∀ {n : Nat} {w : Str}, X.N[n]? = some w → n < σ.length := fun e => by rw [hlen]; exact (List.getElem?_eq_some_iff.mp e).1
  refine ⟨env, G, F, _, R, hw, fun ss vs G' F' H' hp st r => ?_⟩
  match ss, hp with
  | [s, t, q], hp =>
    obtain ⟨v, hv, rv⟩ := r.at' 0 s rfl
    obtain ⟨w, hw', rw'⟩ := r.at' 1 t rfl
    obtain ⟨v3, hw3, rw3⟩ := r.at' 2 q rfl
    have hl2 := r.len
    match vs, hl2 with
    | [v1, w1, z1], _ =>
      have ev : v1 = v := by simpa using hv
      have ew : w1 = w := by simpa using hw'
      have e3 : z1 = v3 := by simpa using hw3
      subst ev ew e3
      refine ⟨v1, w1, z1, rfl, h1 _ _ G' F' H' hp ?_ st.g⟩
      -- an own list among the old slots is alive in H
      have old : ∀ {k : Nat} {es : List PyData} {p : Addr}, env[k]? = some (.own es) → σ[k]? = some (some (.ref p)) → H p ≠ none := fun {k es p} e3 e4 => by
        obtain ⟨x, hx, b', ws', eb', q5, _⟩ := R.sl k _ e3 (by simp)
        rw [e4] at hx
        cases hx
        cases eb'
        rw [R.ok.fh _ _ q5]
        simp
      have fresh : ∀ {s : Slot} {ds : List PyData} {v : V} {p : Addr}, SlotN c G' F' H s v → s = .own ds → v = .ref p → H p = none := fun h e1 e2 => by
        subst e1 e2
        obtain ⟨b, ws, eb, q1, q2, q3, q4⟩ := h
        cases eb
        exact q3
      have n2 : ∀ {k : Nat} {es : List PyData} {p : Addr} {ds : List PyData}, t = .own ds → w1 = .ref p → k ≠ j → (env.set i s)[k]? = some (.own es) → (σ.set i (some v1))[k]? ≠ some (some (.ref p)) := fun {k es p ds} e1 e2 hk e3 e4 => by
        by_cases hki : k = i
        · subst hki
          rw [List.getElem?_set_self (bd hi)] at e4
          have hl : k < env.length := by
            have := (List.getElem?_eq_some_iff.mp e3).1
            simpa using this
          rw [List.getElem?_set_self hl] at e3
          cases e3
          subst e1
          exact r.ap 0 1 es ds p (by decide) rfl rfl (by simpa using e4) (by simp [e2])
        · rw [List.getElem?_set_ne (Ne.symm hki)] at e3 e4
          exact old e3 e4 (fresh rw' e1 e2)
      refine ((R.setN st (bd hi) rv).setX (by simpa using bd hj) (rw'.slotR R) fun ds q e1 e2 k es hk e3 e4 => n2 e1 e2 hk e3 e4).setX (by simpa using bd hl) (rw3.slotR R) fun ds p e1 e2 k es hk e3 e4 => ?_
      by_cases hkj : k = j
      · subst hkj
        rw [List.getElem?_set_self (by simpa using bd hj)] at e4
        have hl : k < (env.set i s).length := by
          have := (List.getElem?_eq_some_iff.mp e3).1
          simpa using this
        rw [List.getElem?_set_self hl] at e3
        cases e3
        subst e1
        exact r.ap 1 2 es ds p (by decide) rfl rfl (by simpa using e4) (by simp [e2])
      · rw [List.getElem?_set_ne (Ne.symm hkj)] at e3 e4
        by_cases hki : k = i
        · subst hki
          rw [List.getElem?_set_self (bd hi)] at e4
          have hl : k < env.length := by
            have := (List.getElem?_eq_some_iff.mp e3).1
            simpa using this
          rw [List.getElem?_set_self hl] at e3
          cases e3
          subst e1
          exact r.ap 0 2 es ds p (by decide) rfl rfl (by simpa using e4) (by simp [e2])
        · rw [List.getElem?_set_ne (Ne.symm hki)] at e3 e4
          exact old e3 e4 (fresh rw3 e1 e2)
end
/-! ### a def -/
def startE (N : List Str) (ss : List Slot) : Env := ss ++ List.replicate (N.length - ss.length) .no
def denF (N : List Str) (u : Env → EndsM → Prop) : List Slot → W D := fun ss P => u (startE N ss) { nx := fun _ => P .none, rt := P, bk := fun _ => False, ct := fun _ => False }
theorem rel_start {K : PySem.W.Frag} {S : Option (Addr × Addr)} {G F H : Hp} {N : List Str} {vs : List V} {ss : List Slot} (ok : Ok S G F H) (ar : ArgsR K S G F vs ss) : Rel ⟨K, S, G, H⟩ (startE N ss) G F (L2.start N vs) H := by
  have hlen := ar.length
  have get : ∀ {i : Nat} {s : Slot}, (startE N ss)[i]? = some s → s ≠ .no → ∃ v, vs[i]? = some v ∧ ArgR K S G F s v ∧ i < vs.length := fun {i s} e n => by
    unfold startE at e
    by_cases hi : i < ss.length
    · rw [List.getElem?_append_left hi] at e
      obtain ⟨v, h1, h2⟩ := ar.at e
      exact ⟨v, h1, h2, by omega⟩
    · rw [List.getElem?_append_right (by omega), List.getElem?_replicate] at e
      split at e
      · cases e; exact absurd rfl n
      · cases e
  refine ⟨ok, .refl, fun _ h => h, .refl _, fun _ _ h => .inl h, fun i s e n => ?_, fun i j ds es a _ e _ _ _ => ?_⟩
  · obtain ⟨v, h1, h2, h3⟩ := get e n
    refine ⟨v, ?_, ?_⟩
    · show (L2.start N vs)[i]? = some (some v)
      unfold L2.start
      rw [List.getElem?_append_left (by simpa using h3), List.getElem?_map, h1]
      rfl
    · cases s with
      | v d => exact h2
      | bor ds =>
        obtain ⟨a, ws, rfl, h4, h5⟩ := h2
        exact ⟨a, ws, rfl, ok.fh _ _ h4, h4, h5⟩
      | src => exact h2
      | no => exact absurd rfl n
      | own ds => exact h2.elim
  · obtain ⟨_, _, h, _⟩ := get e (by simp)
    exact h.elim
theorem rel_end {K : PySem.W.Frag} {S : Option (Addr × Addr)} {G F H : Hp} {env : Env} {G' F' H' : Hp} {σ : L2.St} (ok : Ok S G F H) (R : Rel ⟨K, S, G, H⟩ env G' F' σ H') : ∃ F'', Stp S G F H G' F'' H' := by
  have keep : ∀ b o, F b = some o → H' b = some o := fun b o e => R.fr b o (ok.fh _ _ e) fun ⟨a, l, e1, z⟩ => by
    obtain ⟨w1, w2, _⟩ := ok.wd a l e1
    rcases z with z | z
    · rw [z, w1] at e; cases e
    · rw [z, w2] at e; cases e
  refine ⟨fun b => match F b with | some o => some o | none => G' b, ⟨⟨fun b o e => ?_, fun b o e => ?_, fun a l e => ?_⟩, R.g0, fun b o e => ?_, R.fr, R.al, R.ng0, fun b o e => ?_⟩⟩
  · show (match F b with | some o => some o | none => G' b) = some o
    cases z : F b with
    | none => exact e
    | some o' =>
      have h1 := keep b o' z
      have h2 := R.ok.fh _ _ (R.ok.gf _ _ e)
      rw [h1] at h2
      exact h2
  · have e : (match F b with | some o => some o | none => G' b) = some o := e
    cases z : F b with
    | none => rw [z] at e; exact R.ok.fh _ _ (R.ok.gf _ _ e)
    | some o' => rw [z] at e; cases e; exact keep b _ z
  · obtain ⟨w1, w2, w3, w4⟩ := R.ok.wd a l e
    obtain ⟨z1, z2, _⟩ := ok.wd a l e
    refine ⟨?_, ?_, w3, w4⟩
    · show (match F a with | some o => some o | none => G' a) = none
      rw [z1]
      exact R.ok.gf.free w1
    · show (match F l with | some o => some o | none => G' l) = none
      rw [z2]
      exact R.ok.gf.free w2
  · show (match F b with | some o => some o | none => G' b) = some o
    rw [e]
  · have e : (match F b with | some o => some o | none => G' b) = some o := e
    cases z : F b with
    | some o' => rw [z] at e; exact .inl e
    | none =>
      rw [z] at e
      rcases R.ng0 b o e with q | q
      · exact absurd (ok.gf _ _ q) (by rw [z]; simp)
      · exact .inr q
/-- the def keeps its promise -/
theorem fn_den {P : Program} {w : World} {K : PySem.W.Frag} {mg : Str → Option Value} {base : Heap} {k n : Nat} {f : Addr} {x qual : Str} {st : Stmt} {fd : FuncData} {N ps : List Str} {u : Env → EndsM → Prop}
    (F : FunD K x qual (defArgs st) (defBody st) (defScope st) [] [] f fd) (S : FnScope N ps (defScope st)) (hn : ps.length = n)
    (hbody : ∀ (cdv : Value) (A : Around) (outer : List PySem.Env) (s : Shared) (H : Hp) (c : Ctl), A.guards = some [] → Room k (A.deeper (envOfC qual (defScope st) s.heap.objs.size f cdv)) → c.K = K →
      PSs (cxOf CX0 P w K mg base N qual (defScope st) f cdv A outer s H E0).nox (defBody st) (tS c u)) : FnG P w K mg base (k + 1) f fd ps (spW K n (denF N u)) := by
  refine fn_g F S (fun vs H Q h => ?_) fun cdv A outer s H vs Q hgu hr h => ?_
  · obtain ⟨S', ss, G, F', P', hl, _, ar, _⟩ := h
    rw [ar.length, hl, hn]
  · obtain ⟨S', ss, G, F', P', hl, ok, ar, hw, hq⟩ := h
    refine ⟨_, hbody cdv A outer s H ⟨K, S', G, H⟩ hgu hr rfl, _, G, F', _, rel_start ok ar, hw, fun env' σ' G' F2 H' hp R _ => ?_, fun d v env' σ' G' F2 H' hp R rp => ?_, fun _ _ _ _ _ h => h.elim, fun _ _ _ _ _ h => h.elim⟩
    · obtain ⟨F'', st'⟩ := rel_end ok R
      exact hq _ _ _ _ _ hp st' .non
    · obtain ⟨F'', st'⟩ := rel_end ok R
      exact hq _ _ _ _ _ hp st' rp
end Mi

set_option Elab.async false
set_option linter.all false
set_option maxRecDepth 100000
set_option maxHeartbeats 4000000
namespace Mi
open PySem PySem.Spec PyProof.Rows L2

theorem x_val {c : Ctl} {f : Env → W D} {σ : L2.St} {H : Hp} {Q : VK} (h : tX c (fun env P => f env fun d => P (.v d)) σ H Q) : tD0 c true f σ H Q := by
  obtain ⟨env, G, F, P, R, hw, hq⟩ := h
  exact ⟨env, G, F, _, R, hw, fun d v G' F' H' hp st _ hc => hq _ _ _ _ _ hp st (hc rfl)⟩
theorem x_new {c : Ctl} {f : Env → W (List D)} {σ : L2.St} {H : Hp} {Q : VK} (h : tX c (fun env P => f env fun ds => P (.own ds)) σ H Q) : tF c f σ H Q := by
  obtain ⟨env, G, F, P, R, hw, hq⟩ := h
  refine ⟨env, G, F, _, R, hw, fun ds vs G' F' H' p hp st r hn => ?_⟩
  have st2 := Stp.newOwn st.ok hn (.lst vs)
  refine hq _ _ _ _ _ hp (st.trans st2) ⟨p, vs, rfl, upd_same, st.ok.gf.free (st.ok.fh.free hn), ?_, r⟩
  cases z : H p with
  | none => rfl
  | some o => exact absurd hn (st.al p (by rw [z]; simp))
theorem d_new {c : Ctl} {f : Env → W (List D)} {σ : L2.St} {H : Hp} {Q : VK} (h : tD0 c true (fun env P => f env fun ds => P (.list ds)) σ H Q) : tF c f σ H Q := by
  obtain ⟨env, G, F, P, R, hw, hq⟩ := h
  refine ⟨env, G, F, _, R, hw, fun ds vs G' F' H' p hp st r hn => ?_⟩
  obtain ⟨st2, rp⟩ := mk_list st.ok hn r
  exact hq _ _ _ _ _ hp (st.trans st2) (.rp rp) fun _ => rp
def compF (gi : Env → W (List D)) (g : D → Env → W Env) (t : Env → W Bool) (fe : Env → W D) (own : List Nat) (env : Env) : W (List D) :=
  fun P => gi env fun ds => mapW ds (bodyW g t fe (wipeE env own)) P
section
variable {X : Cx} {c : Ctl} {pos : Pos} {cl cl2 wk : Bool}
theorem lc_okF {gi : Env → W (List D)} {g : D → Env → W Env} {t : Env → W Bool} {fe : Env → W D} {sl own : List Nat} (hsl : ∀ i ∈ sl, i ∈ own) {σ : L2.St} {H : Hp} {Q : VK}
    (h : tF c (compF gi g t fe own) σ H Q) : tLc (tI c cl wk gi) (tG c wk sl g) (tB c t) (tD c true fe) own σ H Q := by
  obtain ⟨env, G, F, P, R, hw, hq⟩ := h
  refine ⟨env, G, F, _, R, hw, fun ds G1 F1 H1 J hd st1 it _ hlen D hD => ?_⟩
  obtain ⟨Gp, Y, wk, hGp, hY⟩ := it
  have hF1D : F1 D = none := st1.ok.fh.free hD
  have nsrc : ¬ IsSrc c.S D := fun ⟨a, l, e, z⟩ => by
    obtain ⟨w1, w2, w3, w4⟩ := st1.ok.wd a l e
    obtain ⟨_, _, _, _, e1, e2⟩ := w4
    rcases z with z | z
    · rw [z, e1] at hD; cases hD
    · rw [z, e2] at hD; cases hD
  have base : Stp c.S G1 F1 H1 G1 F1 (upd H1 D (.lst [])) := by
    have q := Stp.newOwn st1.ok hD (.lst [])
    exact ⟨⟨st1.ok.gf, st1.ok.fh.trans (same_upd hD), fun a l e => ⟨(st1.ok.wd a l e).1, (st1.ok.wd a l e).2.1, (q.ok.wd a l e).2.2⟩⟩, .refl _, .refl _, q.fr, q.al, fun _ _ z => .inl z, fun _ _ z => .inl z⟩
  have noD : ∀ {Ga Fa Ha Gb Fb Hb}, Stp c.S Ga Fa Ha Gb Fb Hb → Fa D = none → Ha D ≠ none → Fb D = none := fun {Ga Fa Ha Gb Fb Hb} s h1 h2 => by
    cases e : Fb D with
    | none => rfl
    | some o =>
      rcases s.nf D o e with z | z
      · rw [h1] at z; cases z
      · exact absurd z h2
  refine lc_it wk (fun i H => ∃ G F acc vs, Stp c.S G1 F1 H1 G F H ∧ F D = none ∧ H D = some (.lst vs) ∧ RpAll c.K G vs acc ∧ vs.length ≤ i ∧ mapW (ds.drop i) (bodyW g t fe (wipeE env own)) fun ys => P (acc ++ ys))
    ⟨G1, F1, [], [], base, hF1D, upd_same, .nil, Nat.zero_le _, hd⟩ (fun i H _ ⟨G, F, acc, vs, st, _⟩ => hGp H (st.f.trans st.ok.fh)) (fun i x H2 H3 hi ⟨G2, F2, acc, vs, st2, hFD, hHD, hr, hvl, hm⟩ y => ?_) (fun H2 ⟨G2, F2, acc, vs, st2, hFD, hHD, hr, hvl, hm⟩ => ?_)
  · have hdi : ds[i]? = some ds[i] := List.getElem?_eq_getElem hi
    rw [List.drop_eq_getElem_cons hi] at hm
    obtain ⟨G3, F3, st3, rx⟩ := hY i H2 x H3 _ hdi y G2 F2 st2.ok st2.g st2.f
    have R3 := (R.step st1).step (st2.trans st3)
    have hD3 : H3 D = some (.lst vs) := st3.fr D _ hHD nsrc
    have hF3 := noD st3 hFD (by rw [hHD]; simp)
    refine ⟨_, G3, F3, _, _, R3.wiped own, rx, hm, fun env4 σ4 h4 R4 w4 => ⟨(w4 own hsl).trans (wipe_wipe fun _ h => h), env4, G3, F3, _, R4, h4, fun b G5 F5 H5 hb st5 => ?_⟩⟩
    have hD5 := st5.fr D _ hD3 nsrc
    have hF5 := noD st5 hF3 (by rw [hD3]; simp)
    cases b with
    | false =>
      simp only [Bool.false_eq_true, if_false] at hb ⊢
      exact ⟨G5, F5, acc, vs, (st2.trans st3).trans st5, hF5, hD5, (hr.mono st3.g).mono st5.g, Nat.le_succ_of_le hvl, hb⟩
    | true =>
      simp only [if_true] at hb ⊢
      refine ⟨env4, G5, F5, _, R4.step st5, hb, fun d v G6 F6 H6 h6 st6 _ hc _ => ?_⟩
      have hD6 := st6.fr D _ hD5 nsrc
      have hF6 := noD st6 hF5 (by rw [hD5]; simp)
      refine ⟨vs, hD6, ?_, G6, F6, acc ++ [d], vs ++ [v], ?_, hF6, upd_same, ?_, by simp; omega, ?_⟩
      · rw [sizeLine_eq]; omega
      · have s6 := ((st2.trans st3).trans st5).trans st6
        refine ⟨⟨s6.ok.gf, fun b u e => ?_, fun a l e => ?_⟩, s6.g, s6.f, fun b u e hn => ?_, fun b hb => ?_, s6.ng, s6.nf⟩
        · rw [upd_ne (fun z => by rw [z, hF6] at e; cases e)]
          exact s6.ok.fh b u e
        · obtain ⟨w1, w2, w3, w4⟩ := s6.ok.wd a l e
          exact ⟨w1, w2, w3, w4.keep fun b u hb e' => by
            rw [upd_ne (fun z => nsrc ⟨a, l, e, by rw [← z]; exact hb⟩)]; exact e'⟩
        · rw [upd_ne (fun z => by rw [z, hD] at e; cases e)]
          exact s6.fr b u e hn
        · unfold upd
          split
          · simp
          · exact s6.al b hb
      · exact (((hr.mono st3.g).mono st5.g).mono st6.g).append (.cons (hc rfl) .nil)
      · have e : (fun ys : List PyData => P (acc ++ d :: ys)) = fun ys => P (acc ++ [d] ++ ys) := by funext ys; simp
        rw [← e]
        exact h6
  · rw [List.drop_eq_nil_of_le (Nat.le_refl _)] at hm
    have hm : P (acc ++ []) := hm
    rw [List.append_nil] at hm
    have e2 : upd (fun b => if b = D then none else H2 b) D (.lst vs) = H2 := by
      funext b
      unfold upd
      split
      · rename_i hb; rw [hb]; exact hHD.symm
      · rename_i hb; exact if_neg hb
    have q := hq acc vs G2 F2 (fun b => if b = D then none else H2 b) D hm (st1.trans ?_) hr (by simp)
    · rw [e2] at q
      exact q
    · have ne : ∀ b u, F2 b = some u → b ≠ D := fun b u e z => by rw [z, hFD] at e; cases e
      have ne1 : ∀ b u, H1 b = some u → b ≠ D := fun b u e z => by rw [z, hD] at e; cases e
      refine ⟨⟨st2.ok.gf, fun b u e => ?_, fun a l e => ?_⟩, st2.g, st2.f, fun b u e hn => ?_, fun b hb => ?_, st2.ng, st2.nf⟩
      · rw [if_neg (ne b u e)]; exact st2.ok.fh b u e
      · obtain ⟨w1, w2, w3, w4⟩ := st2.ok.wd a l e
        exact ⟨w1, w2, w3, w4.keep fun b u hb e' => by
          rw [if_neg (fun z => nsrc ⟨a, l, e, by rw [← z]; exact hb⟩)]; exact e'⟩
      · rw [if_neg (ne1 b u e)]; exact st2.fr b u e hn
      · show (if b = D then none else H2 b) ≠ none
        have : b ≠ D := fun z => hb (by rw [z]; exact hD)
        rw [if_neg this]
        exact st2.al b hb
theorem jf_comp {elt tg iter : Expr} {ifs : List Expr} {scope : Scope} {own : List (Str × Nat)} {gi : Env → W (List D)} {g : D → Env → W Env} {t : Env → W Bool} {fe : Env → W D} {sl : List Nat} (hc : X.calm = true) (hN : X.N.Nodup) (hsl : ∀ i ∈ sl, i ∈ own.map (·.2))
    (hi : PI X tg iter (tI c cl wk gi)) (ok : BlkOk X.N X.env.scope scope own)
    (hg : ∀ (s : Shared) (H : Hp) (C : Addr) (cl : List (Str × Addr)) (fp : List Addr), PG (X.blk s H scope (compEnvC scope cl C X.env) fp) tg (tG c wk sl g)) (ht : ∀ (s : Shared) (H : Hp) (C : Addr) (cl : List (Str × Addr)) (fp : List Addr), PTs (X.blk s H scope (compEnvC scope cl C X.env) fp) ifs (tB c t))
    (he : ∀ (s : Shared) (H : Hp) (C : Addr) (cl : List (Str × Addr)) (fp : List Addr), PE (X.blk s H scope (compEnvC scope cl C X.env) fp) elt (tD c true fe)) (hs : notSet iter = true) :
    PE X (.ListComp elt [⟨tg, iter, ifs, 0⟩] scope pos) (tF c (compF gi g t fe (own.map (·.2)))) :=
  (pe_lc hc hN hi ok hg ht he fun x => notSet_eq hs x).of fun σ H Q h => lc_okF hsl h
/-- name = [..] of one line -/
theorem js_setLc {i : Nat} {y : Str} {py spos : Pos} {elt tg iter : Expr} {ifs : List Expr} {scope : Scope} {own : List (Str × Nat)} {gi : Env → W (List D)} {g : D → Env → W Env} {t : Env → W Bool} {fe : Env → W D} {sl : List Nat} {fx : Env → W Slot} (hc : X.calm = true) (hN : X.N.Nodup) (hsl : ∀ i ∈ sl, i ∈ own.map (·.2))
    (hy : X.N[i]? = some y) (hyl : X.env.scope.names.lookup y = some .local) (hsw : swapsWith (.ListComp elt [⟨tg, iter, ifs, 0⟩] scope pos) (some (.Name y py)) spos.line X.env = pure true)
    (hi : PI X tg iter (tI c cl wk gi)) (ok : BlkOk X.N X.env.scope scope own)
    (hg : ∀ (s : Shared) (H : Hp) (C : Addr) (cl : List (Str × Addr)) (fp : List Addr), PG (X.blk s H scope (compEnvC scope cl C X.env) fp) tg (tG c wk sl g)) (ht : ∀ (s : Shared) (H : Hp) (C : Addr) (cl : List (Str × Addr)) (fp : List Addr), PTs (X.blk s H scope (compEnvC scope cl C X.env) fp) ifs (tB c t))
    (he : ∀ (s : Shared) (H : Hp) (C : Addr) (cl : List (Str × Addr)) (fp : List Addr), PE (X.blk s H scope (compEnvC scope cl C X.env) fp) elt (tD c true fe)) (hs : notSet iter = true)
    (hx : ∀ σ H Q, tX c fx σ H Q → tF c (compF gi g t fe (own.map (·.2))) σ H Q) :
    PS X (.Assign [.Name y py] (.ListComp elt [⟨tg, iter, ifs, 0⟩] scope pos) spos) (tS c fun env E => fx env fun s => E.nx (env.set i s)) := by
  refine (ps_setLc hc hN hy hyl hsw hi ok hg ht he fun x => notSet_eq hs x).ofL fun D σ H hl ⟨env, G, F, E, R, hw, h1, h2, h3, h4⟩ => ?_
  have hi' : i < σ.length := by
    rw [hl]
    exact (List.getElem?_eq_some_iff.mp hy).1
  exact lc_okF hsl (hx _ _ _ ⟨env, G, F, _, R, hw, fun s v G' F' H' hp st r => h1 _ _ _ _ _ hp (R.setN st hi' r) st.g⟩)
end
end Mi

set_option Elab.async false
set_option linter.all false
set_option maxRecDepth 100000
set_option maxHeartbeats 4000000
namespace Mi
open PySem PySem.Spec PyProof.Rows L2

/-! ### the drawing dict -/
inductive SK | left | mixed | turn
def SK.s : SK → String
  | .left => "left" | .mixed => "mixed" | .turn => "turn"
abbrev srcK (l : Addr) (x y z : Int) : List (Key × V) := [(Sum.inr (Str.ofString "cells"), .ref l), (Sum.inr (Str.ofString "left"), .int x), (Sum.inr (Str.ofString "mixed"), .int y), (Sum.inr (Str.ofString "turn"), .int z)]
theorem valV_cells {l : Addr} {x y z : Int} : valV (srcK l x y z) (.inr (Str.ofString "cells")) = some (.ref l) := valV_pos rfl
theorem valV_left {l : Addr} {x y z : Int} : valV (srcK l x y z) (.inr (Str.ofString "left")) = some (.int x) := by
  unfold srcK
  rw [valV_neg (by simp; decide +kernel), valV_pos rfl]
theorem valV_mixed {l : Addr} {x y z : Int} : valV (srcK l x y z) (.inr (Str.ofString "mixed")) = some (.int y) := by
  unfold srcK
  rw [valV_neg (by simp; decide +kernel), valV_neg (by simp; decide +kernel), valV_pos rfl]
theorem valV_turn {l : Addr} {x y z : Int} : valV (srcK l x y z) (.inr (Str.ofString "turn")) = some (.int z) := by
  unfold srcK
  rw [valV_neg (by simp; decide +kernel), valV_neg (by simp; decide +kernel), valV_neg (by simp; decide +kernel), valV_pos rfl]
theorem putK_left {l : Addr} {x y z n : Int} : putK (srcK l x y z) (.inr (Str.ofString "left")) (V.int n) = srcK l n y z := by
  have h1 : (Sum.inr (Str.ofString "cells") : Key) ≠ Sum.inr (Str.ofString "left") := by simp; decide +kernel
  have h2 : (Sum.inr (Str.ofString "mixed") : Key) ≠ Sum.inr (Str.ofString "left") := by simp; decide +kernel
  have h3 : (Sum.inr (Str.ofString "turn") : Key) ≠ Sum.inr (Str.ofString "left") := by simp; decide +kernel
  unfold putK srcK
  simp only [List.any_cons, List.any_nil, List.map_cons, List.map_nil, h1, h2, h3, decide_true, decide_false, Bool.or_true, Bool.true_or, if_true, if_false]
theorem putK_mixed {l : Addr} {x y z n : Int} : putK (srcK l x y z) (.inr (Str.ofString "mixed")) (V.int n) = srcK l x n z := by
  have h1 : (Sum.inr (Str.ofString "cells") : Key) ≠ Sum.inr (Str.ofString "mixed") := by simp; decide +kernel
  have h2 : (Sum.inr (Str.ofString "left") : Key) ≠ Sum.inr (Str.ofString "mixed") := by simp; decide +kernel
  have h3 : (Sum.inr (Str.ofString "turn") : Key) ≠ Sum.inr (Str.ofString "mixed") := by simp; decide +kernel
  unfold putK srcK
  simp only [List.any_cons, List.any_nil, List.map_cons, List.map_nil, h1, h2, h3, decide_true, decide_false, Bool.or_true, Bool.true_or, if_true, if_false]
theorem putK_turn {l : Addr} {x y z n : Int} : putK (srcK l x y z) (.inr (Str.ofString "turn")) (V.int n) = srcK l x y n := by
  have h1 : (Sum.inr (Str.ofString "cells") : Key) ≠ Sum.inr (Str.ofString "turn") := by simp; decide +kernel
  have h2 : (Sum.inr (Str.ofString "left") : Key) ≠ Sum.inr (Str.ofString "turn") := by simp; decide +kernel
  have h3 : (Sum.inr (Str.ofString "mixed") : Key) ≠ Sum.inr (Str.ofString "turn") := by simp; decide +kernel
  unfold putK srcK
  simp only [List.any_cons, List.any_nil, List.map_cons, List.map_nil, h1, h2, h3, decide_true, decide_false, Bool.or_true, Bool.true_or, if_true, if_false]
theorem Rel.src {c : Ctl} {env : Env} {G F H H' : Hp} {σ : L2.St} {a l : Addr} (R : Rel c env G F σ H) (hS : c.S = some (a, l)) (hs : SrcAt a l H') (hk : ∀ b, b ≠ a → b ≠ l → H' b = H b) : Rel c env G F σ H' := by
  obtain ⟨w1, w2, w3, w4⟩ := R.ok.wd a l hS
  have ne : ∀ b o, F b = some o → b ≠ a ∧ b ≠ l := fun b o e => ⟨fun z => (by rw [z, w1] at e; cases e), fun z => (by rw [z, w2] at e; cases e)⟩
  refine ⟨⟨R.ok.gf, fun b o e => ?_, fun a' l' e => ?_⟩, fun b o e n => ?_, fun b h => ?_, R.g0, R.ng0, R.sl, R.ap⟩
  · rw [hk b (ne b o e).1 (ne b o e).2]; exact R.ok.fh b o e
  · rw [hS] at e; cases e; exact ⟨w1, w2, w3, hs⟩
  · rw [hk b (fun z => n ⟨a, l, hS, .inl z⟩) (fun z => n ⟨a, l, hS, .inr z⟩)]; exact R.fr b o e n
  · by_cases h1 : b = a
    · obtain ⟨_, _, _, _, e1, _⟩ := hs
      rw [h1, e1]; simp
    · by_cases h2 : b = l
      · obtain ⟨_, _, _, _, _, e2⟩ := hs
        rw [h2, e2]; simp
      · rw [hk b h1 h2]; exact R.al b h
theorem Rel.srcAt {c : Ctl} {env : Env} {G F H : Hp} {σ : L2.St} {i : Nat} (R : Rel c env G F σ H) (he : env[i]? = some .src) : ∃ a l, c.S = some (a, l) ∧ σ[i]? = some (some (.ref a)) ∧ a ≠ l ∧ SrcAt a l H := by
  obtain ⟨x, hx, a, l, hS, rfl⟩ := R.sl i _ he (by simp)
  obtain ⟨w1, w2, w3, w4⟩ := R.ok.wd a l hS
  exact ⟨a, l, hS, hx, w3, w4⟩
section
variable {X : Cx} {c : Ctl} {a b e : Expr} {pos : Pos} {cl cl1 cl2 wk : Bool} {f g h : Env → W D} {u : Env → EndsM → Prop}
def srcW (i : Nat) (env : Env) : W D := fun P => env[i]? = some .src ∧ ∀ n : Int, P (.int n)
theorem je_srcE {i : Nat} {x k : Str} {px p1 : Pos} {j : Nat} (q : SK) (hu : X.A.units + 1 < cLine) (hN : X.N[i]? = some x) (hv : Vis X.env.scope x) (hd : (x == ("__debug__" : Str)) = false) (hcd : (x == ("__classdict__" : Str)) = false) (hk : k = Str.ofString q.s) :
    PE X (.Subscript (.Name x px) (.Constant (.str k) j p1) pos) (tD0 c true (srcW i)) := by
  subst hk
  refine (pe_dget hu (pe_var hN hv hd hcd) pe_str fun _ _ => rfl).of fun σ H Q ⟨env, G, F, P, R, ⟨he, hw⟩, hq⟩ => ?_
  obtain ⟨a, l, hS, hx, hne, cs, n1, n2, n3, h1, h2⟩ := R.srcAt he
  refine ⟨_, hx, a, ?_⟩
  cases q with
  | left => exact ⟨.int n1, rfl, (by have g := DGet.k (k := .inr (Str.ofString "left")) h1; rw [valV_left] at g; exact g), hq _ _ G F H (hw n1) (.refl R.ok) (.rp (.int _)) fun _ => .int _⟩
  | mixed => exact ⟨.int n2, rfl, (by have g := DGet.k (k := .inr (Str.ofString "mixed")) h1; rw [valV_mixed] at g; exact g), hq _ _ G F H (hw n2) (.refl R.ok) (.rp (.int _)) fun _ => .int _⟩
  | turn => exact ⟨.int n3, rfl, (by have g := DGet.k (k := .inr (Str.ofString "turn")) h1; rw [valV_turn] at g; exact g), hq _ _ G F H (hw n3) (.refl R.ok) (.rp (.int _)) fun _ => .int _⟩
def srcSetS (i : Nat) (f : Env → W D) : Env → EndsM → Prop := fun env E => env[i]? = some .src ∧ f env fun d => (∃ n : Int, d = .int n) ∧ E.nx env
theorem js_srcSet {i : Nat} {x k : Str} {px p1 p2 : Pos} {j : Nat} (q : SK) (hu : X.A.units + 1 < cLine) (hN : X.N[i]? = some x) (hv : Vis X.env.scope x) (hd : (x == ("__debug__" : Str)) = false) (hcd : (x == ("__classdict__" : Str)) = false) (hk : k = Str.ofString q.s)
    (he : PE X e (tD c cl f)) (hs : swapsWithSole [.Subscript (.Name x px) (.Constant (.str k) j p1) p2] e pos.line X.env = pure false) (hw : swappedStores [.Subscript (.Name x px) (.Constant (.str k) j p1) p2] e X.env = pure none) :
    PS X (.Assign [.Subscript (.Name x px) (.Constant (.str k) j p1) p2] e pos) (tS c (srcSetS i f)) := by
  subst hk
  refine (ps_asg he (pg_sub (pe_var hN hv hd hcd) pe_str (set_dict hu) fun _ => rfl) hs hw rfl).of fun D σ H ⟨env, G, F, E, R, ⟨hi, hw⟩, h1, h2, h3, h4⟩ => ?_
  refine ⟨env, G, F, _, R, hw, fun d v G1 F1 H1 hp st ru _ _ => ?_⟩
  obtain ⟨⟨n, rfl⟩, hp⟩ := hp
  have ev := ru.int
  subst ev
  have R1 := R.step st
  obtain ⟨a, l, hS, hx, hne, cs, n1, n2, n3, e1, e2⟩ := R1.srcAt hi
  have fin : ∀ m1 m2 m3 : Int, D.nx σ (upd H1 a (.dK (srcK l m1 m2 m3))) := fun m1 m2 m3 => by
    refine h1 _ _ _ _ _ hp (R1.src hS ⟨cs, m1, m2, m3, upd_same, ?_⟩ fun b hb _ => upd_ne hb) st.g
    rw [upd_ne (Ne.symm hne)]; exact e2
  have hz : (srcK l n1 n2 n3).length < sizeLine := by show 4 < sizeLine; decide
  have key : ∃ m1 m2 m3, DPut H1 a (.str (Str.ofString q.s)) (.int n) (upd H1 a (.dK (srcK l m1 m2 m3))) := by
    cases q with
    | left =>
      have g := DPut.k (k := .inr (Str.ofString "left")) (v := V.int n) e1 hz
      rw [putK_left] at g
      exact ⟨_, _, _, g⟩
    | mixed =>
      have g := DPut.k (k := .inr (Str.ofString "mixed")) (v := V.int n) e1 hz
      rw [putK_mixed] at g
      exact ⟨_, _, _, g⟩
    | turn =>
      have g := DPut.k (k := .inr (Str.ofString "turn")) (v := V.int n) e1 hz
      rw [putK_turn] at g
      exact ⟨_, _, _, g⟩
  obtain ⟨m1, m2, m3, g⟩ := key
  exact ⟨_, hx, a, _, rfl, g, fin _ _ _⟩
/-- the loop that takes cells -/
def srcLoopS (i j : Nat) : Env → EndsM → Prop := fun env E => env[i]? = some .src ∧ (∃ m : Int, env[j]? = some (.v (.int m))) ∧ E.nx env
theorem js_srcLoop {i j : Nat} {x y : Str} (hu : X.A.units + 1 < cLine) (hxe : PassesOwn (model X.prog X.w) X.A X.env X.xe) (hN : X.N[i]? = some x) (hv : Vis X.env.scope x) (hd : (x == ("__debug__" : Str)) = false) (hcd : (x == ("__classdict__" : Str)) = false)
    (hN2 : X.N[j]? = some y) (hv2 : Vis X.env.scope y) (hd2 : (y == ("__debug__" : Str)) = false) (hcd2 : (y == ("__classdict__" : Str)) = false) (hg : Gl X "len") (hm : X.mg "len" = none)
    {p1 p2 p3 p4 p5 p6 p7 p8 p9 p10 p11 p12 p13 p14 p15 p16 p17 p18 p19 p20 p21 p22 p23 p24 p25 : Pos} {k1 k2 k3 k4 k5 k6 k7 : Nat} (hline : (p23.endLine == p24.line) = true) :
    PS X (.While (.BoolOp .And [.Compare (.Name y p1) [.Gt] [.Constant (.int 1) k1 p2] p3,
        .Compare (.Subscript (.Name x p4) (.Constant (.str (Str.ofString "left")) k2 p5) p6) [.Lt] [.Constant (.int 2) k3 p7] p8,
        .Compare (.Call (.Name "len" p9) [.Subscript (.Name x p10) (.Constant (.str (Str.ofString "cells")) k4 p11) p12] [] p13) [.Gt] [.Constant (.int 0) k5 p14] p15] p16)
      [.Assign [.Subscript (.Name x p17) (.Constant (.str (Str.ofString "left")) k6 p18) p19] (.Call (.Attribute (.Subscript (.Name x p20) (.Constant (.str (Str.ofString "cells")) k7 p21) p22) (Str.ofString "pop") p23) [] [] p24) pos] [] p25) (tS c (srcLoopS i j)) := by
  have cells : ∀ {p q r : Pos} {k : Nat}, PE X (.Subscript (.Name x p) (.Constant (.str (Str.ofString "cells")) k q) r) _ := fun {p q r k} => pe_dget hu (pe_var hN hv hd hcd) pe_str fun _ _ => rfl
  have left : ∀ {p q r : Pos} {k : Nat}, PE X (.Subscript (.Name x p) (.Constant (.str (Str.ofString "left")) k q) r) _ := fun {p q r k} => pe_dget hu (pe_var hN hv hd hcd) pe_str fun _ _ => rfl
  refine (ps_while hxe (pw_and (pt_cmpR op_gt (pe_var hN2 hv2 hd2 hcd2) pe_int rfl) (pw_and (pt_cmpR op_lt left pe_int rfl) (pw_and1 (pt_cmpR op_gt (pe_callB call_len_seq hg hm PySem.boot_len (pa_cons cells pa_nil)) pe_int rfl)))).pt
    (pss_one (ps_asg (pe_bm0 PySem.F.plainAttrs_list PySem.F.slot_list_pop PySem.F.type_list_pop mt_pop cells rfl hline) (pg_sub (pe_var hN hv hd hcd) pe_str (set_dict hu) fun _ => rfl) rfl rfl rfl))).of fun D σ H ⟨env, G, F, E, R, ⟨hi, ⟨m, hj⟩, hw⟩, h1, h2, h3, h4⟩ => ?_
  obtain ⟨a0, l0, hS, hx0, hne0, cs0, n1, n2, n3, e1, e2⟩ := R.srcAt hi
  obtain ⟨ym, hy, ry⟩ := R.sl j _ hj (by simp)
  have ry : Rp c.K G ym (.int m) := ry
  cases ry
  refine ⟨fun n σ' H' => σ' = σ ∧ Rel c env G F σ H' ∧ ∃ cs x1 x2 x3, H' a0 = some (.dK (srcK l0 x1 x2 x3)) ∧ H' l0 = some (.lst (cs.map V.int)) ∧ n = cs.length, ⟨_, rfl, R, cs0, n1, n2, n3, e1, e2, rfl⟩, ?_⟩
  rintro n σ' H' ⟨rfl, R', cs, x1, x2, x3, q1, q2, rfl⟩
  have gL := DGet.k (k := .inr (Str.ofString "left")) q1
  rw [valV_left] at gL
  have gC := DGet.k (k := .inr (Str.ofString "cells")) q1
  rw [valV_cells] at gC
  have done : D.nx σ' H' := h1 _ _ _ _ _ hw R' (.refl _)
  refine ⟨.int m, hy, m, 1, rfl, rfl, _, rfl, ?_⟩
  by_cases c1 : (1 : Int) < m
  · simp only [c1, decide_true, if_true]
    refine ⟨_, hx0, a0, .int x1, rfl, gL, x1, 2, rfl, rfl, _, rfl, ?_⟩
    by_cases c2 : x1 < 2
    · simp only [c2, decide_true, if_true]
      refine ⟨_, hx0, a0, .ref l0, rfl, gC, l0, _, rfl, .inl (.of q2), _, 0, rfl, rfl, _, rfl, ?_⟩
      by_cases c3 : 0 < cs.length
      · have c3' : (0 : Int) < ((cs.map V.int).length : Int) := by rw [List.length_map]; omega
        simp only [c3', decide_true, if_true]
        refine ⟨fun σ3 H3 => ∃ k, k < cs.length ∧ σ3 = σ' ∧ Rel c env G F σ' H3 ∧ ∃ (ds : List Int) (x1 x2 x3 : Int), H3 a0 = some (.dK (srcK l0 x1 x2 x3)) ∧ H3 l0 = some (.lst (ds.map V.int)) ∧ k = ds.length, fun σ3 H3 ⟨k, hk, r⟩ => ⟨k, hk, r⟩, ?_⟩
        have hlast : (cs.map V.int)[(cs.map V.int).length - 1]? = some (V.int cs[cs.length - 1]) := by
          rw [List.length_map, List.getElem?_map, List.getElem?_eq_getElem (by omega)]
          rfl
        refine ⟨_, hx0, a0, .ref l0, rfl, gC, .inl ⟨rfl, _, .of q2⟩, l0, _, _, rfl, rfl, q2, hlast, ?_⟩
        have q3 : (upd H' l0 (.lst (cs.map V.int).dropLast)) a0 = some (.dK (srcK l0 x1 x2 x3)) := by rw [upd_ne hne0]; exact q1
        have hz : (srcK l0 x1 x2 x3).length < sizeLine := by show 4 < sizeLine; decide
        have g := DPut.k (k := .inr (Str.ofString "left")) (v := V.int cs[cs.length - 1]) q3 hz
        rw [putK_left] at g
        refine ⟨_, hx0, a0, _, rfl, g, cs.dropLast.length, by rw [List.length_dropLast]; omega, rfl, ?_, cs.dropLast, _, _, _, upd_same, ?_, rfl⟩
        · refine R'.src hS ⟨cs.dropLast, _, _, _, upd_same, ?_⟩ fun b hb hb2 => by rw [upd_ne hb, upd_ne hb2]
          rw [upd_ne (Ne.symm hne0), upd_same, List.map_dropLast]
        · rw [upd_ne (Ne.symm hne0), upd_same, List.map_dropLast]
      · have c3' : ¬ (0 : Int) < ((cs.map V.int).length : Int) := by rw [List.length_map]; omega
        simp only [c3', decide_false, Bool.false_eq_true, if_false]
        exact done
    · simp only [c2, decide_false, Bool.false_eq_true, if_false]
      exact done
  · simp only [c1, decide_false, Bool.false_eq_true, if_false]
    exact done
end
end Mi

set_option Elab.async false
set_option linter.all false
set_option maxRecDepth 100000
set_option maxHeartbeats 4000000
namespace Mi
open PySem PySem.Spec PyProof.Rows L2

/-- a thing beside what is tracked changes -/
theorem Rel.beside {c : Ctl} {env : Env} {G F H : Hp} {σ : L2.St} {D : Addr} {o : HO} (R : Rel c env G F σ H) (hF : F D = none) (h0 : c.H0 D = none) (hs : ¬ IsSrc c.S D) : Rel c env G F σ (upd H D o) := by
  refine ⟨⟨R.ok.gf, fun b u e => ?_, fun a l e => ?_⟩, fun b u e n => ?_, fun b h => ?_, R.g0, R.ng0, R.sl, R.ap⟩
  · rw [upd_ne (fun z => by rw [z, hF] at e; cases e)]; exact R.ok.fh b u e
  · obtain ⟨w1, w2, w3, w4⟩ := R.ok.wd a l e
    exact ⟨w1, w2, w3, w4.keep fun b u hb e' => by
      rw [upd_ne (fun z => hs ⟨a, l, e, by rw [← z]; exact hb⟩)]; exact e'⟩
  · rw [upd_ne (fun z => by rw [z, h0] at e; cases e)]; exact R.fr b u e n
  · unfold upd
    split
    · simp
    · exact R.al b h
/-- it is given to those that never change -/
theorem Rel.adopt {c : Ctl} {env : Env} {G F H : Hp} {σ : L2.St} {D : Addr} {o : HO} (R : Rel c env G F σ H) (hF : F D = none) (h0 : c.H0 D = none) (hs : ¬ IsSrc c.S D) (hH : H D = some o) : Rel c env (upd G D o) (upd F D o) σ H := by
  have hG : G D = none := R.ok.gf.free hF
  have sG : Same G (upd G D o) := same_upd hG
  have sF : Same F (upd F D o) := same_upd hF
  refine ⟨⟨fun b u e => ?_, fun b u e => ?_, fun a l e => ?_⟩, R.fr, R.al, R.g0.trans sG, fun b u e => ?_, fun j s e n => ?_, R.ap⟩
  · by_cases hb : b = D
    · subst hb; rw [upd_same] at e ⊢; exact e
    · rw [upd_ne hb] at e ⊢; exact R.ok.gf b u e
  · by_cases hb : b = D
    · subst hb; rw [upd_same] at e; rw [← e]; exact hH
    · rw [upd_ne hb] at e; exact R.ok.fh b u e
  · obtain ⟨w1, w2, w3, w4⟩ := R.ok.wd a l e
    exact ⟨by rw [upd_ne (fun z => hs ⟨a, l, e, .inl z.symm⟩)]; exact w1, by rw [upd_ne (fun z => hs ⟨a, l, e, .inr z.symm⟩)]; exact w2, w3, w4⟩
  · by_cases hb : b = D
    · subst hb; exact .inr h0
    · rw [upd_ne hb] at e; exact R.ng0 b u e
  · obtain ⟨x, h1, h2⟩ := R.sl j s e n
    refine ⟨x, h1, ?_⟩
    cases s with
    | no => trivial
    | v d => exact Rp.mono sG h2
    | own xs =>
      obtain ⟨p, us, rfl, p1, p2, p3, p4⟩ := h2
      exact ⟨p, us, rfl, sF _ _ p1, by rw [upd_ne (fun z => by rw [z, hF] at p1; cases p1)]; exact p2, p3, p4.mono sG⟩
    | bor xs =>
      obtain ⟨p, us, rfl, p1, p2, p3⟩ := h2
      exact ⟨p, us, rfl, p1, sF _ _ p2, p3.mono sG⟩
    | src => exact h2
theorem noD_of {S : Option (Addr × Addr)} {D : Addr} {Ga Fa Ha Gb Fb Hb : Hp} (s : Stp S Ga Fa Ha Gb Fb Hb) (h1 : Fa D = none) (h2 : Ha D ≠ none) : Fb D = none := by
  cases e : Fb D with
  | none => rfl
  | some o =>
    rcases s.nf D o e with z | z
    · rw [h1] at z; cases z
    · exact absurd z h2
def PickOk (φ : List Slot → W D) : Prop := ∀ (m : Int) (P : D → Prop), 1 ≤ m → m ≤ 16777216 → (∀ r : Int, 0 ≤ r → r < m → P (.int r)) → φ [.src, .v (.int m)] P
def mixS (i j : Nat) (φ : List Slot → W D) : Env → EndsM → Prop := ownS j fun ds env E => env[i]? = some .src ∧ PickOk φ ∧ ds.length ≤ 16777216 ∧ ∀ es : List PyData, es.Perm ds → E.rt (.list es)
theorem perm_take {α : Type} {ts rs ds : List α} {k : Nat} {d : α} (h : (ts ++ rs).Perm ds) (hk : rs[k]? = some d) : ((ts ++ [d]) ++ rs.eraseIdx k).Perm ds := by
  refine List.Perm.trans ?_ h
  rw [List.append_assoc]
  refine List.Perm.append_left ts ?_
  obtain ⟨hlt, rfl⟩ := List.getElem?_eq_some_iff.mp hk
  exact erase_perm rs k _ hk
theorem js_mix {X : Cx} {c : Ctl} {scope : Scope} {pos : Pos} {i j k : Nat} {x y z pk : Str} {φ : List Slot → W D} {p1 p2 p3 p4 p5 p6 p7 p8 p9 p10 p11 p12 p13 p14 p15 p16 : Pos} (hK : c.K = X.K) (hs : SysOk X) (hgu : X.A.guards = some []) (hcalm : X.calm = true) (hnd : X.N.Nodup) (hik : i ≠ k) (hjk : j ≠ k)
    (hN : X.N[i]? = some x) (hN2 : X.N[j]? = some y) (hv2 : Vis X.env.scope y) (hdx : (x == ("__debug__" : Str)) = false) (hcdx : (x == ("__classdict__" : Str)) = false) (hdy : (y == ("__debug__" : Str)) = false) (hcdy : (y == ("__classdict__" : Str)) = false) (hdp : (pk == ("__debug__" : Str)) = false)
    (C : CallOk X c pk 2 φ) (mlen : X.mg "len" = none) (mrng : X.mg "range" = none) (glen : Gl X "len") (grng : Gl X "range") (ok : BlkOk X.N X.env.scope scope [(z, k)])
    (blk : ∀ (s : Shared) (H : Hp) (C : Addr) (cl : List (Str × Addr)) (fp : List Addr), Vis (X.blk s H scope (compEnvC scope cl C X.env) fp).env.scope x ∧ Vis (X.blk s H scope (compEnvC scope cl C X.env) fp).env.scope y ∧ Gl (X.blk s H scope (compEnvC scope cl C X.env) fp) "len" ∧
      Gl (X.blk s H scope (compEnvC scope cl C X.env) fp) pk ∧ Loc (X.blk s H scope (compEnvC scope cl C X.env) fp).env.scope z ∧ ((X.blk s H scope (compEnvC scope cl C X.env) fp).fn z = true ∨ (X.blk s H scope (compEnvC scope cl C X.env) fp).env.scope.names.lookup z = some .local))
    (hline : (p3.endLine == p10.line) = true) :
    PS X (.Return (some (.ListComp (.Call (.Attribute (.Name y p1) (Str.ofString "pop") p3) [.Call (.Name pk p4) [.Name x p5, .Call (.Name "len" p6) [.Name y p7] [] p8] [] p9] [] p10) [⟨.Name z p11, .Call (.Name "range" p12) [.Call (.Name "len" p13) [.Name y p14] [] p15] [] p16, [], 0⟩] scope p2)) pos) (tS c (mixS i j φ)) := by
  have hNk : X.N[k]? = some z := ok.ix (z, k) (by simp)
  have lenE : ∀ {q1 q2 q3 : Pos}, PE X (.Call (.Name "len" q1) [.Name y q2] [] q3) (tD c true fun env P => ∃ ds, env[j]? = some (.own ds) ∧ P (.int ds.length)) := fun {q1 q2 q3} => by
    refine tD_sz hK hs ((je_blt (cr_lenW hK) glen mlen (by decide +kernel) (by decide) (by decide) (tAs_sz hK hs (ja_cons rfl (tD_sz hK hs (je_lent hN2 hv2 hdy hcdy)) ja_nil)) rfl rfl).of fun σ H Q ⟨env, G, F, P, R, ⟨ds, he, hw⟩, hq⟩ => ?_)
    exact ⟨env, G, F, P, R, ⟨ds, .inl he, hw⟩, hq⟩
  have iter : PI X (.Name z p11) (.Call (.Name "range" p12) [.Call (.Name "len" p13) [.Name y p14] [] p15] [] p16) (tI c true false fun env P => ∃ ds, env[j]? = some (.own ds) ∧ ds.length ≤ 16777216 ∧ P (rangeD 0 ds.length)) := by
    refine (ji_range1 grng mrng (tAs_sz hK hs (ja_cons rfl lenE ja_nil)) rfl).of fun σ H Q ⟨env, G, F, P, R, ⟨ds, he, hl, hw⟩, hq⟩ => ?_
    exact ⟨env, G, F, P, R, ⟨ds, he, ⟨by omega, by omega⟩, by simpa using hw⟩, hq⟩
  have elt : ∀ (s : Shared) (H : Hp) (Ca : Addr) (cl : List (Str × Addr)) (fp : List Addr), PE (X.blk s H scope (compEnvC scope cl Ca X.env) fp) (.Call (.Attribute (.Name y p1) (Str.ofString "pop") p3) [.Call (.Name pk p4) [.Name x p5, .Call (.Name "len" p6) [.Name y p7] [] p8] [] p9] [] p10)
      (tBM X.K "list" rPopAt (tVar j) (tCons (tD0 c true fun env P => env[i]? = some .src ∧ ∃ ds, env[j]? = some (.own ds) ∧ φ [.src, .v (.int ds.length)] P) tNil)) := fun s H Ca cl fp => by
    obtain ⟨b1, b2, b3, b4, b5, b6⟩ := blk s H Ca cl fp
    have lenB : ∀ {q1 q2 q3 : Pos}, PE (X.blk s H scope (compEnvC scope cl Ca X.env) fp) (.Call (.Name "len" q1) [.Name y q2] [] q3) (tD c true fun env P => ∃ ds, env[j]? = some (.own ds) ∧ P (.int ds.length)) := fun {q1 q2 q3} => by
      refine tD_sz (X := X.blk s H scope (compEnvC scope cl Ca X.env) fp) hK hs ((je_blt (X := X.blk s H scope (compEnvC scope cl Ca X.env) fp) (cr_lenW hK) b3 mlen (by decide +kernel) (by decide) (by decide) (tAs_sz (X := X.blk s H scope (compEnvC scope cl Ca X.env) fp) hK hs (ja_cons rfl (tD_sz (X := X.blk s H scope (compEnvC scope cl Ca X.env) fp) hK hs (je_lent hN2 b2 hdy hcdy)) ja_nil)) rfl rfl).of fun σ H Q ⟨env, G, F, P, R, ⟨ds, he, hw⟩, hq⟩ => ?_)
      exact ⟨env, G, F, P, R, ⟨ds, .inl he, hw⟩, hq⟩
    have pick : PE (X.blk s H scope (compEnvC scope cl Ca X.env) fp) (.Call (.Name pk p4) [.Name x p5, .Call (.Name "len" p6) [.Name y p7] [] p8] [] p9) (tD0 c true fun env P => env[i]? = some .src ∧ ∃ ds, env[j]? = some (.own ds) ∧ φ [.src, .v (.int ds.length)] P) := by
      refine (je_call (X := X.blk s H scope (compEnvC scope cl Ca X.env) fp) (c := c) hK (C := ⟨C.ex⟩) hgu b4 hdp (jc_src hN b1 hdx hcdx (jc_cons rfl lenB jc_nil)) rfl rfl).of fun σ H Q ⟨env, G, F, P, R, ⟨he, ds, he2, hw⟩, hq⟩ => ?_
      exact ⟨env, G, F, P, R, ⟨he, ds, he2, rfl, hw⟩, hq⟩
    exact pe_bm (X := X.blk s H scope (compEnvC scope cl Ca X.env) fp) PySem.F.plainAttrs_list PySem.F.slot_list_pop PySem.F.type_list_pop mt_popAt (pe_var hN2 b2 hdy hcdy) (pa_cons pick pa_nil) rfl rfl hline rfl rfl
  refine (ps_ret (pe_lc hcalm hnd iter ok (fun s H C cl fp => jg_name (c := c) (i := k) hnd hNk (blk s H C cl fp).2.2.2.2.1 (blk s H C cl fp).2.2.2.2.2) (fun s H C cl fp => jts_nil (c := c)) elt fun _ => rfl)).of fun D σ H ⟨env, G, F, E, R, ⟨ds, hj, hi, hP, hz, hw⟩, h1, h2, h3, h4⟩ => ?_
  refine ⟨env, G, F, _, R, ⟨ds, hj, hz, rfl⟩, fun xs G1 F1 H1 J hxs st1 _ it _ L hL => ?_⟩
  subst hxs
  obtain ⟨Gp, Y, wk, hGp, hY⟩ := it rfl
  have R1 := R.step st1
  have nsrc : ¬ IsSrc c.S L := fun ⟨a, l, e, z⟩ => by
    obtain ⟨w1, w2, w3, w4⟩ := st1.ok.wd a l e
    obtain ⟨_, _, _, _, e1, e2⟩ := w4
    rcases z with z | z
    · rw [z, e1] at hL; cases hL
    · rw [z, e2] at hL; cases hL
  have hF1 : F1 L = none := st1.ok.fh.free hL
  have h0L : c.H0 L = none := by
    cases z : c.H0 L with
    | none => rfl
    | some o => exact absurd hL (R1.al L (by rw [z]; simp))
  have hlenx : (rangeD 0 ds.length).length = ds.length := by simp [rangeD]
  have ejl : j < env.length := (List.getElem?_eq_some_iff.mp hj).1
  have eil : i < env.length := (List.getElem?_eq_some_iff.mp hi).1
  have hij : i ≠ j := fun z => by rw [z, hj] at hi; cases hi
  refine lc_it wk (fun n H => ∃ G F ts rs vt, Rel c (env.set j (.own rs)) G F σ H ∧ Same G1 G ∧ F L = none ∧ H L = some (.lst vt) ∧ RpAll c.K G vt ts ∧ (ts ++ rs).Perm ds ∧ rs.length + n = ds.length ∧ vt.length = n)
    ⟨G1, F1, [], ds, [], ?_, .refl _, hF1, upd_same, .nil, .refl _, rfl, rfl⟩ (fun n H _ ⟨G, F, ts, rs, vt, R', sg, _⟩ => hGp H ((sg.trans R'.ok.gf).trans R'.ok.fh)) (fun n v H2 H3 hn ⟨G2, F2, ts, rs, vt, R2, sg, hFL, hHL, hr, hp, hrl, hvl⟩ y => ?_) fun H2 ⟨G2, F2, ts, rs, vt, R2, sg, hFL, hHL, hr, hp, hrl, hvl⟩ => ?_
  · have e : env.set j (.own ds) = env := by
      obtain ⟨h, e⟩ := List.getElem?_eq_some_iff.mp hj
      rw [← e]; exact List.set_getElem_self h
    rw [e]
    exact R1.beside hF1 h0L nsrc
  · have hnd' : n < ds.length := by rw [hlenx] at hn; exact hn
    have hdn : (rangeD 0 ds.length)[n]? = some (rangeD 0 ds.length)[n] := List.getElem?_eq_getElem hn
    obtain ⟨G3, F3, st3, rx⟩ := hY n H2 v H3 _ hdn y G2 F2 R2.ok sg (sg.trans R2.ok.gf)
    have hHL3 := st3.fr L _ hHL nsrc
    have hFL3 := noD_of st3 hFL (by rw [hHL]; simp)
    refine ⟨_, G3, F3, _, fun env4 => env4 = (wipeE (env.set j (.own rs)) [k]).set k (.v (rangeD 0 ds.length)[n]), (R2.step st3).wiped [k], rx, rfl, fun env4 σ4 h4 R4 w4 => ⟨(w4 [k] (by simp)).trans (wipe_wipe fun _ h => h), env4, G3, F3, fun b => b = true, R4, rfl, fun b G5 F5 H5 hb st5 => ?_⟩⟩
    subst hb h4
    simp only [if_true]
    have hHL5 := st5.fr L _ hHL3 nsrc
    have hFL5 := noD_of st5 hFL3 (by rw [hHL3]; simp)
    have R5 := R4.step st5
    have ej : ((wipeE (env.set j (.own rs)) [k]).set k (.v (rangeD 0 ds.length)[n]))[j]? = some (.own rs) := by
      rw [List.getElem?_set_ne (Ne.symm hjk)]
      show ((env.set j (.own rs)).set k .no)[j]? = _
      rw [List.getElem?_set_ne (Ne.symm hjk), List.getElem?_set_self ejl]
    have ei : ((wipeE (env.set j (.own rs)) [k]).set k (.v (rangeD 0 ds.length)[n]))[i]? = some .src := by
      rw [List.getElem?_set_ne (Ne.symm hik)]
      show ((env.set j (.own rs)).set k .no)[i]? = _
      rw [List.getElem?_set_ne (Ne.symm hik), List.getElem?_set_ne (Ne.symm hij)]
      exact hi
    obtain ⟨x', hx, a, vs, rfl, q1, q2, q3, q4⟩ := R5.sl j _ ej (by simp)
    have hσ : σ[j]? = some (some (.ref a)) := by
      have w := (w4 [k] (by simp)).trans (wipe_wipe (σ := σ) (ws := [k]) (vs := [k]) fun _ h => h)
      have w' : σ4.set k none = σ.set k none := w
      have e := congrArg (fun t : L2.St => t[j]?) w'
      simp only [List.getElem?_set_ne (Ne.symm hjk)] at e
      rw [← e]; exact hx
    have hpos : 1 ≤ (rs.length : Int) := by omega
    refine ⟨_, hx, .inl ⟨rfl, vs, .of (R5.ok.fh _ _ q1)⟩, _, G5, F5, fun d => ∃ r : Int, d = .int r ∧ 0 ≤ r ∧ r < rs.length, R5, ⟨ei, rs, ej, hP _ _ hpos (by omega) fun r r0 r1 => ⟨r, rfl, r0, r1⟩⟩, fun d6 v6 G6 F6 H6 hp6 st6 ru6 _ => ?_⟩
    obtain ⟨r, rfl, r0, r1⟩ := hp6
    have ev := ru6.int
    subst ev
    have hHL6 := st6.fr L _ hHL5 nsrc
    have hFL6 := noD_of st6 hFL5 (by rw [hHL5]; simp)
    have q1' := st6.f _ _ q1
    have hrn : r.toNat < rs.length := by omega
    have hget : rs[r.toNat]? = some rs[r.toNat] := List.getElem?_eq_getElem hrn
    have q4' := q4.mono st6.g
    obtain ⟨w, hw1, hw2⟩ := q4'.at hget
    have hne : L ≠ a := fun z => by rw [z, q1'] at hFL6; cases hFL6
    refine ⟨a, vs, r, r.toNat, w, rfl, rfl, st6.ok.fh _ _ q1', by omega, by omega, ?_, hw1, vt, ?_, ?_, G6, upd F6 a (.lst (vs.eraseIdx r.toNat)), ts ++ [rs[r.toNat]], rs.eraseIdx r.toNat, vt ++ [w], ?_, ?_, ?_, upd_same, ?_, ?_, ?_, ?_⟩
    · rw [q4.length]
      unfold seqIndex?
      simp only [r0, r1]
      grind
    · rw [upd_ne hne]; exact hHL6
    · rw [sizeLine_eq, hvl]; omega
    · have R6 := R2.step (st3.trans (st5.trans st6))
      have R7 := R6.write (es := rs.eraseIdx r.toNat) (ws := vs.eraseIdx r.toNat) (by rw [List.getElem?_set_self ejl]) hσ (q4'.eraseIdx _)
      rw [List.set_set] at R7
      exact R7.beside (by rw [upd_ne hne]; exact hFL6) h0L nsrc
    · exact ((sg.trans st3.g).trans st5.g).trans st6.g
    · rw [upd_ne hne]; exact hFL6
    · exact (((hr.mono st3.g).mono st5.g).mono st6.g).append (.cons hw2 .nil)
    · exact perm_take hp hget
    · rw [List.length_eraseIdx_of_lt hrn]; omega
    · simp [hvl]
  · have hn : rs = [] := by
      rw [hlenx] at hrl
      exact List.eq_nil_of_length_eq_zero (by omega)
    subst hn
    rw [List.append_nil] at hp
    exact h2 _ _ _ _ _ _ _ (hw ts hp) (R2.adopt hFL h0L nsrc hHL) (.lst upd_same (hr.mono (same_upd (R2.ok.gf.free hFL))))
end Mi

set_option Elab.async false
set_option linter.all false
set_option maxRecDepth 100000
set_option maxHeartbeats 4000000
namespace Mi
open PySem PySem.Spec PyProof.Rows L2
open PySem (IsTupOf2 ZipSep2)

/-! ### zip(.., strict=True) -/
abbrev ZipS (h : Heap) (z TI TO : Addr) (f0 : Value) : Prop :=
  h.get? z = some { cls := .type "zip", dict := none, data := .fields #[f0, .bool false, .bool true, .ref TI, .ref TO], slots := #[] }
def ItZS (k1 k2 : Sq) (K : PySem.W.Frag) (a b : Addr) (n : Nat) : It :=
  ⟨(ItZ k1 k2 K a b).go, (ItZ k1 k2 K a b).yld, fun i H => ∃ xs ys : List V, k1.sq K H a xs ∧ k2.sq K H b ys ∧ xs.length = i ∧ ys.length = i⟩
section
variable {prog : Program} {w : World} {A : Around} {E : Value → Shared → Prop} {s : Shared} {z TI TO i1 i2 it : Addr} {fp1 fp2 fp : List Addr} {n1 n2 n i : Nat} {P P1 P2 : Nat → Value → Prop} {St St1 St2 : Nat → Heap → Prop} {a1 a2 : Value}
theorem orEnd_item {Q : Option Value → Shared → Prop} (D : Draws prog w A it fp n P St) (hi : i < n) (st : St i s.heap)
    (h : ∀ x h' tk, P i x → St (i + 1) h' → Heap.SameBut it s.heap h' → Q (some x) { s with heap := h', toks := tk }) : wpAny (model prog w) A (Builtin.SmallTypes.nextOrEnd (.ref it)) Q E s := by
  unfold Builtin.SmallTypes.nextOrEnd
  exact wpAny_bind (wpAny_attempt (D.item i s _ _ hi st fun x h' tk a b c => wpAny_pure (h x h' tk a b c)))
theorem orEnd_done {Q : Option Value → Shared → Prop} (D : Draws prog w A it fp n P St) (st : St n s.heap)
    (h : ∀ h', Heap.ExtBut it s.heap h' → Q none { s with heap := h' }) : wpAny (model prog w) A (Builtin.SmallTypes.nextOrEnd (.ref it)) Q E s := by
  unfold Builtin.SmallTypes.nextOrEnd
  refine wpAny_bind (wpAny_attempt (D.done s _ _ st fun h' e hk he => ?_))
  refine wpAny_bind (wpAny_isInstance (T := "StopIteration") (b := true) he isSubtype_stop ?_)
  exact wpAny_pure (h h' hk)

theorem upd2 {T : Addr} {x : Value} {k : Nat} {Q : Unit → Shared → Prop} (hT : IsTupOf2 s.heap T a1 a2)
    (h : ∀ h', h'.get? T = some { cls := .type "tuple", data := .seq ((#[a1, a2] : Array Value).setIfInBounds k x) } → Heap.SameBut T s.heap h' → Q () { s with heap := h' }) :
    wpAny (model prog w) A (updateSeq T (·.setIfInBounds k x)) Q E s := updateSeq_IsTupOf2 hT h
theorem zipS_item {Q : Value → Shared → Prop} (S : ZipSep2 z TI TO i1 i2 fp1 fp2) (D1 : Draws prog w A i1 fp1 n1 P1 St1) (D2 : Draws prog w A i2 fp2 n2 P2 St2)
    (hz : ZipS s.heap z TI TO .none) (hTI : IsTupOf2 s.heap TI (.ref i1) (.ref i2)) (hTO : IsTupOf2 s.heap TO a1 a2) (st1 : St1 i s.heap) (st2 : St2 i s.heap) (hlt1 : i < n1) (hlt2 : i < n2)
    (hQ : ∀ x1 x2 h' tk, P1 i x1 → P2 i x2 → ZipS h' z TI TO (rawInt s.heap.objs.size) → IsTupOf2 h' TO x1 x2 → St1 (i + 1) h' → St2 (i + 1) h' → IsTupOf2 h' s.heap.objs.size x1 x2 → h'.objs.size = s.heap.objs.size + 1 →
      (∀ c o, c ≠ z → c ≠ TO → c ≠ i1 → c ≠ i2 → s.heap.get? c = some o → h'.get? c = some o) → Q (.ref s.heap.objs.size) { s with heap := h', toks := tk }) :
    wpAny (model prog w) A (Builtin.«zip.__next__» ⟨[.ref z], []⟩) (fun fin s' => ∃ v, fin = .done (.ret v) ∧ Q v s') E s := by
  obtain ⟨hp, g, d, tk0, os⟩ := s
  show wpAny _ _ (field (.ref z) 2 >>= _) _ _ _
  refine wpAny_bind (wpAny_field hz rfl (x := .bool true) rfl ?_)
  show wpAny _ _ (field (.ref z) 3 >>= _) _ _ _
  refine wpAny_bind (wpAny_field hz rfl (x := .ref TI) rfl (wpAny_bind (wpAny_seqItems hTI rfl ?_)))
  show wpAny _ _ (Builtin.SmallTypes.ownedTupleIsFree (.ref z) >>= _) _ _ _
  refine wpAny_bind ?_
  unfold Builtin.SmallTypes.ownedTupleIsFree
  refine wpAny_bind (wpAny_field hz rfl (x := .none) rfl (wpAny_pure ?_))
  simp only [if_true]
  refine wpAny_bind (wpAny_rule (wpAny_bind (wpAny_field hz rfl (x := .ref TO) rfl (wpAny_bind (wpAny_setField_rec hz (by simp) fun g0 hz0 hs0 => ?_)))))
  replace hz0 : ZipS g0 z TI TO .ellipsis := hz0
  replace hs0 : Heap.SameBut z hp g0 := hs0
  refine wpAny_bind ?_
  simp only [List.zipIdx_cons, List.zipIdx_nil, List.forIn_cons, List.forIn_nil]
  refine wpAny_bind (wpAny_bind (wpAny_onRaise ?_))
  show wpAny _ _ (Builtin.SmallTypes.nextOrEnd (.ref i1)) _ _ ⟨g0, g, d, tk0, os⟩
  refine orEnd_item D1 hlt1 (D1.over st1 hs0 S.zf1) fun x1 p1 tk1 hx1 sn1 hp1 => ?_
  replace hp1 : Heap.SameBut i1 g0 p1 := hp1
  have hU1 : IsTupOf2 p1 TO a1 a2 := hp1.extBut _ _ S.Ti1 (hs0.extBut _ _ S.TOz hTO)
  refine wpAny_bind (wpAny_seqItems (s := ⟨p1, g, d, tk1, os⟩) hU1 rfl (wpAny_bind (upd2 (s := ⟨p1, g, d, tk1, os⟩) hU1 fun g1 hT1 hs1 => ?_)))
  replace hT1 : IsTupOf2 g1 TO x1 a2 := hT1
  replace hs1 : Heap.SameBut TO p1 g1 := hs1
  refine wpAny_bind (wpAny_letGo (wpAny_pure ?_))
  refine wpAny_bind (wpAny_bind (wpAny_onRaise ?_))
  show wpAny _ _ (Builtin.SmallTypes.nextOrEnd (.ref i2)) _ _ ⟨g1, g, d, tk1, os⟩
  refine orEnd_item D2 hlt2 (D2.over (D2.over (D2.over st2 hs0 S.zf2) hp1 S.sep1_2) hs1 S.Tf2) fun x2 p2 tk2 hx2 sn2 hp2 => ?_
  replace hp2 : Heap.SameBut i2 g1 p2 := hp2
  have hU2 : IsTupOf2 p2 TO x1 a2 := hp2.extBut _ _ S.Ti2 hT1
  refine wpAny_bind (wpAny_seqItems (s := ⟨p2, g, d, tk2, os⟩) hU2 rfl (wpAny_bind (upd2 (s := ⟨p2, g, d, tk2, os⟩) hU2 fun g2 hT2 hs2 => ?_)))
  replace hT2 : IsTupOf2 g2 TO x1 x2 := hT2
  replace hs2 : Heap.SameBut TO p2 g2 := hs2
  refine wpAny_bind (wpAny_letGo (wpAny_pure (wpAny_pure ?_)))
  refine wpAny_bind (wpAny_seqItems (s := ⟨g2, g, d, tk2, os⟩) hT2 rfl (wpAny_bind (wpAny_newTuple ?_)))
  have hsz : g2.objs.size = hp.objs.size := by rw [hs2.1, hp2.1, hs1.1, hp1.1, hs0.1]
  have hzz : ZipS g2 z TI TO .ellipsis := (hs2.extBut _ _ S.TOz.symm (hp2.extBut _ _ S.zi2 (hs1.extBut _ _ S.TOz.symm (hp1.extBut _ _ S.zi1 hz0))))
  have hkk : ∀ c o, c ≠ z → c ≠ TO → c ≠ i1 → c ≠ i2 → hp.get? c = some o → g2.get? c = some o := fun c o cz cT c1 c2 e => hs2.extBut _ _ cT (hp2.extBut _ _ c2 (hs1.extBut _ _ cT (hp1.extBut _ _ c1 (hs0.extBut _ _ cz e))))
  have hj1 : St1 (i + 1) g2 := D1.over (D1.over (D1.over sn1 hs1 S.Tf1) hp2 S.sep2_1) hs2 S.Tf1
  have hj2 : St2 (i + 1) g2 := D2.over sn2 hs2 S.Tf2
  have hzlt : z < g2.objs.size := Heap.lt_size hzz
  show wpAny _ _ (Builtin.SmallTypes.ownedTupleHandOut (.ref z) (.ref g2.objs.size) >>= _) _ _ ⟨g2.push { cls := .type "tuple", data := .seq #[x1, x2] }, g, d, tk2, os⟩
  refine wpAny_bind ?_
  unfold Builtin.SmallTypes.ownedTupleHandOut
  have hz6 : ZipS (g2.push { cls := .type "tuple", data := .seq #[x1, x2] }) z TI TO .ellipsis := Heap.get?_push_of_some _ hzz
  refine wpAny_bind (wpAny_setField_rec hz6 (by simp) fun h7 hz7 hs7 => ?_)
  replace hz7 : ZipS h7 z TI TO (rawInt g2.objs.size) := hz7
  refine wpAny_setField_rec hz7 (by simp) fun h8 hz8 hs8 => ?_
  replace hz8 : ZipS h8 z TI TO (rawInt g2.objs.size) := hz8
  replace hs7 : Heap.SameBut z (g2.push { cls := .type "tuple", data := .seq #[x1, x2] }) h7 := hs7
  replace hs8 : Heap.SameBut z h7 h8 := hs8
  have up : ∀ c o, c ≠ z → g2.get? c = some o → h8.get? c = some o := fun c o c1 e => hs8.extBut _ _ c1 (hs7.extBut _ _ c1 (Heap.get?_push_of_some _ e))
  have hT8 : IsTupOf2 h8 g2.objs.size x1 x2 := hs8.extBut _ _ (Nat.ne_of_gt hzlt) (hs7.extBut _ _ (Nat.ne_of_gt hzlt) (Heap.get?_push_size _ rfl))
  have hs88 : h8.objs.size = g2.objs.size + 1 := by rw [hs8.1, hs7.1, Heap.size_push]
  rw [hsz] at hz8 hT8 hs88
  refine wpAny_pure ⟨_, rfl, ?_⟩
  show Q (.ref g2.objs.size) ⟨h8, g, d, tk2, os⟩
  rw [hsz]
  exact hQ x1 x2 h8 tk2 hx1 hx2 hz8 (up _ _ S.TOz hT2) (D1.frame _ _ _ hj1 fun b hb o e => up b o (fun q => S.zf1 (q ▸ hb)) e) (D2.frame _ _ _ hj2 fun b hb o e => up b o (fun q => S.zf2 (q ▸ hb)) e) hT8 hs88 fun c o cz cT c1 c2 e => up c o cz (hkk c o cz cT c1 c2 e)
theorem zipS_end {Q : Fin → Shared → Prop} (hh : A.handled = none) (S : ZipSep2 z TI TO i1 i2 fp1 fp2) (D1 : Draws prog w A i1 fp1 n P1 St1) (D2 : Draws prog w A i2 fp2 n P2 St2)
    (hz : ZipS s.heap z TI TO .none) (hTI : IsTupOf2 s.heap TI (.ref i1) (.ref i2)) (hTO : IsTupOf2 s.heap TO a1 a2) (st1 : St1 n s.heap) (st2 : St2 n s.heap)
    (hE : ∀ h' tk e, (∀ c o, c ≠ z → c ≠ TO → c ≠ i1 → c ≠ i2 → s.heap.get? c = some o → h'.get? c = some o) → (∃ o, h'.get? e = some o ∧ o.cls = .type "StopIteration") → E (.ref e) { s with heap := h', toks := tk }) :
    wpAny (model prog w) A (Builtin.«zip.__next__» ⟨[.ref z], []⟩) Q E s := by
  obtain ⟨hp, g, d, tk0, os⟩ := s
  show wpAny _ _ (field (.ref z) 2 >>= _) _ _ _
  refine wpAny_bind (wpAny_field hz rfl (x := .bool true) rfl ?_)
  show wpAny _ _ (field (.ref z) 3 >>= _) _ _ _
  refine wpAny_bind (wpAny_field hz rfl (x := .ref TI) rfl (wpAny_bind (wpAny_seqItems hTI rfl ?_)))
  show wpAny _ _ (Builtin.SmallTypes.ownedTupleIsFree (.ref z) >>= _) _ _ _
  refine wpAny_bind ?_
  unfold Builtin.SmallTypes.ownedTupleIsFree
  refine wpAny_bind (wpAny_field hz rfl (x := .none) rfl (wpAny_pure ?_))
  simp only [if_true]
  refine wpAny_bind (wpAny_rule (wpAny_bind (wpAny_field hz rfl (x := .ref TO) rfl (wpAny_bind (wpAny_setField_rec hz (by simp) fun g0 hz0 hs0 => ?_)))))
  replace hz0 : ZipS g0 z TI TO .ellipsis := hz0
  replace hs0 : Heap.SameBut z hp g0 := hs0
  refine wpAny_bind ?_
  simp only [List.zipIdx_cons, List.zipIdx_nil, List.forIn_cons, List.forIn_nil]
  refine wpAny_bind (wpAny_bind (wpAny_onRaise ?_))
  show wpAny _ _ (Builtin.SmallTypes.nextOrEnd (.ref i1)) _ _ ⟨g0, g, d, tk0, os⟩
  refine orEnd_done D1 (D1.over st1 hs0 S.zf1) fun p1 hp1 => ?_
  replace hp1 : Heap.ExtBut i1 g0 p1 := hp1
  have hzq : ZipS p1 z TI TO .ellipsis := hp1 _ _ S.zi1 hz0
  refine wpAny_bind (wpAny_setField_rec (s := ⟨p1, g, d, tk0, os⟩) hzq (by simp) fun g1 hz1 hs1 => ?_)
  replace hz1 : ZipS g1 z TI TO .none := hz1
  replace hs1 : Heap.SameBut z p1 g1 := hs1
  refine wpAny_bind ?_
  show wpAny _ _ (forIn ((List.drop 1 [Value.ref i1, Value.ref i2]).zipIdx 1) PUnit.unit _ >>= _) _ _ _
  simp only [List.drop_succ_cons, List.drop_zero, List.zipIdx_cons, List.zipIdx_nil, List.forIn_cons, List.forIn_nil]
  have st2' : St2 n g1 := D2.over (D2.frame _ _ _ (D2.over st2 hs0 S.zf2) fun b hb o e => hp1 b o (fun q => S.sep1_2 (q ▸ hb)) e) hs1 S.zf2
  refine wpAny_bind (wpAny_bind (wpAny_bind (orEnd_done (s := ⟨g1, g, d, tk0, os⟩) D2 st2' fun p2 hp2 => ?_)))
  replace hp2 : Heap.ExtBut i2 g1 p2 := hp2
  rw [if_neg (by simp)]
  refine wpAny_pure (wpAny_pure (wpAny_bind (wpAny_rule ?_)))
  show wpAny _ _ (newExc (.type "StopIteration") [] >>= fun e => raiseNew e) _ _ ⟨p2, g, d, tk0, os⟩
  refine wpAny_bind ?_
  simp only [newExc, newTuple]
  refine wpAny_bind (wpAny_newObj_type (wpAny_bind (m := firstArgMember _ _) (wpAny_of_eq (a := Value.none) (by first | rfl | (simp only [firstArgMember]; rfl)) (wpAny_newObj_type ?_ (by size_fits)))) (by size_fits))
  refine wpAny_raiseNew_none hh (hE _ tk0 _ (fun c o cz cT c1 c2 x => ?_) ⟨_, Heap.get?_push_size _ rfl, rfl⟩)
  exact Heap.get?_push_of_some _ (Heap.get?_push_of_some _ (hp2 _ _ c2 (hs1.extBut _ _ cz (hp1 _ _ c1 (hs0.extBut _ _ cz x)))))

theorem nextS_item {Q : Option Value → Shared → Prop} (S : ZipSep2 z TI TO i1 i2 fp1 fp2) (D1 : Draws prog w A.in1 i1 fp1 n1 P1 St1) (D2 : Draws prog w A.in1 i2 fp2 n2 P2 St2)
    (hz : ZipS s.heap z TI TO .none) (hTI : IsTupOf2 s.heap TI (.ref i1) (.ref i2)) (hTO : IsTupOf2 s.heap TO a1 a2) (st1 : St1 i s.heap) (st2 : St2 i s.heap) (hlt1 : i < n1) (hlt2 : i < n2)
    (hQ : ∀ x1 x2 h' tk, P1 i x1 → P2 i x2 → ZipS h' z TI TO (rawInt s.heap.objs.size) → IsTupOf2 h' TO x1 x2 → St1 (i + 1) h' → St2 (i + 1) h' → IsTupOf2 h' s.heap.objs.size x1 x2 → h'.objs.size = s.heap.objs.size + 1 →
      (∀ c o, c ≠ z → c ≠ TO → c ≠ i1 → c ≠ i2 → s.heap.get? c = some o → h'.get? c = some o) → Q (some (.ref s.heap.objs.size)) { s with heap := h', toks := tk }) :
    wpAny (model prog w) A (pyNext (.ref z)) Q E s := by
  have hT : s.TypeIs (.ref z) "zip" := ⟨_, hz, rfl⟩
  unfold pyNext
  exact wpAny_bind (wpAny_attempt (wpAny_callSpecial?_slot (name := Str.ofString "__next__") hT F.slot_zip_next (wpAny_call_entry F.slot_zip_next hT F.entry_zip_next
      (zipS_item S D1 D2 hz hTI hTO st1 st2 hlt1 hlt2 fun x1 x2 h' tk y1 y2 b1 b2 d1 d2 b5 b6 b7 => wpAny_pure (hQ x1 x2 h' tk y1 y2 b1 b2 d1 d2 b5 b6 b7)) (F.args_zip_next_1 _))))
theorem nextS_end {Q : Option Value → Shared → Prop} (hh : A.in1.handled = none) (S : ZipSep2 z TI TO i1 i2 fp1 fp2) (D1 : Draws prog w A.in1 i1 fp1 n P1 St1) (D2 : Draws prog w A.in1 i2 fp2 n P2 St2)
    (hz : ZipS s.heap z TI TO .none) (hTI : IsTupOf2 s.heap TI (.ref i1) (.ref i2)) (hTO : IsTupOf2 s.heap TO a1 a2) (st1 : St1 n s.heap) (st2 : St2 n s.heap)
    (hQ : ∀ h' tk, (∀ c o, c ≠ z → c ≠ TO → c ≠ i1 → c ≠ i2 → s.heap.get? c = some o → h'.get? c = some o) → Q none { s with heap := h', toks := tk }) : wpAny (model prog w) A (pyNext (.ref z)) Q E s := by
  have hT : s.TypeIs (.ref z) "zip" := ⟨_, hz, rfl⟩
  unfold pyNext
  refine wpAny_bind (wpAny_attempt (wpAny_callSpecial?_slot (name := Str.ofString "__next__") hT F.slot_zip_next (wpAny_call_entry F.slot_zip_next hT F.entry_zip_next
    (zipS_end hh S D1 D2 hz hTI hTO st1 st2 fun h' tk e hk he => ?_) (F.args_zip_next_1 _))))
  exact wpAny_bind (wpAny_isInstance (T := "StopIteration") (b := true) he isSubtype_stop (wpAny_pure (hQ _ _ hk)))
theorem goS {elts : List Expr} {k : Nat} {pos : Pos} {T : Addr} {Q : Unit → Shared → Prop} (hz : ZipS s.heap z TI TO (rawInt T)) (hQ : ∀ h', ZipS h' z TI TO .none → Heap.SameBut z s.heap h' → Q () { s with heap := h' }) :
    wpAny (model prog w) A (letOwnedTupleGo (.Tuple elts k pos) (.ref z) (.ref T)) Q E s := by
  unfold letOwnedTupleGo
  refine wpAny_bind (wpAny_load hz ?_)
  show wpAny _ _ (if (["enumerate", "zip", "dict_itemiterator", "dict_reverseitemiterator", "odict_iterator", "itertools.zip_longest", "itertools.pairwise"].contains "zip" && (#[rawInt T, .bool false, .bool true, .ref TI, .ref TO] : Array Value)[0]? == some (rawInt T)) = true then _ else _) Q E s
  rw [if_pos (by simp)]
  refine wpAny_bind (wpAny_rule (show wpAny _ _ (setField (.ref z) 0 .none) Q E s from ?_))
  exact wpAny_setField_rec hz (by simp) fun h' hz' hs' => hQ h' hz' hs'
theorem iterS {f0 : Value} {Q : Value → Shared → Prop} (hz : ZipS s.heap z TI TO f0) (h : Q (.ref z) s) : wpAny (model prog w) A (pyIter (.ref z)) Q E s := by
  have hT : s.TypeIs (.ref z) "zip" := ⟨_, hz, rfl⟩
  refine wpAny_pyIter_slot hT F.slot_zip_iter (wpAny_call_entry F.slot_zip_iter hT F.entry_zip_iter (show wpAny _ _ (ret (.ref z)) _ _ s from ?_) (F.args_zip_iter_1 _))
  exact wpAny_pure ⟨_, rfl, "zip", _, hT, F.slot_zip_next.lookup, h⟩
end
theorem turn_zipS (k1 k2 : Sq) {P : Program} {w : World} {K : PySem.W.Frag} {elts : List Expr} {kk : Nat} {tpos : Pos} {a b z TI TO i1 i2 : Addr}
    (d : TI ≠ z ∧ TO ≠ z ∧ TI ≠ TO ∧ TI ≠ i1 ∧ TI ≠ i2 ∧ z ≠ i1 ∧ z ≠ i2 ∧ TO ≠ i1 ∧ TO ≠ i2 ∧ i1 ≠ i2) (n : Nat) :
    Turn P w K (.Tuple elts kk tpos) (ItZS k1 k2 K a b n) [z, TI, TO, i1, i2] z
      (fun i h => ZipS h z TI TO .none ∧ IsTupOf2 h TI (.ref i1) (.ref i2) ∧ (∃ a1 a2, IsTupOf2 h TO a1 a2) ∧ k1.it h i1 a i ∧ k2.it h i2 b i) where
  mem := by simp
  obj := fun i h st c hb => by
    obtain ⟨hz, hTI, ⟨a1, a2, hTO⟩, h1, h2⟩ := st
    have e' : c = z ∨ c = TI ∨ c = TO ∨ c = i1 ∨ c = i2 := by simpa using hb
    rcases e' with e | e | e | e | e
    · rw [e]; exact ⟨_, hz, fun v q => nomatch q⟩
    · rw [e]; exact ⟨_, hTI, fun v q => nomatch q⟩
    · rw [e]; exact ⟨_, hTO, fun v q => nomatch q⟩
    · rw [e]; exact k1.it_obj h1
    · rw [e]; exact k2.it_obj h2
  keep := fun i h h' st kp => let ⟨hz, hTI, ⟨a1, a2, hTO⟩, h1, h2⟩ := st
    ⟨kp z (by simp) _ hz, kp TI (by simp) _ hTI, ⟨a1, a2, kp TO (by simp) _ hTO⟩, k1.it_at h1 fun o q => kp i1 (by simp) o q, k2.it_at h2 fun o q => kp i2 (by simp) o q⟩
  item := by
    intro X hP hw hK hc i pins s σ H E I hf st hg
    subst hP hw hK
    obtain ⟨hz, hTI, ⟨a1, a2, hTO⟩, h1, h2⟩ := st
    obtain ⟨xs, ys, x, y, hq1, hq2, hx, hy⟩ := hg
    obtain ⟨its, rv, p, _, hlt⟩ := sq_get k1 I hq1
    obtain ⟨its2, rv2, p2, _, hlt2⟩ := sq_get k2 I hq2
    obtain ⟨u, hu, ru⟩ := rv.get hx
    obtain ⟨u2, hu2, ru2⟩ := rv2.get hy
    have na : ∀ c ∈ [z, TI, TO, i1, i2], a ≠ c := fun c hb => sq_ne k1 I hq1 (hf c hb)
    have nb : ∀ c ∈ [z, TI, TO, i1, i2], b ≠ c := fun c hb => sq_ne k2 I hq2 (hf c hb)
    obtain ⟨d1, d2, d3, d4, d5, d6, d7, d8, d9, d10⟩ := d
    have hh : X.A.in1.handled = none := I.ok.hd hc
    have D1 := k1.draws (prog := X.prog) (w := X.w) (A := X.A.in1) hh i1 a (na i1 (by simp)) its.toArray
    have D2 := k2.draws (prog := X.prog) (w := X.w) (A := X.A.in1) hh i2 b (nb i2 (by simp)) its2.toArray
    have Z : ZipSep2 z TI TO i1 i2 [i1, a] [i2, b] :=
      { TIz := d1, TOz := d2, TITO := d3, TIi1 := d4, mem1 := by simp, zf1 := by simp [d6, (na z (by simp)).symm], Tf1 := by simp [d8, (na TO (by simp)).symm],
        TIi2 := d5, mem2 := by simp, zf2 := by simp [d7, (nb z (by simp)).symm], Tf2 := by simp [d9, (nb TO (by simp)).symm],
        sep1_2 := by simp [d10, (nb i1 (by simp)).symm], sep2_1 := by simp [d10.symm, (na i2 (by simp)).symm] }
    have l1 : i < its.toArray.size := by simpa using (List.getElem?_eq_some_iff.mp hu).1
    have l2 : i < its2.toArray.size := by simpa using (List.getElem?_eq_some_iff.mp hu2).1
    have hzl : z < s.heap.objs.size := Heap.lt_size hz
    refine nextS_item Z D1 D2 hz hTI hTO ⟨h1, p⟩ ⟨h2, p2⟩ l1 l2 fun v1 v2 h' tk e1 e2 hz' hTO' st1' st2' hTup hsz hk => ⟨_, rfl, goS hz' fun h'' hz'' hs'' => ?_⟩
    have ev1 : v1 = u := by
      have q : its[i]? = some v1 := by simpa using e1
      rw [hu] at q; exact (Option.some.inj q).symm
    have ev2 : v2 = u2 := by
      have q : its2[i]? = some v2 := by simpa using e2
      rw [hu2] at q; exact (Option.some.inj q).symm
    subst ev1 ev2
    have hT2 : IsTupOf2 h'' s.heap.objs.size v1 v2 := (hs''.2 _ (Nat.ne_of_gt hzl)).trans hTup
    have new : ObjOk X.prog X.w (upd H s.heap.objs.size (.tup [x, y])) h'' s.heap.objs.size (.tup [x, y]) := ⟨by show 2 ≤ sizeLine; decide, [v1, v2], .cons ru (.cons ru2 .nil), ⟨_, hT2, rfl, _, rfl⟩⟩
    have hn : H s.heap.objs.size = none := I.hok.fresh (Nat.le_refl _)
    have I1 : Inv X pins σ (upd H s.heap.objs.size (.tup [x, y])) { s with heap := h'', toks := tk } :=
      I.turnedNew (ch := [z, TI, TO, i1, i2]) (fun c ob hb q => (hs''.2 c (fun q' => hb (by simp [q']))).trans (hk c ob (fun q' => hb (by simp [q'])) (fun q' => hb (by simp [q'])) (fun q' => hb (by simp [q'])) (fun q' => hb (by simp [q'])) q)) hf (Nat.le_refl _) new
    refine ⟨.ref s.heap.objs.size, _, I1, rfl, ⟨_, x, y, rfl, hn, rfl, fun ws hw => by rw [sq_inj k1 I hw hq1]; exact hx, fun ws hw => by rw [sq_inj k2 I hw hq2]; exact hy⟩, ⟨hz'', ?_, ⟨v1, v2, ?_⟩, ?_, ?_⟩, fun c hb => ?_⟩
    · exact (hs''.2 _ d1).trans (hk _ _ d1 d3 d4 d5 hTI)
    · exact (hs''.2 _ d2).trans hTO'
    · exact (D1.over st1' hs'' Z.zf1).1
    · exact (D2.over st2' hs'' Z.zf2).1
    · have hl : c < s.heap.objs.size := by
        have e' : c = z ∨ c = TI ∨ c = TO ∨ c = i1 ∨ c = i2 := by simpa using hb
        rcases e' with q | q | q | q | q
        · rw [q]; exact hzl
        · rw [q]; exact Heap.lt_size hTI
        · rw [q]; exact Heap.lt_size hTO
        · obtain ⟨_, w1, _⟩ := k1.it_obj h1; rw [q]; exact Heap.lt_size w1
        · obtain ⟨_, w1, _⟩ := k2.it_obj h2; rw [q]; exact Heap.lt_size w1
      rw [upd_ne (Nat.ne_of_lt hl)]
      exact (hf c hb).1
  done := by
    intro X hP hw hK hc i pins s σ H E I hf st hg
    subst hP hw hK
    obtain ⟨hz, hTI, ⟨a1, a2, hTO⟩, h1, h2⟩ := st
    obtain ⟨xs, ys, hq1, hq2, hx1, hx2⟩ := hg
    obtain ⟨its, rv, p, _, hlt⟩ := sq_get k1 I hq1
    obtain ⟨its2, rv2, p2, _, hlt2⟩ := sq_get k2 I hq2
    have na : ∀ c ∈ [z, TI, TO, i1, i2], a ≠ c := fun c hb => sq_ne k1 I hq1 (hf c hb)
    have nb : ∀ c ∈ [z, TI, TO, i1, i2], b ≠ c := fun c hb => sq_ne k2 I hq2 (hf c hb)
    obtain ⟨d1, d2, d3, d4, d5, d6, d7, d8, d9, d10⟩ := d
    have hh : X.A.in1.handled = none := I.ok.hd hc
    have D1 := k1.draws (prog := X.prog) (w := X.w) (A := X.A.in1) hh i1 a (na i1 (by simp)) its.toArray
    have D2 := k2.draws (prog := X.prog) (w := X.w) (A := X.A.in1) hh i2 b (nb i2 (by simp)) its2.toArray
    have Z : ZipSep2 z TI TO i1 i2 [i1, a] [i2, b] :=
      { TIz := d1, TOz := d2, TITO := d3, TIi1 := d4, mem1 := by simp, zf1 := by simp [d6, (na z (by simp)).symm], Tf1 := by simp [d8, (na TO (by simp)).symm],
        TIi2 := d5, mem2 := by simp, zf2 := by simp [d7, (nb z (by simp)).symm], Tf2 := by simp [d9, (nb TO (by simp)).symm],
        sep1_2 := by simp [d10, (nb i1 (by simp)).symm], sep2_1 := by simp [d10.symm, (na i2 (by simp)).symm] }
    have lx : its.toArray.size = i := by rw [List.size_toArray, ← rv.length]; exact hx1
    have ly : its2.toArray.size = i := by rw [List.size_toArray, ← rv2.length]; exact hx2
    rw [lx] at D1
    rw [ly] at D2
    exact nextS_end hh Z D1 D2 hz hTI hTO ⟨h1, p⟩ ⟨h2, p2⟩ fun h' tk hk => ⟨rfl, I.turnedL (ch := [z, TI, TO, i1, i2]) (fun c ob hb q => hk c ob (fun q' => hb (by simp [q'])) (fun q' => hb (by simp [q'])) (fun q' => hb (by simp [q'])) (fun q' => hb (by simp [q'])) q) hf⟩
  self := fun A i s Q E st h => iterS st.1 h
end Mi

set_option Elab.async false
set_option linter.all false
set_option maxRecDepth 100000
set_option maxHeartbeats 4000000
namespace Mi
open PySem PySem.Spec PyProof.Rows L2
section
variable {prog : Program} {w : World} {A : Around} {E : Value → Shared → Prop} {s : Shared}
theorem init_kw {T newId : String} {self a : Value} {rest : List Value} {kw : List (Str × Value)} (hl : typeLookup (.type T) "__init__" = pure (some (.builtin "object.__init__")))
    (hm : Bind.madeBy (.type T) = pure (some newId)) (hne : (some newId != some "object.__new__") = true) :
    Meets (Builtin.«object.__init__» ⟨self :: a :: rest, kw⟩) (fun _ R s => s.TypeIs self T ∧ R (.ok (.ret .none)) s) := by
  refine Meets.of_wp fun prog w A R s ⟨hT, hq⟩ => ?_
  repeat (any_goals (first | assumption | wp_step))
  exact ⟨_, rfl, hq⟩
theorem callType_kw {T newId : String} {Bn : Builtin} {a : Value} {args : List Value} {kw : List (Str × Value)} {S : PySem.Spec} {Q : Value → Shared → Prop} (ft : TypeCalled T newId "object.__init__")
    (hne : (some newId != some "object.__new__") = true) (hct : checkTypeCall T ⟨a :: args, kw⟩ = pure ()) (hcn : checkBuiltinCall newId ⟨.type T :: a :: args, kw⟩ = pure ())
    (hok : ∀ obj, argsOk "object.__init__" ⟨obj :: a :: args, kw⟩) (entryN : entryFor table newId = some Bn) (g : Meets (Bn ⟨.type T :: a :: args, kw⟩) S)
    (h : S A.in1 (wants (fun obj s₁ => s₁.TypeIs obj T ∧ Q obj s₁) E) s) : wpAny (model prog w) A (call (.type T) (a :: args) kw) Q E s := by
  obtain ⟨c, tl, hmro⟩ := ft.mro
  have hmade := ft.made
  have hsub := ft.sub
  refine wpAny_call (codeAny_of_tree (show wpAny _ _ (callAny (.type T) _) _ _ _ from ?_))
  refine wpAny_pure ⟨Code.quiet_builtin _ (by decide +kernel), codeAny_builtin F.entry_type_call ?_⟩
  rw [Around.under_plain (weight_type_call_type T (a :: args) kw) (units_type_call_type T (a :: args) kw)]
  have h1 := ft.notType
  have h2 := ft.canCreate
  repeat (any_goals (first | assumption | wp_step))
  refine codeAny_mono (codeAny_call_builtin ft.plain entryN (wpAny_of_eq hcn (g prog w A.in1 _ s h))) fun r s₁ hr => ?_
  cases r with
  | error e => exact hr
  | ok fl =>
    cases fl with
    | ret obj =>
      have hT : s₁.TypeIs obj T := hr.1
      have gi := init_kw (self := obj) (a := a) (rest := args) (kw := kw) ft.init.lookup ft.made hne
      have hli := ft.init.lookup
      have hbi := ft.init.bind obj
      repeat (any_goals (first | assumption | wp_step))
      refine codeAny_mono (codeAny_call_builtin ft.init.plain F.entry_object_init (ft.init.check _ _ _ _ _ _ _ _ hT (hok obj) (gi prog w A.in1 (wants (fun r s₂ => r = .none ∧ Q obj s₂) E) s₁ ⟨hT, rfl, hr.2⟩))) fun r₂ s₂ hr₂ => ?_
      cases r₂ with
      | error e => exact hr₂
      | ok fl₂ =>
        cases fl₂ with
        | ret r =>
          obtain ⟨rfl, hq⟩ := hr₂
          repeat (any_goals (first | assumption | wp_step))
        | _ => exact hr₂.elim
    | _ => exact hr.elim
theorem with_kw {M : Model} {A : Around} {E : Value → Shared → Prop} {s : Shared} {pos : Pos} {T : String} {args : List (Bool × Sem Value)} {kws : List (Option Str × Sem Value)} {Q : Value → Shared → Prop}
    (hplain : args.any (·.1) = false) (hkw : kws.any (·.1.isNone) = false)
    (h : wpAny M A (evalArgs (.type T) true args kws) (fun a s₁ => wpAny M A (call (.type T) a.pos a.kw) Q E s₁) E s) : wpAny M A (callWith pos (.type T) [] args kws) Q E s := by
  unfold callWith
  refine wpAny_bind (wpAny_holding (wpAny_mono h (fun a s₁ h₁ => wpAny_bind (wpAny_standAt ?_)) fun _ _ x => x))
  simp only [hplain, hkw, Bool.or_false, Bool.or_self]
  exact wpAny_bind (wpAny_pure (wpAny_bind (wpAny_mono h₁ (fun r s₂ hr => wpAny_bind (wpAny_holding (wpAny_point (wpAny_pure hr)))) fun _ _ x => x)))
abbrev kwS (v : Value) : List (Str × Value) := [(Str.ofString "strict", v)]
theorem typeCall_S (a b : Value) : checkTypeCall "zip" ⟨[a, b], kwS (.bool true)⟩ = pure () := by kernel_rfl
theorem newCall_S (a b : Value) : checkBuiltinCall "zip.__new__" ⟨[.type "zip", a, b], kwS (.bool true)⟩ = pure () := by kernel_rfl
theorem init_S (a b c : Value) : argsOk "object.__init__" ⟨[a, b, c], kwS (.bool true)⟩ := by
  unfold argsOk; rw [signature?_of (id := "object.__init__") (n := ['_', '_', 't', 'i', 'n', 'i', '_', '_']) (o := ['t', 'c', 'e', 'j', 'b', 'o']) (by kernel_rfl) F.owner_object]; kernel_rfl
abbrev zS (h : Heap) (o1 o2 : Obj) : Heap := (gzO2 h o1 o2).push { cls := .type "zip", data := .fields #[.none, .bool false, .bool true, .ref ((h.push o1).push o2).objs.size, .ref (gzT2 h o1 o2).objs.size] }
theorem new_S {v1 v2 : Value} {o1 o2 : Obj} {H1 H2 : Heap → Prop} (B1 : Begins v1 o1 H1) (B2 : Begins v2 o2 H2) :
    Meets (Builtin.«zip.__new__» ⟨[.type "zip", v1, v2], kwS (.bool true)⟩) (fun _ R s => (H1 s.heap ∧ H2 s.heap) ∧ R (.ok (.ret (.ref (gzO2 s.heap o1 o2).objs.size))) { s with heap := zS s.heap o1 o2 }) :=
  .of_wp fun prog w A R s h => by
    obtain ⟨hp, g, d, tk, os⟩ := s; obtain ⟨⟨h1, h2⟩, h⟩ := h
    have hsub := sub_zip
    have q1 : ∀ {A' : Around} {E : Value → Shared → Prop} {Q : Value → Shared → Prop}, Q (.ref hp.objs.size) ⟨(hp.push o1), g, d, tk, os⟩ → wpAny (model prog w) A' (pyIter v1) Q E ⟨hp, g, d, tk, os⟩ := fun q => B1.iter prog w _ _ ⟨hp, g, d, tk, os⟩ _ (B1.keeps _ _ h1 fun b o' e => e) q
    have q2 : ∀ {A' : Around} {E : Value → Shared → Prop} {Q : Value → Shared → Prop}, Q (.ref (hp.push o1).objs.size) ⟨((hp.push o1).push o2), g, d, tk, os⟩ → wpAny (model prog w) A' (pyIter v2) Q E ⟨(hp.push o1), g, d, tk, os⟩ := fun q => B2.iter prog w _ _ ⟨(hp.push o1), g, d, tk, os⟩ _ (B2.keeps _ _ h2 fun b o' e => (Heap.get?_push_of_some _ e)) q
    wp_walk using q1, q2
    exact ⟨_, rfl, h⟩
end
end Mi

set_option Elab.async false
set_option linter.all false
set_option maxRecDepth 100000
set_option maxHeartbeats 4000000
namespace Mi
open PySem PySem.Spec PyProof.Rows L2
open PySem (IsTupOf2)
section
variable {prog : Program} {w : World} {A : Around} {E : Value → Shared → Prop} {s : Shared}
theorem begins_S {v1 v2 : Value} {o1 o2 : Obj} {H1 H2 : Heap → Prop} {Q : Value → Shared → Prop} (B1 : Begins v1 o1 H1) (B2 : Begins v2 o2 H2) (h1 : H1 s.heap) (h2 : H2 s.heap)
    (h : ∀ h', ZipS h' (s.heap.objs.size + 4) (s.heap.objs.size + 2) (s.heap.objs.size + 3) .none → IsTupOf2 h' (s.heap.objs.size + 2) (.ref s.heap.objs.size) (.ref (s.heap.objs.size + 1)) →
      IsTupOf2 h' (s.heap.objs.size + 3) .none .none → h'.get? s.heap.objs.size = some o1 → h'.get? (s.heap.objs.size + 1) = some o2 → h'.objs.size = s.heap.objs.size + 5 → (∀ c o, s.heap.get? c = some o → h'.get? c = some o) → Q (.ref (s.heap.objs.size + 4)) { s with heap := h' }) :
    wpAny (model prog w) A (call (.type "zip") [v1, v2] (kwS (.bool true))) Q E s := by
  refine callType_kw F.called_zip (by decide) (typeCall_S _ _) (newCall_S _ _) (fun obj => init_S obj _ _) F.entry_zip_new (new_S B1 B2) ⟨⟨h1, h2⟩, ?_⟩
  have z1 : (s.heap.push o1).objs.size = s.heap.objs.size + 1 := by rw [Heap.size_push]
  have z2 : ((s.heap.push o1).push o2).objs.size = s.heap.objs.size + 2 := by rw [Heap.size_push, z1]
  have zT : (gzT2 s.heap o1 o2).objs.size = s.heap.objs.size + 3 := by rw [Heap.size_push, z2]
  have zO : (gzO2 s.heap o1 o2).objs.size = s.heap.objs.size + 4 := by rw [Heap.size_push, zT]
  have zZ : (zS s.heap o1 o2).objs.size = s.heap.objs.size + 5 := by rw [Heap.size_push, zO]
  have up1 : ∀ {c o}, (gzO2 s.heap o1 o2).get? c = some o → (zS s.heap o1 o2).get? c = some o := fun e => Heap.get?_push_of_some _ e
  have up2 : ∀ {c o}, (gzT2 s.heap o1 o2).get? c = some o → (zS s.heap o1 o2).get? c = some o := fun e => up1 (Heap.get?_push_of_some _ e)
  have up3 : ∀ {c o}, ((s.heap.push o1).push o2).get? c = some o → (zS s.heap o1 o2).get? c = some o := fun e => up2 (Heap.get?_push_of_some _ e)
  have gZ : (zS s.heap o1 o2).get? (gzO2 s.heap o1 o2).objs.size = some { cls := .type "zip", data := .fields #[.none, .bool false, .bool true, .ref ((s.heap.push o1).push o2).objs.size, .ref (gzT2 s.heap o1 o2).objs.size] } := Heap.get?_push_size _ rfl
  have gO : (zS s.heap o1 o2).get? (gzT2 s.heap o1 o2).objs.size = some { cls := .type "tuple", data := .seq #[.none, .none] } := up1 (Heap.get?_push_size _ rfl)
  have gT : (zS s.heap o1 o2).get? ((s.heap.push o1).push o2).objs.size = some { cls := .type "tuple", data := .seq #[.ref s.heap.objs.size, .ref (s.heap.push o1).objs.size] } := up2 (Heap.get?_push_size _ rfl)
  have g1 : (zS s.heap o1 o2).get? s.heap.objs.size = some o1 := up3 (Heap.get?_push_of_some _ (Heap.get?_push_size _ B1.free))
  have g2 : (zS s.heap o1 o2).get? (s.heap.push o1).objs.size = some o2 := up3 (Heap.get?_push_size _ B2.free)
  rw [zO, zT, z2] at gZ
  rw [zT] at gO
  rw [z2, z1] at gT
  rw [z1] at g2
  show _ ∧ _
  rw [zO]
  exact ⟨⟨_, gZ, rfl⟩, h _ gZ gT gO g1 g2 zZ fun c o e => up3 (Heap.get?_push_of_some _ (Heap.get?_push_of_some _ e))⟩
end
def iZipS (K : PySem.W.Frag) (ta : TA) : TI := fun σ H R => ta σ H fun vs H1 => ∃ k1 k2 a b xs ys, vs = [.ref a, .ref b] ∧ Sq.sq k1 K H1 a xs ∧ Sq.sq k2 K H1 b ys ∧ R (ItZS k1 k2 K a b xs.length) H1
theorem pi_zipS {X : Cx} {e e2 : Expr} {ta : TA} {p pos tpos kp kq : Pos} {kn : Nat} {elts : List Expr} {kk : Nat} (hg : Gl X "zip") (hm : X.mg "zip" = none) (ha : PA X [e, e2] ta)
    (hs : starEach [e, e2] X.env = (false, eval e X.env) :: starEach [e2] X.env) (hpl : (backTo pos (starEach [e, e2] X.env)).any (·.1) = false) :
    PI X (.Tuple elts kk tpos) (.Call (.Name "zip" p) [e, e2] [⟨some (Str.ofString "strict"), .Constant (.bool true) kn kq, kp⟩] pos) (iZipS X.K ta) := by
  refine ⟨fun pins s σ H R I h => ?_⟩
  refine wpAny_Call_Name_kw (ld_blt I hg hm PyProof.Rows.boot_zip (with_kw hpl rfl (evalArgs_kw2 rfl (thn (ha.run pos pins s σ H _ I h) fun us s1 ⟨vs, H1, I1, r1, q1⟩ => ?_) hs)))
  have hk := (pk_cons (nm := some (Str.ofString "strict")) (kpos := kp) (pe_bl (X := X) (b := true) (j := kn) (pos := kq)) pk_nil).run pos pins s1 σ H1 (fun zs H2 => zs = [.bl true] ∧ H2 = H1) I1 ⟨rfl, rfl⟩
  refine thn hk fun ws s2 ⟨zs, H2, I2, r2, q2⟩ => ?_
  obtain ⟨rfl, rfl⟩ := q2
  obtain ⟨k1, k2, a, b, xs, ys, ex, hq1, hq2, q⟩ := q1
  subst ex
  obtain ⟨u1, u2, rfl, ru, ru2⟩ := vals2 r1
  cases ru
  cases ru2
  cases r2 with
  | cons rb rr =>
    cases rr
    cases rb
    obtain ⟨its, rv, p1, _, _⟩ := sq_get k1 I2 hq1
    obtain ⟨its2, rv2, p2, _, _⟩ := sq_get k2 I2 hq2
    show wpAny _ _ (call (.type "zip") [.ref a, .ref b] (kwS (.bool true))) _ _ _
    refine begins_S (k1.begins a its.toArray) (k2.begins b its2.toArray) p1 p2 fun h' hz hTI hTO h1 h2 hsz hk => iterS hz ?_
    have I3 : Inv X pins σ H2 { s2 with heap := h' } := I2.kept (t' := s2.toks) hk
    refine ⟨s2.heap.objs.size + 4, [s2.heap.objs.size + 4, s2.heap.objs.size + 2, s2.heap.objs.size + 3, s2.heap.objs.size, s2.heap.objs.size + 1], _, _, H2, rfl, I3, turn_zipS k1 k2 (zne _) _, ⟨hz, hTI, ⟨_, _, hTO⟩, k1.start h1, k2.start h2⟩, fun c hcm => ?_, q⟩
    have hle : s2.heap.objs.size ≤ c := by
      have e' : c = s2.heap.objs.size + 4 ∨ c = s2.heap.objs.size + 2 ∨ c = s2.heap.objs.size + 3 ∨ c = s2.heap.objs.size ∨ c = s2.heap.objs.size + 1 := by simpa using hcm
      rcases e' with z | z | z | z | z
      · rw [z]; exact Nat.le_add_right _ _
      · rw [z]; exact Nat.le_add_right _ _
      · rw [z]; exact Nat.le_add_right _ _
      · rw [z]; exact Nat.le_refl _
      · rw [z]; exact Nat.le_add_right _ _
    exact I2.fpOk hle (I2.hok.fresh hle)
section
variable {X : Cx} {c : Ctl} {a b : Expr} {pos : Pos} {cl1 : Bool}
theorem walk_zipS {k1 k2 : Sq} {K : PySem.W.Frag} {a b : Addr} {xs ys : List V} {n : Nat} (h1 : n = xs.length) (h2 : n = ys.length) : Walk (ItZS k1 k2 K a b n) n (fun H => k1.sq K H a xs ∧ k2.sq K H b ys) (YPair (fun i => xs[i]?) (fun i => ys[i]?)) := by
  refine ⟨fun i _ hi q => ?_, fun _ q => ⟨xs, ys, q.1, q.2, h1.symm, h2.symm⟩, fun i H v H' _ q y => ?_⟩
  · have e1 : i < xs.length := by omega
    have e2 : i < ys.length := by omega
    exact ⟨xs, ys, xs[i], ys[i], q.1, q.2, by simp [e1], by simp [e2]⟩
  · obtain ⟨T, x, z, h1, h2, h3, h4, h5⟩ := y
    exact ⟨T, x, z, h1, h2, h3, h4 xs q.1, h5 ys q.2⟩
theorem iterOk_zipS {k1 k2 : Sq} {G0 F0 : Hp} {a b : Addr} {vs ws : List V} {ds es : List D} (r : RpAll c.K G0 vs ds) (r2 : RpAll c.K G0 ws es) (hl : ds.length = es.length) (hg : ∀ H', Same F0 H' → Sq.sq k1 X.K H' a vs) (hg2 : ∀ H', Same F0 H' → Sq.sq k2 X.K H' b ws) :
    IterOk c true G0 F0 (ItZS k1 k2 X.K a b vs.length) (pairs ds es) := by
  have e0 : vs.length = (pairs ds es).length := by simp [pairs, r.length, ← hl]
  refine ⟨fun H => k1.sq X.K H a vs ∧ k2.sq X.K H b ws, YPair (fun i => vs[i]?) (fun i => ws[i]?), by rw [← e0]; exact walk_zipS (xs := vs) (ys := ws) rfl (by rw [r.length, hl, r2.length]), fun H' e => ⟨hg H' e, hg2 H' e⟩, fun i H x H' d hd y G F ok hG hF => ?_⟩
  obtain ⟨T, u, v, rfl, hT, rfl, e1, e2⟩ := y
  simp only [pairs, List.getElem?_map, Option.map_eq_some_iff] at hd
  obtain ⟨⟨d1, d2⟩, h1, rfl⟩ := hd
  rw [List.getElem?_zip_eq_some] at h1
  obtain ⟨v1, h2, h3⟩ := r.at h1.1
  obtain ⟨v2, h4, h5⟩ := r2.at h1.2
  have e1 : vs[i]? = some u := e1
  have e2 : ws[i]? = some v := e2
  rw [h2] at e1
  rw [h4] at e2
  cases e1
  cases e2
  have q := pair_new ok hT (h3.mono hG) (h5.mono hG)
  exact ⟨_, _, q.1, q.2⟩
def zipSW : List D → W (List D)
  | [d, e], P => itemsW d fun ds => itemsW e fun es => ds.length = es.length ∧ P (pairs ds es)
  | _, _ => False
theorem ji_zipS (hK : c.K = X.K) {elts : List Expr} {kk kn : Nat} {tpos p kp kq : Pos} {fs : Env → W (List D)} (hg : Gl X "zip") (hm : X.mg "zip" = none) (ha : PA X [a, b] (tAs c cl1 fs))
    (hs : starEach [a, b] X.env = (false, eval a X.env) :: starEach [b] X.env) (hpl : (backTo pos (starEach [a, b] X.env)).any (·.1) = false) :
    PI X (.Tuple elts kk tpos) (.Call (.Name "zip" p) [a, b] [⟨some (Str.ofString "strict"), .Constant (.bool true) kn kq, kp⟩] pos) (tI c cl1 true fun env P => fs env fun ds => zipSW ds P) := by
  refine (pi_zipS hg hm ha hs hpl).of fun σ H R ⟨env, G, F, P, Rl, hw, hq⟩ => ?_
  refine ⟨env, G, F, _, Rl, hw, fun ds vs G1 F1 H1 hd st ru hc sz => ?_⟩
  match ds, hd with
  | [d, e], hd =>
    obtain ⟨x, y, rfl, h0, h0'⟩ := ru.two
    obtain ⟨k, a, vs, ds, rfl, h1, r1, hp, g1, g2⟩ := sq_of hK st.ok h0 hd
    obtain ⟨k2, b, ws, es, rfl, h1', r1', hp, g1', g2'⟩ := sq_of hK st.ok h0' hp
    refine ⟨k, k2, a, b, vs, ws, rfl, h1, h1', hq _ G1 F1 H1 _ hp.2 st (iterOk_zipS r1 r1' hp.1 g1 g1') (fun z => iterOk_zipS r1 r1' hp.1 (g2 (hc z).two.1) (g2' (hc z).two.2)) ?_⟩
    have := sz_sq hK sz h1
    simp only [pairs, List.length_map, List.length_zip, ← r1.length]
    omega
/-! ### a tuple beside () -/
def eq0W : D → D → W Bool
  | .tuple xs, .tuple [], P => P xs.isEmpty
  | _, _, _ => False
theorem op_eq0 (hK : c.K = X.K) (hu : X.A.units + 1 < cLine) : OpR X (compareOp .Eq) (rW c fun d e => valB (eq0W d e)) := by
  intro pins s σ H x y v u Q I rx ry ⟨G, F, d, e, P, ok, sz, hx, hy, hw, hq⟩
  have hw : eq0W d e fun b => P (.bool b) := hw
  match d, e, hw with
  | .tuple xs, .tuple [], hw =>
    obtain ⟨a, vs, rfl, h1, r1⟩ := hx.tuple
    obtain ⟨b, ws, rfl, h2, r2⟩ := hy.tuple
    cases r2
    rw [hK] at h1 h2
    cases rx
    cases ry
    obtain ⟨its, rv, p, _⟩ := I.tuple (sqT_mono (ok.gf.trans ok.fh) h1)
    obtain ⟨its2, rv2, p2, _⟩ := I.tuple (sqT_mono (ok.gf.trans ok.fh) h2)
    have l1 := rv.length
    have l2 := rv2.length
    have l3 := r1.length
    refine PySem.W.eq_tuplesT (n := 0) (e := fun _ => true) p p2 (fun j h1 h2 => ?_) hu ?_
    · simp at h2
      simp at l2
      omega
    · have e : ((List.range (min its.toArray.size its2.toArray.size)).all (fun _ => true) && its.toArray.size == its2.toArray.size) = xs.isEmpty := by
        have : its2.length = 0 := by simpa using l2.symm
        rw [List.size_toArray, List.size_toArray, this, ← l1, l3]
        cases xs <;> simp
      rw [e]
      exact ⟨.bl _, H, I, rfl, hq _ _ _ _ _ hw (.refl ok) (.bl _)⟩
theorem je_dct0 : PE X (.Dict [] [] pos) (tD0 c true fun _ P => P (.dict [])) := by
  refine pe_dnewK.of fun σ H Q ⟨env, G, F, P, R, hp, hq⟩ => fun p hfree => ?_
  have st := Stp.new R.ok hfree (.dK [])
  have rp : Rp c.K (upd G p (.dK [])) (.ref p) (.dict []) := .dct upd_same .nil
  exact hq _ _ _ _ _ hp st (.rp rp) fun _ => rp
end
end Mi

set_option Elab.async false
set_option linter.all false
set_option maxRecDepth 100000
set_option maxHeartbeats 4000000
namespace Mi
open PySem PySem.Spec PyProof.Rows L2

/-! ### a small syntax of what is covered -/
inductive Bop | add | sub | mul | div | mod | pow | shl | shr | band
inductive Cop | eq | ne | lt | le | gt | ge | is | isn | inn | nin | eq0
inductive Bl | len | int | tuple | list | sum | all | abs | max2 | min2 | maxL | minL | repr | sorted
def Bop.ok : Bop → Operator → Bool
  | .add, .Add => true | .sub, .Sub => true | .mul, .Mult => true | .div, .FloorDiv => true | .mod, .Mod => true
  | .pow, .Pow => true | .shl, .LShift => true | .shr, .RShift => true | .band, .BitAnd => true | _, _ => false
def Cop.ok : Cop → CmpOp → Bool
  | .eq, .Eq => true | .ne, .NotEq => true | .lt, .Lt => true | .le, .LtE => true | .gt, .Gt => true | .ge, .GtE => true
  | .is, .Is => true | .isn, .IsNot => true | .inn, .In => true | .nin, .NotIn => true | .eq0, .Eq => true | _, _ => false
def Bop.w : Bop → D → D → W D
  | .add => addW | .sub => subW | .mul => mulW | .div => divW | .mod => modW | .pow => powW | .shl => shlW | .shr => shrW | .band => andW
def Cop.w : Cop → D → D → W Bool
  | .eq => eqW | .ne => fun d e => notB (eqW d e) | .lt => ltW | .le => leW | .gt => gtW | .ge => geW
  | .is => fun d e P => e = .none ∧ P (isNone d) | .isn => fun d e P => e = .none ∧ P (!isNone d) | .inn => inW | .nin => fun d e => notB (inW d e) | .eq0 => eq0W
def Bl.w : Bl → List D → W D
  | .len => lenW | .int => intW | .tuple => tupleW | .list => listW | .sum => sumW | .all => allW | .abs => absW | .max2 => max2W | .min2 => min2W | .maxL => maxLW | .minL => minLW | .repr => reprW | .sorted => sortW false
def Bl.name : Bl → String
  | .len => "len" | .int => "int" | .tuple => "tuple" | .list => "list" | .sum => "sum" | .all => "all" | .abs => "abs" | .max2 => "max" | .min2 => "min" | .maxL => "max" | .minL => "min" | .repr => "repr" | .sorted => "sorted"
abbrev Fm := List Slot → W D
mutual
inductive ME
  | var (i : Nat) | lent (i : Nat)
  | non | bl (b : Bool) | int (i : Int) | str (x : Str)
  | bin (op : Bop) (a b : ME) | cmp (op : Cop) (a b : ME) | chain (op op' : Cop) (a b e : ME)
  | one (a : ME) | and (a b : ME) | or (a b : ME) | not (a : ME) | neg (a : ME) | ite (t : MT) (a b : ME)
  | tup (as : MA) | lst (as : MA) | listOf (a : ME) | rep (a b : ME)
  | idx (a b : ME) | slice (a : ME) (lo hi : MO) | rev (a : ME)
  | call (x : Str) (n : Nat) (φ : Fm) (as : MC) | blt (f : Bl) (as : MA) | isi (T : Ty) (a : ME) | sortR (as : MA)
  | listR1 (a : ME) | listR2 (a b : ME) | tupR1 (a : ME) | tupR2 (a b : ME) | index (a b : ME)
  | comp (own : List (Str × Nat)) (g : MG) (i : MI) (t : MT) (e : ME)
  | srcE (i : Nat) (k : SK) | dct0
inductive MT
  | cmp (op : Cop) (a b : ME) | chain (op op' : Cop) (a b e : ME) | truth (a : ME) | not (t : MT) | bool (w : MW)
  /-- no test -/
  | yes
inductive MW
  | and1 (t : MT) | or1 (t : MT) | and (t : MT) (w : MW) | or (t : MT) (w : MW)
inductive MA
  | nil | cons (e : ME) (as : MA) | star (e : ME) (as : MA)
inductive MC
  | nil | cons (e : ME) (as : MC) | lent (e : ME) (as : MC) | src (i : Nat) (as : MC)
inductive MG
  | name (i : Nat) | seq (gs : MGs)
inductive MGs
  | nil | cons (g : MG) (gs : MGs)
inductive MI
  | seq (e : ME) | range1 (as : MA) | range2 (as : MA) | enum (as : MA) | zip (as : MA) | zipS (as : MA)
inductive MO
  | none | some (e : ME)
end
/-! what it is worth -/
mutual
def clE : ME → Bool
  | .lent _ => false
  | .ite _ a b => clE a && clE b
  | _ => true
end
def clA : MA → Bool
  | .nil => true
  | .cons e as => clE e && clA as
  | .star _ as => clA as
def clI : MI → Bool
  | .seq e => clE e
  | .range1 _ => true
  | .range2 _ => true
  | .enum as => clA as
  | .zip as => clA as
  | .zipS as => clA as
def wkI : MI → Bool
  | .enum _ => true
  | .zip _ => true
  | .zipS _ => true
  | _ => false
def slG : MG → List Nat
  | .name i => [i]
  | .seq gs => slGs gs
where slGs : MGs → List Nat
  | .nil => []
  | .cons g gs => slG g ++ slGs gs
def lenGs : MGs → Nat
  | .nil => 0
  | .cons _ gs => lenGs gs + 1
mutual
def denE : ME → Env → W D
  | .var i => fun env P => ∃ d, env[i]? = some (.v d) ∧ P d
  | .lent i => fun env P => ∃ ds, (env[i]? = some (.own ds) ∨ env[i]? = some (.bor ds)) ∧ P (.list ds)
  | .non => fun _ P => P .none
  | .bl b => fun _ P => P (.bool b)
  | .int i => fun _ P => P (.int i)
  | .str x => fun _ P => P (.str x)
  | .bin op a b => fun env P => denE a env fun d => denE b env fun e => op.w d e P
  | .cmp op a b => fun env P => denE a env fun d => denE b env fun e => valB (op.w d e) P
  | .chain op op' a b e => fun env => valB (chainW op.w op'.w (denE a env) (denE b env) (denE e env))
  | .one a => denE a
  | .and a b => fun env => andV (denE a env) (denE b env)
  | .or a b => fun env => orV (denE a env) (denE b env)
  | .not a => fun env => notV (denE a env)
  | .neg a => fun env P => denE a env fun d => negW d P
  | .ite t a b => fun env => iteW (denT t env) (denE a env) (denE b env)
  | .tup as => fun env P => denA as env fun ds => ds.length ≤ 16777216 ∧ P (.tuple ds)
  | .lst as => fun env P => denA as env fun ds => ds.length ≤ 16777216 ∧ P (.list ds)
  | .listOf a => fun env P => denE a env fun d => itemsW d fun ds => P (.list ds)
  | .rep a b => fun env P => denE a env fun d => (match d with | .list _ => True | _ => False) ∧ denE b env fun e => match d with | .list ds => repW ds e fun ds => P (.list ds) | _ => False
  | .idx a b => fun env P => denE a env fun d => denE b env fun e => idxW d e P
  | .slice a lo hi => fun env P => denE a env fun d => denO lo env fun i => denO hi env fun j => sliceW d i j P
  | .rev a => fun env P => denE a env fun d => revW d P
  | .call _ n φ as => fun env P => denC as env fun ss => ss.length = n ∧ φ ss P
  | .blt f as => fun env P => denA as env fun ds => f.w ds P
  | .isi T a => fun env P => denE a env fun d => P (.bool (isD T d))
  | .sortR as => fun env P => denA as env fun ds => sortW true ds P
  | .listR1 a => fun env P => denE a env fun d => range1W [d] fun ds => P (.list ds)
  | .listR2 a b => fun env P => denE a env fun d => denE b env fun e => range2W [d, e] fun ds => P (.list ds)
  | .tupR1 a => fun env P => denE a env fun d => range1W [d] fun ds => P (.tuple ds)
  | .tupR2 a b => fun env P => denE a env fun d => denE b env fun e => range2W [d, e] fun ds => P (.tuple ds)
  | .index a b => fun env P => denE a env fun d => (match d with | .list _ => True | .tuple _ => True | _ => False) ∧ denE b env fun e => indexW d e P
  | .comp own g i t e => fun env P => compF (denI i) (denG g) (denT t) (denE e) (own.map (·.2)) env fun ds => P (.list ds)
  | .srcE i _ => srcW i
  | .dct0 => fun _ P => P (.dict [])
def denT : MT → Env → W Bool
  | .cmp op a b => fun env P => denE a env fun d => denE b env fun e => op.w d e P
  | .chain op op' a b e => fun env => chainW op.w op'.w (denE a env) (denE b env) (denE e env)
  | .truth a => fun env P => denE a env fun d => truthW d P
  | .not t => fun env => notB (denT t env)
  | .bool w => denW w
  | .yes => fun _ P => P true
def denW : MW → Env → W Bool
  | .and1 t => denT t
  | .or1 t => denT t
  | .and t w => fun env => andT (denT t env) (denW w env)
  | .or t w => fun env => orT (denT t env) (denW w env)
def denA : MA → Env → W (List D)
  | .nil => fun _ P => P []
  | .cons e as => fun env P => denE e env fun d => denA as env fun ds => P (d :: ds)
  | .star e as => fun env P => denE e env fun d => itemsW d fun xs => denA as env fun ds => P (xs ++ ds)
def denC : MC → Env → W (List Slot)
  | .nil => fun _ P => P []
  | .cons e as => fun env P => denE e env fun d => denC as env fun ds => P (.v d :: ds)
  | .lent e as => fun env P => denE e env fun d => match d with
      | .list xs => denC as env fun ds => P (.bor xs :: ds)
      | _ => False
  | .src i as => fun env P => env[i]? = some .src ∧ denC as env fun ds => P (.src :: ds)
def denG : MG → D → Env → W Env
  | .name i => setW i
  | .seq gs => gSeqW (lenGs gs) (denGs gs)
def denGs : MGs → List D → Env → W Env
  | .nil => gNilW
  | .cons g gs => gConsW (denG g) (denGs gs)
def denI : MI → Env → W (List D)
  | .seq e => fun env P => denE e env fun d => itemsW d P
  | .range1 as => fun env P => denA as env fun ds => range1W ds P
  | .range2 as => fun env P => denA as env fun ds => range2W ds P
  | .enum as => fun env P => denA as env fun ds => enumW ds P
  | .zip as => fun env P => denA as env fun ds => zipW ds P
  | .zipS as => fun env P => denA as env fun ds => zipSW ds P
def denO : MO → Env → W (Option Int)
  | .none => fun _ P => P .none
  | .some e => fun env P => denE e env fun d => intO d P
end
/-! whether it is a given text's -/
def okN (x : Str) : Bool := !(x == ("__debug__" : Str)) && !(x == ("__classdict__" : Str))
def visB (sc : Scope) (x : Str) : Bool := match sc.names.lookup x with
  | some .local => true
  | some .cell => true
  | some .free => true
  | _ => false
def locB (sc loc : Scope) (x : Str) : Bool := match sc.names.lookup x with
  | some .local => true
  | some .cell => (match loc.names.lookup x with | some .cell => true | _ => false)
  | _ => false
def glB (sc : Scope) (x : Str) : Bool := match sc.names.lookup x with
  | some .globalImplicit => true
  | _ => false
def nameB (sc : Scope) (N : List Str) (i : Nat) (x : Str) : Bool := decide (N[i]? = some x) && visB sc x && okN x
def isYes : MT → Bool
  | .yes => true
  | _ => false
def notCall : Expr → Bool
  | .Call .. => false
  | _ => true
def isTupE : Expr → Bool
  | .Tuple .. => true
  | _ => false
mutual
def chkE : Scope → Scope → List Str → ME → Expr → Bool
  | sc, loc, N, .var i, e => (match e with | .Name x _ => nameB sc N i x | _ => false)
  | sc, loc, N, .lent i, e => (match e with | .Name x _ => nameB sc N i x | _ => false)
  | sc, loc, N, .non, e => (match e with | .Constant .none _ _ => true | _ => false)
  | sc, loc, N, .bl b, e => (match e with | .Constant (.bool b') _ _ => b == b' | _ => false)
  | sc, loc, N, .int i, e => (match e with | .Constant (.int j) _ _ => i == j | _ => false)
  | sc, loc, N, .str x, e => (match e with | .Constant (.str y) _ _ => x == y | _ => false)
  | sc, loc, N, .bin op a b, e => (match e with | .BinOp a' op' b' _ => op.ok op' && chkE sc loc N a a' && chkE sc loc N b b' | _ => false)
  | sc, loc, N, .cmp op a b, e => (match e with | .Compare a' [op'] [b'] _ => op.ok op' && chkE sc loc N a a' && chkE sc loc N b b' && !behindInMarks op' b' | _ => false)
  | sc, loc, N, .chain o1 o2 a b k, e => (match e with | .Compare a' [o1', o2'] [b', k'] _ => o1.ok o1' && o2.ok o2' && chkE sc loc N a a' && chkE sc loc N b b' && chkE sc loc N k k' && !lastMarks [o1', o2'] [b', k'] | _ => false)
  | sc, loc, N, .one a, e => (match e with | .BoolOp _ [a'] _ => chkE sc loc N a a' && clE a | _ => false)
  | sc, loc, N, .and a b, e => (match e with | .BoolOp .And (a' :: b' :: r) p => chkE sc loc N a a' && chkE sc loc N b (.BoolOp .And (b' :: r) p) && clE b | _ => false)
  | sc, loc, N, .or a b, e => (match e with | .BoolOp .Or (a' :: b' :: r) p => chkE sc loc N a a' && chkE sc loc N b (.BoolOp .Or (b' :: r) p) && clE b | _ => false)
  | sc, loc, N, .not a, e => (match e with | .UnaryOp .Not a' _ => chkE sc loc N a a' | _ => false)
  | sc, loc, N, .neg a, e => (match e with | .UnaryOp .USub a' _ => chkE sc loc N a a' | _ => false)
  | sc, loc, N, .ite t a b, e => (match e with | .IfExp t' a' b' _ => chkT sc loc N t t' && chkE sc loc N a a' && chkE sc loc N b b' | _ => false)
  | sc, loc, N, .tup as, e => (match e with | .Tuple es _ _ => chkA sc loc N as es && clA as | _ => false)
  | sc, loc, N, .lst as, e => (match e with | .List es _ => chkA sc loc N as es && clA as | _ => false)
  | sc, loc, N, .listOf a, e => (match e with | .Call (.Name x _) [a'] [] _ => decide (x = Str.ofString "list") && glB sc x && chkE sc loc N a a' && notStar a' | _ => false)
  | sc, loc, N, .rep a b, e => (match e with | .BinOp a' .Mult b' _ => chkE sc loc N a a' && chkE sc loc N b b' | _ => false)
  | sc, loc, N, .idx a b, e => (match e with | .Subscript a' b' _ => chkE sc loc N a a' && chkE sc loc N b b' && plainIx b' | _ => false)
  | sc, loc, N, .slice a lo hi, e => (match e with | .Subscript a' (.Slice lo' hi' none _) _ => chkE sc loc N a a' && chkO sc loc N lo lo' && chkO sc loc N hi hi' | _ => false)
  | sc, loc, N, .rev a, e => (match e with | .Subscript a' (.Slice none none (some (.UnaryOp .USub (.Constant (.int j) _ _) _)) _) _ => j == 1 && chkE sc loc N a a' | _ => false)
  | sc, loc, N, .call x n φ as, e => (match e with | .Call (.Name y _) (a' :: as') [] _ => decide (x = y) && glB sc y && okN y && chkC sc loc N as (a' :: as') && notStar a' && as'.all notStar | _ => false)
  | sc, loc, N, .blt f as, e => (match e with | .Call (.Name y _) (a' :: as') [] _ => decide (y = Str.ofString f.name) && glB sc y && chkA sc loc N as (a' :: as') && notStar a' && as'.all notStar | _ => false)
  | sc, loc, N, .isi T a, e => (match e with | .Call (.Name y _) [a', .Name z _] [] _ => decide (y = Str.ofString "isinstance") && decide (z = Str.ofString T.name) && glB sc y && glB sc z && chkE sc loc N a a' && notStar a' | _ => false)
  | sc, loc, N, .sortR as, e => (match e with | .Call (.Name y _) [a'] [⟨some k, .Constant (.bool true) _ _, _⟩] _ => decide (y = Str.ofString "sorted") && decide (k = Str.ofString "reverse") && glB sc y && chkA sc loc N as [a'] && notStar a' | _ => false)
  | sc, loc, N, .listR1 a, e => (match e with | .Call (.Name y _) [.Call (.Name z _) [a'] [] _] [] _ => decide (y = Str.ofString "list") && decide (z = Str.ofString "range") && glB sc y && glB sc z && chkE sc loc N a a' && notStar a' | _ => false)
  | sc, loc, N, .listR2 a b, e => (match e with | .Call (.Name y _) [.Call (.Name z _) [a', b'] [] _] [] _ => decide (y = Str.ofString "list") && decide (z = Str.ofString "range") && glB sc y && glB sc z && chkE sc loc N a a' && notStar a' && chkE sc loc N b b' && notStar b' | _ => false)
  | sc, loc, N, .tupR1 a, e => (match e with | .Call (.Name y _) [.Call (.Name z _) [a'] [] _] [] _ => decide (y = Str.ofString "tuple") && decide (z = Str.ofString "range") && glB sc y && glB sc z && chkE sc loc N a a' && notStar a' | _ => false)
  | sc, loc, N, .tupR2 a b, e => (match e with | .Call (.Name y _) [.Call (.Name z _) [a', b'] [] _] [] _ => decide (y = Str.ofString "tuple") && decide (z = Str.ofString "range") && glB sc y && glB sc z && chkE sc loc N a a' && notStar a' && chkE sc loc N b b' && notStar b' | _ => false)
  | sc, loc, N, .index a b, e => (match e with | .Call (.Attribute a' y ap) [b'] [] p => decide (y = Str.ofString "index") && notCall a' && (ap.endLine == p.line) && chkE sc loc N a a' && chkE sc loc N b b' && notStar b' | _ => false)
  | sc, loc, N, .comp own g i t k, e => (match e with | .ListComp k' [⟨tg, iter, ifs, z⟩] scope _ => z == 0 && chkI sc loc N i tg iter && notSet iter && blkC N sc scope own && (slG g).all (fun j => decide (j ∈ own.map (·.2))) && chkG (relS scope sc) scope N (wkI i) g tg &&
      (match ifs with | [] => isYes t | [t'] => chkT (relS scope sc) scope N t t' | _ => false) && chkE (relS scope sc) scope N k k' && clE k | _ => false)
  | sc, loc, N, .srcE i q, e => (match e with | .Subscript (.Name x _) (.Constant (.str k) _ _) _ => nameB sc N i x && decide (k = Str.ofString q.s) | _ => false)
  | sc, loc, N, .dct0, e => (match e with | .Dict [] [] _ => true | _ => false)
def chkT : Scope → Scope → List Str → MT → Expr → Bool
  | sc, loc, N, .cmp op a b, e => (match e with | .Compare a' [op'] [b'] _ => op.ok op' && chkE sc loc N a a' && chkE sc loc N b b' && !behindInMarks op' b' | _ => false)
  | sc, loc, N, .chain o1 o2 a b k, e => (match e with | .Compare a' [o1', o2'] [b', k'] _ => o1.ok o1' && o2.ok o2' && chkE sc loc N a a' && chkE sc loc N b b' && chkE sc loc N k k' && !lastMarks [o1', o2'] [b', k'] | _ => false)
  | sc, loc, N, .truth a, e => plainTest e && chkE sc loc N a e
  | sc, loc, N, .not t, e => (match e with | .UnaryOp .Not t' _ => chkT sc loc N t t' | _ => false)
  | sc, loc, N, .bool w, e => chkW sc loc N w e
  | sc, loc, N, .yes, e => false
def chkW : Scope → Scope → List Str → MW → Expr → Bool
  | sc, loc, N, .and1 t, e => (match e with | .BoolOp .And [a'] _ => chkT sc loc N t a' | _ => false)
  | sc, loc, N, .or1 t, e => (match e with | .BoolOp .Or [a'] _ => chkT sc loc N t a' | _ => false)
  | sc, loc, N, .and t w, e => (match e with | .BoolOp .And (a' :: b' :: r) p => chkT sc loc N t a' && chkW sc loc N w (.BoolOp .And (b' :: r) p) | _ => false)
  | sc, loc, N, .or t w, e => (match e with | .BoolOp .Or (a' :: b' :: r) p => chkT sc loc N t a' && chkW sc loc N w (.BoolOp .Or (b' :: r) p) | _ => false)
def chkA : Scope → Scope → List Str → MA → List Expr → Bool
  | sc, loc, N, .nil, es => (match es with | [] => true | _ => false)
  | sc, loc, N, .cons a as, es => (match es with | e :: es' => notStar e && chkE sc loc N a e && chkA sc loc N as es' | _ => false)
  | sc, loc, N, .star a as, es => (match es with | .Starred e _ :: es' => chkE sc loc N a e && chkA sc loc N as es' | _ => false)
def chkC : Scope → Scope → List Str → MC → List Expr → Bool
  | sc, loc, N, .nil, es => (match es with | [] => true | _ => false)
  | sc, loc, N, .cons a as, es => (match es with | e :: es' => notStar e && chkE sc loc N a e && clE a && chkC sc loc N as es' | _ => false)
  | sc, loc, N, .lent a as, es => (match es with | e :: es' => notStar e && chkE sc loc N a e && chkC sc loc N as es' | _ => false)
  | sc, loc, N, .src i as, es => (match es with | .Name x _ :: es' => nameB sc N i x && chkC sc loc N as es' | _ => false)
def chkG : Scope → Scope → List Str → Bool → MG → Expr → Bool
  | sc, loc, N, wk, .name i, e => (match e with | .Name x _ => !wk && decide (N[i]? = some x) && locB sc loc x | _ => false)
  | sc, loc, N, wk, .seq gs, e => (match e with | .Tuple es _ _ => chkGs sc loc N gs es | _ => false)
def chkGs : Scope → Scope → List Str → MGs → List Expr → Bool
  | sc, loc, N, .nil, es => (match es with | [] => true | _ => false)
  | sc, loc, N, .cons g gs, es => (match es with | e :: es' => notStar e && chkG sc loc N false g e && chkGs sc loc N gs es' | _ => false)
def chkI : Scope → Scope → List Str → MI → Expr → Expr → Bool
  | sc, loc, N, .seq a, _, e => chkE sc loc N a e
  | sc, loc, N, .range1 as, _, e => (match e with | .Call (.Name y _) [a'] [] _ => decide (y = Str.ofString "range") && glB sc y && chkA sc loc N as [a'] && clA as && notStar a' | _ => false)
  | sc, loc, N, .range2 as, _, e => (match e with | .Call (.Name y _) [a', b'] [] _ => decide (y = Str.ofString "range") && glB sc y && chkA sc loc N as [a', b'] && clA as && notStar a' && notStar b' | _ => false)
  | sc, loc, N, .enum as, tg, e => isTupE tg && (match e with | .Call (.Name y _) [a'] [] _ => decide (y = Str.ofString "enumerate") && glB sc y && chkA sc loc N as [a'] && notStar a' | _ => false)
  | sc, loc, N, .zip as, tg, e => isTupE tg && (match e with | .Call (.Name y _) [a', b'] [] _ => decide (y = Str.ofString "zip") && glB sc y && chkA sc loc N as [a', b'] && notStar a' && notStar b' | _ => false)
  | sc, loc, N, .zipS as, tg, e => isTupE tg && (match e with | .Call (.Name y _) [a', b'] [⟨some k, .Constant (.bool true) _ _, _⟩] _ => decide (y = Str.ofString "zip") && decide (k = Str.ofString "strict") && glB sc y && chkA sc loc N as [a', b'] && notStar a' && notStar b' | _ => false)
def chkO : Scope → Scope → List Str → MO → Option Expr → Bool
  | sc, loc, N, .none, o => (match o with | none => true | _ => false)
  | sc, loc, N, .some a, o => (match o with | some e => chkE sc loc N a e | _ => false)
end
end Mi

set_option Elab.async false
set_option linter.all false
set_option maxRecDepth 100000
set_option maxHeartbeats 4000000
namespace Mi
open PySem PySem.Spec PyProof.Rows L2
/-! ### the calls in it -/

mutual
def ndE (Has : Str → Nat → Fm → Prop) : ME → Prop
  | .bin _ a b => ndE Has a ∧ ndE Has b
  | .cmp _ a b => ndE Has a ∧ ndE Has b
  | .chain _ _ a b e => ndE Has a ∧ ndE Has b ∧ ndE Has e
  | .one a => ndE Has a
  | .and a b => ndE Has a ∧ ndE Has b
  | .or a b => ndE Has a ∧ ndE Has b
  | .not a => ndE Has a
  | .neg a => ndE Has a
  | .ite t a b => ndT Has t ∧ ndE Has a ∧ ndE Has b
  | .tup as => ndA Has as
  | .lst as => ndA Has as
  | .listOf a => ndE Has a
  | .rep a b => ndE Has a ∧ ndE Has b
  | .idx a b => ndE Has a ∧ ndE Has b
  | .slice a lo hi => ndE Has a ∧ ndO Has lo ∧ ndO Has hi
  | .rev a => ndE Has a
  | .call x n φ as => Has x n φ ∧ ndC Has as
  | .blt _ as => ndA Has as
  | .isi _ a => ndE Has a
  | .sortR as => ndA Has as
  | .listR1 a => ndE Has a
  | .listR2 a b => ndE Has a ∧ ndE Has b
  | .tupR1 a => ndE Has a
  | .tupR2 a b => ndE Has a ∧ ndE Has b
  | .index a b => ndE Has a ∧ ndE Has b
  | .comp _ _ i t e => ndI Has i ∧ ndT Has t ∧ ndE Has e
  | _ => True
def ndT (Has : Str → Nat → Fm → Prop) : MT → Prop
  | .cmp _ a b => ndE Has a ∧ ndE Has b
  | .chain _ _ a b e => ndE Has a ∧ ndE Has b ∧ ndE Has e
  | .truth a => ndE Has a
  | .not t => ndT Has t
  | .bool w => ndW Has w
  | .yes => True
def ndW (Has : Str → Nat → Fm → Prop) : MW → Prop
  | .and1 t => ndT Has t
  | .or1 t => ndT Has t
  | .and t w => ndT Has t ∧ ndW Has w
  | .or t w => ndT Has t ∧ ndW Has w
def ndA (Has : Str → Nat → Fm → Prop) : MA → Prop
  | .nil => True
  | .cons e as => ndE Has e ∧ ndA Has as
  | .star e as => ndE Has e ∧ ndA Has as
def ndC (Has : Str → Nat → Fm → Prop) : MC → Prop
  | .nil => True
  | .cons e as => ndE Has e ∧ ndC Has as
  | .lent e as => ndE Has e ∧ ndC Has as
  | .src _ as => ndC Has as
def ndI (Has : Str → Nat → Fm → Prop) : MI → Prop
  | .seq e => ndE Has e
  | .range1 as => ndA Has as
  | .range2 as => ndA Has as
  | .enum as => ndA Has as
  | .zip as => ndA Has as
  | .zipS as => ndA Has as
def ndO (Has : Str → Nat → Fm → Prop) : MO → Prop
  | .none => True
  | .some e => ndE Has e
end

/-! ### where it is run -/
def bltNames : List Str := ["len", "int", "tuple", "list", "sum", "all", "abs", "max", "min", "repr", "sorted", "range", "enumerate", "zip", "isinstance", "bool", "str", "dict"]
structure Good (Has : Str → Nat → Fm → Prop) (c : Ctl) (X : Cx) (sc loc : Scope) (N : List Str) : Prop where
  hK : c.K = X.K
  sys : SysOk X
  gu : X.A.guards = some []
  un : X.A.units + 65 < cLine
  calm : X.calm = true
  xe : PassesOwn (model X.prog X.w) X.A X.env X.xe
  scp : X.env.scope = sc
  nm : X.N = N
  nd : N.Nodup
  fn : ∀ x, loc.names.lookup x = some .cell → X.fn x = true
  bn : ∀ x ∈ bltNames, X.mg x = none
  has : ∀ x n φ, Has x n φ → CallOk X c x n φ
theorem Good.blk {Has : Str → Nat → Fm → Prop} {c : Ctl} {X : Cx} {sc loc : Scope} {N : List Str} (g : Good Has c X sc loc N) (scope : Scope) (s : Shared) (H : Hp) (C : Addr) (cl : List (Str × Addr)) (fp : List Addr) :
    Good Has c (X.blk s H scope (compEnvC scope cl C X.env) fp) (relS scope sc) scope N :=
  ⟨g.hK, g.sys, g.gu, g.un, g.calm, PassesOwn.never, by rw [← g.scp]; rfl, g.nm, g.nd, fun x h => by show (scope.names.lookup x == some NameKind.cell) = true; rw [h]; rfl, g.bn, fun x n φ h => ⟨(g.has x n φ h).ex⟩⟩
section
variable {Has : Str → Nat → Fm → Prop} {c : Ctl} {X : Cx} {sc loc : Scope} {N : List Str}
theorem Good.vis (g : Good Has c X sc loc N) {x : Str} (h : visB sc x = true) : Vis X.env.scope x := by
  unfold visB at h
  rw [g.scp]
  split at h
  · exact .inl (by assumption)
  · exact .inr (.inl (by assumption))
  · exact .inr (.inr (by assumption))
  · cases h
theorem Good.locv (g : Good Has c X sc loc N) {x : Str} (h : locB sc loc x = true) : Loc X.env.scope x ∧ (X.fn x = true ∨ X.env.scope.names.lookup x = some .local) := by
  unfold locB at h
  rw [g.scp]
  split at h
  · exact ⟨.inl (by assumption), .inr (by assumption)⟩
  · split at h
    · exact ⟨.inr (by assumption), .inl (g.fn _ (by assumption))⟩
    · cases h
  · cases h
theorem Good.gl (g : Good Has c X sc loc N) {x : Str} (h : glB sc x = true) : Gl X x := by
  unfold glB at h
  show X.env.scope.names.lookup x = some .globalImplicit
  rw [g.scp]
  split at h
  · assumption
  · cases h
theorem Good.name (g : Good Has c X sc loc N) {i : Nat} {x : Str} (h : nameB sc N i x = true) : X.N[i]? = some x ∧ Vis X.env.scope x ∧ (x == ("__debug__" : Str)) = false ∧ (x == ("__classdict__" : Str)) = false := by
  unfold nameB okN at h
  simp only [Bool.and_eq_true, decide_eq_true_eq, Bool.not_eq_true'] at h
  exact ⟨by rw [g.nm]; exact h.1.1, g.vis h.1.2, h.2.1, h.2.2⟩
theorem Good.b (g : Good Has c X sc loc N) (x : String) (h : Str.ofString x ∈ bltNames) : X.mg (Str.ofString x) = none := g.bn _ h
theorem bop_eq {o : Bop} {op : Operator} (h : o.ok op = true) (g : Good Has c X sc loc N) : OpR X (binaryOp op) (rW c o.w) := by
  have hK := g.hK
  cases o <;> cases op <;> first
    | (simp [Bop.ok] at h; done)
    | skip
  · exact op_addW hK
  · exact op_subW hK
  · exact op_mulWW hK
  · exact op_divWW hK
  · exact op_modW hK
  · exact op_powW hK
  · exact op_shlW hK
  · exact op_shrW hK
  · exact op_andW hK
theorem cop_eq {o : Cop} {op : CmpOp} (h : o.ok op = true) (g : Good Has c X sc loc N) : OpR X (compareOp op) (rW c fun d e => valB (o.w d e)) := by
  have hK := g.hK
  have hu : X.A.units + 64 < cLine := by have := g.un; omega
  cases o <;> cases op <;> first
    | (simp [Cop.ok] at h; done)
    | skip
  · exact op_eqW hK hu
  · exact op_neW hK hu
  · exact op_ltW hK
  · exact op_leW hK
  · exact op_gtW hK
  · exact op_geW hK
  · exact op_isW hK
  · exact op_isnW hK
  · exact op_inW hK g.un
  · exact op_notInW hK g.un
  · exact op_eq0 hK (by omega)
theorem plainArgs {es : List Expr} {env : PySem.Env} {pos : Pos} (h : es.all notStar = true) : (backTo pos (starEach es env)).any (·.1) = false := by
  induction es with
  | nil => rfl
  | cons e es ih =>
    simp only [List.all_cons, Bool.and_eq_true] at h
    rw [star_no h.1]
    show (false || _) = false
    rw [Bool.false_or]
    exact ih h.2
theorem je_bl {cl1 : Bool} {e : Expr} {es : List Expr} {pos p : Pos} {fs : Env → W (List D)} (f : Bl) (g : Good Has c X sc loc N) (hg : Gl X (Str.ofString f.name)) (ha : PA X (e :: es) (tAs c cl1 fs)) (hn : notStar e = true) (hns : es.all notStar = true) :
    PE X (.Call (.Name (Str.ofString f.name) p) (e :: es) [] pos) (tD0 c true fun env P => fs env fun ds => f.w ds P) := by
  have hK := g.hK
  have hu : X.A.units + 64 < cLine := by have := g.un; omega
  have he := star_no (es := es) (env := X.env) hn
  have hp := plainArgs (pos := pos) (env := X.env) hns
  cases f with
  | len => exact je_blt (cr_lenW hK) hg (g.b "len" (by decide +kernel)) (by decide +kernel) (by decide) (by decide) ha he hp
  | int => exact je_cty (cr_intW hK) hg (g.b "int" (by decide +kernel)) (by decide +kernel) (by decide) (by decide) ha he hp
  | tuple => exact je_cty (cr_tupleW hK) hg (g.b "tuple" (by decide +kernel)) (by decide +kernel) (by decide) (by decide) ha he hp
  | list => exact je_cty (cr_listW hK) hg (g.b "list" (by decide +kernel)) (by decide +kernel) (by decide) (by decide) ha he hp
  | sum => exact je_blt (cr_sumW hK g.calm) hg (g.b "sum" (by decide +kernel)) (by decide +kernel) (by decide) (by decide) ha he hp
  | all => exact je_blt (cr_allW hK g.calm) hg (g.b "all" (by decide +kernel)) (by decide +kernel) (by decide) (by decide) ha he hp
  | abs => exact je_blt (cr_absW hK) hg (g.b "abs" (by decide +kernel)) (by decide +kernel) (by decide) (by decide) ha he hp
  | max2 => exact je_blt (cr_max2W hK g.calm) hg (g.b "max" (by decide +kernel)) (by decide +kernel) (by decide) (by decide) ha he hp
  | min2 => exact je_blt (cr_min2W hK g.calm) hg (g.b "min" (by decide +kernel)) (by decide +kernel) (by decide) (by decide) ha he hp
  | maxL => exact je_blt (cr_maxLW hK g.calm) hg (g.b "max" (by decide +kernel)) (by decide +kernel) (by decide) (by decide) ha he hp
  | minL => exact je_blt (cr_minLW hK g.calm) hg (g.b "min" (by decide +kernel)) (by decide +kernel) (by decide) (by decide) ha he hp
  | repr => exact je_blt (cr_reprW hK g.gu hu) hg (g.b "repr" (by decide +kernel)) (by decide +kernel) (by decide) (by decide) ha he hp
  | sorted => exact je_blt (cr_sortW hK hu) hg (g.b "sorted" (by decide +kernel)) (by decide +kernel) (by decide) (by decide) ha he hp
theorem notCall_eq {o : Expr} {attr : Str} {env : PySem.Env} {w : Sem Value} (h : notCall o = true) : attributeBase o attr env w = w := by
  cases o <;> first
    | rfl
    | (simp [notCall] at h; done)
theorem asg_no {e : Expr} {es : List Expr} {env : PySem.Env} (h : notStar e = true) : assignEach (e :: es) env = (false, assign e env) :: assignEach es env := by
  cases e <;> first
    | rfl
    | (simp [notStar] at h; done)
theorem isTup_of {e : Expr} (h : isTupE e = true) : ∃ es k p, e = .Tuple es k p := by
  cases e <;> first
    | exact ⟨_, _, _, rfl⟩
    | (simp [isTupE] at h; done)

theorem cast_rep {c : Ctl} {f g : Env → W D} {σ : L2.St} {H : Hp} {Q : VK}
    (h : tD0 c true (fun env P => f env fun d => (match d with | .list _ => True | _ => False) ∧ g env fun e => match d with | .list ds => repW ds e fun ds => P (.list ds) | _ => False) σ H Q) :
    tD0 c true (fun env P => (fun env P => f env fun d => (match d with | .list _ => True | _ => False) ∧ g env fun e => match d with | .list ds => repW ds e P | _ => False) env fun ds => P (.list ds)) σ H Q := h

theorem _root_.L2.PE.w {X : Cx} {c : Ctl} {cl : Bool} {f : Env → W D} {e : Expr} (h : PE X e (tD0 c cl f)) : PE X e (tD0 c false f) := by
  cases cl with
  | false => exact h
  | true => exact h.of fun σ H Q ⟨env, G, F, P, R, hw, hq⟩ => ⟨env, G, F, P, R, hw, fun d v G' F' H' hp st ru hc => hq d v G' F' H' hp st ru fun z => nomatch z⟩
end
section
variable {Has : Str → Nat → Fm → Prop} {c : Ctl}
mutual
theorem sdE : ∀ (m : ME) {X : Cx} {sc loc : Scope} {N : List Str} {e : Expr}, Good Has c X sc loc N → chkE sc loc N m e = true → ndE Has m → PE X e (tD0 c (clE m) (denE m))
  | .var i, X, sc, loc, N, e, g, h, nd => by
    (simp only [chkE, chkT, chkW, chkA, chkC, chkG, chkGs, chkI, chkO] at h); split at h <;> first | (cases h; done) | skip
    obtain ⟨h1, h2, h3, h4⟩ := g.name h
    exact je_var h1 h2 h3 h4
  | .lent i, X, sc, loc, N, e, g, h, nd => by
    (simp only [chkE, chkT, chkW, chkA, chkC, chkG, chkGs, chkI, chkO] at h); split at h <;> first | (cases h; done) | skip
    obtain ⟨h1, h2, h3, h4⟩ := g.name h
    exact je_lent h1 h2 h3 h4
  | .non, X, sc, loc, N, e, g, h, nd => by
    (simp only [chkE, chkT, chkW, chkA, chkC, chkG, chkGs, chkI, chkO] at h); split at h <;> first | (cases h; done) | skip
    exact je_const (fun _ => .non) pe_non
  | .bl b, X, sc, loc, N, e, g, h, nd => by
    (simp only [chkE, chkT, chkW, chkA, chkC, chkG, chkGs, chkI, chkO] at h); split at h <;> first | (cases h; done) | skip
    (simp only [Bool.and_eq_true, decide_eq_true_eq, Bool.not_eq_true', beq_iff_eq] at h); subst h
    exact je_const (fun _ => .bl b) pe_bl
  | .int i, X, sc, loc, N, e, g, h, nd => by
    (simp only [chkE, chkT, chkW, chkA, chkC, chkG, chkGs, chkI, chkO] at h); split at h <;> first | (cases h; done) | skip
    (simp only [Bool.and_eq_true, decide_eq_true_eq, Bool.not_eq_true', beq_iff_eq] at h); subst h
    exact je_const (fun _ => .int i) pe_int
  | .str x, X, sc, loc, N, e, g, h, nd => by
    (simp only [chkE, chkT, chkW, chkA, chkC, chkG, chkGs, chkI, chkO] at h); split at h <;> first | (cases h; done) | skip
    (simp only [Bool.and_eq_true, decide_eq_true_eq, Bool.not_eq_true', beq_iff_eq] at h); subst h
    exact je_const (fun _ => .str x) pe_str
  | .bin op a b, X, sc, loc, N, e, g, h, nd => by
    (simp only [chkE, chkT, chkW, chkA, chkC, chkG, chkGs, chkI, chkO] at h); split at h <;> first | (cases h; done) | skip
    (simp only [Bool.and_eq_true, decide_eq_true_eq, Bool.not_eq_true', beq_iff_eq] at h)
    exact je_bin (bop_eq h.1.1 g) (tD_sz g.hK g.sys (sdE a g h.1.2 nd.1)) (tD_sz g.hK g.sys (sdE b g h.2 nd.2))
  | .cmp op a b, X, sc, loc, N, e, g, h, nd => by
    (simp only [chkE, chkT, chkW, chkA, chkC, chkG, chkGs, chkI, chkO] at h); split at h <;> first | (cases h; done) | skip
    (simp only [Bool.and_eq_true, decide_eq_true_eq, Bool.not_eq_true', beq_iff_eq] at h)
    exact je_cmp (cop_eq h.1.1.1 g) h.2 (tD_sz g.hK g.sys (sdE a g h.1.1.2 nd.1)) (tD_sz g.hK g.sys (sdE b g h.1.2 nd.2))
  | .chain op op' a b k, X, sc, loc, N, e, g, h, nd => by
    (simp only [chkE, chkT, chkW, chkA, chkC, chkG, chkGs, chkI, chkO] at h); split at h <;> first | (cases h; done) | skip
    (simp only [Bool.and_eq_true, decide_eq_true_eq, Bool.not_eq_true', beq_iff_eq] at h)
    exact je_chain (cop_eq h.1.1.1.1.1 g) (cop_eq h.1.1.1.1.2 g) h.2 (tD_sz g.hK g.sys (sdE a g h.1.1.1.2 nd.1)) (tD_sz g.hK g.sys (sdE b g h.1.1.2 nd.2.1)) (tD_sz g.hK g.sys (sdE k g h.1.2 nd.2.2))
  | .one a, X, sc, loc, N, e, g, h, nd => by
    (simp only [chkE, chkT, chkW, chkA, chkC, chkG, chkGs, chkI, chkO] at h); split at h <;> first | (cases h; done) | skip
    (simp only [Bool.and_eq_true, decide_eq_true_eq, Bool.not_eq_true', beq_iff_eq] at h)
    have q := sdE a g h.1 nd
    rw [h.2] at q
    exact je_one q
  | .and a b, X, sc, loc, N, e, g, h, nd => by
    (simp only [chkE, chkT, chkW, chkA, chkC, chkG, chkGs, chkI, chkO] at h); split at h <;> first | (cases h; done) | skip
    (simp only [Bool.and_eq_true, decide_eq_true_eq, Bool.not_eq_true', beq_iff_eq] at h)
    have q := tD_sz g.hK g.sys (sdE b g h.1.2 nd.2)
    rw [h.2] at q
    exact je_and (tD_sz g.hK g.sys (sdE a g h.1.1 nd.1)) q
  | .or a b, X, sc, loc, N, e, g, h, nd => by
    (simp only [chkE, chkT, chkW, chkA, chkC, chkG, chkGs, chkI, chkO] at h); split at h <;> first | (cases h; done) | skip
    (simp only [Bool.and_eq_true, decide_eq_true_eq, Bool.not_eq_true', beq_iff_eq] at h)
    have q := tD_sz g.hK g.sys (sdE b g h.1.2 nd.2)
    rw [h.2] at q
    exact je_or (tD_sz g.hK g.sys (sdE a g h.1.1 nd.1)) q
  | .not a, X, sc, loc, N, e, g, h, nd => by
    (simp only [chkE, chkT, chkW, chkA, chkC, chkG, chkGs, chkI, chkO] at h); split at h <;> first | (cases h; done) | skip
    exact je_not (tD_sz g.hK g.sys (sdE a g h nd))
  | .neg a, X, sc, loc, N, e, g, h, nd => by
    (simp only [chkE, chkT, chkW, chkA, chkC, chkG, chkGs, chkI, chkO] at h); split at h <;> first | (cases h; done) | skip
    exact je_neg g.hK (tD_sz g.hK g.sys (sdE a g h nd))
  | .ite t a b, X, sc, loc, N, e, g, h, nd => by
    (simp only [chkE, chkT, chkW, chkA, chkC, chkG, chkGs, chkI, chkO] at h); split at h <;> first | (cases h; done) | skip
    (simp only [Bool.and_eq_true, decide_eq_true_eq, Bool.not_eq_true', beq_iff_eq] at h)
    exact je_ite (sdT t g h.1.1 nd.1) (tD_sz g.hK g.sys (sdE a g h.1.2 nd.2.1)) (tD_sz g.hK g.sys (sdE b g h.2 nd.2.2))
  | .tup as, X, sc, loc, N, e, g, h, nd => by
    (simp only [chkE, chkT, chkW, chkA, chkC, chkG, chkGs, chkI, chkO] at h); split at h <;> first | (cases h; done) | skip
    (simp only [Bool.and_eq_true, decide_eq_true_eq, Bool.not_eq_true', beq_iff_eq] at h)
    have q := tAs_sz g.hK g.sys (sdA as g h.1 nd)
    rw [h.2] at q
    exact je_tup q
  | .lst as, X, sc, loc, N, e, g, h, nd => by
    (simp only [chkE, chkT, chkW, chkA, chkC, chkG, chkGs, chkI, chkO] at h); split at h <;> first | (cases h; done) | skip
    (simp only [Bool.and_eq_true, decide_eq_true_eq, Bool.not_eq_true', beq_iff_eq] at h)
    have q := tAs_sz g.hK g.sys (sdA as g h.1 nd)
    rw [h.2] at q
    exact je_lst q
  | .listOf a, X, sc, loc, N, e, g, h, nd => by
    (simp only [chkE, chkT, chkW, chkA, chkC, chkG, chkGs, chkI, chkO] at h); split at h <;> first | (cases h; done) | skip
    (simp only [Bool.and_eq_true, decide_eq_true_eq, Bool.not_eq_true', beq_iff_eq] at h)
    obtain ⟨⟨⟨h1, h2⟩, h3⟩, h4⟩ := h
    subst h1
    exact je_new (jf_listOf g.hK (g.gl h2) (g.b "list" (by decide +kernel)) h4 (tD_sz g.hK g.sys (sdE a g h3 nd)))
  | .rep a b, X, sc, loc, N, e, g, h, nd => by
    (simp only [chkE, chkT, chkW, chkA, chkC, chkG, chkGs, chkI, chkO] at h); split at h <;> first | (cases h; done) | skip
    (simp only [Bool.and_eq_true, decide_eq_true_eq, Bool.not_eq_true', beq_iff_eq] at h)
    refine (jf_rep g.hK (tD_sz g.hK g.sys (sdE a g h.1 nd.1)) (tD_sz g.hK g.sys (sdE b g h.2 nd.2))).of fun σ H Q q => d_new ?_
    exact cast_rep q
  | .idx a b, X, sc, loc, N, e, g, h, nd => by
    (simp only [chkE, chkT, chkW, chkA, chkC, chkG, chkGs, chkI, chkO] at h); split at h <;> first | (cases h; done) | skip
    (simp only [Bool.and_eq_true, decide_eq_true_eq, Bool.not_eq_true', beq_iff_eq] at h)
    exact je_idx g.hK h.2 (tD_sz g.hK g.sys (sdE a g h.1.1 nd.1)) (tD_sz g.hK g.sys (sdE b g h.1.2 nd.2))
  | .slice a lo hi, X, sc, loc, N, e, g, h, nd => by
    (simp only [chkE, chkT, chkW, chkA, chkC, chkG, chkGs, chkI, chkO] at h); split at h <;> first | (cases h; done) | skip
    (simp only [Bool.and_eq_true, decide_eq_true_eq, Bool.not_eq_true', beq_iff_eq] at h)
    exact je_slice g.hK (tD_sz g.hK g.sys (sdE a g h.1.1 nd.1)) (sdO lo g h.1.2 nd.2.1) (sdO hi g h.2 nd.2.2)
  | .rev a, X, sc, loc, N, e, g, h, nd => by
    (simp only [chkE, chkT, chkW, chkA, chkC, chkG, chkGs, chkI, chkO] at h); split at h <;> first | (cases h; done) | skip
    (simp only [Bool.and_eq_true, decide_eq_true_eq, Bool.not_eq_true', beq_iff_eq] at h)
    obtain ⟨h1, h2⟩ := h
    subst h1
    exact je_rev g.hK (tD_sz g.hK g.sys (sdE a g h2 nd))
  | .call x n φ as, X, sc, loc, N, e, g, h, nd => by
    (simp only [chkE, chkT, chkW, chkA, chkC, chkG, chkGs, chkI, chkO] at h); split at h <;> first | (cases h; done) | skip
    (simp only [Bool.and_eq_true, decide_eq_true_eq, Bool.not_eq_true', beq_iff_eq] at h)
    obtain ⟨⟨⟨⟨⟨h1, h2⟩, h3⟩, h4⟩, h5⟩, h6⟩ := h
    subst h1
    have h3' := h3
    unfold okN at h3'
    simp only [Bool.and_eq_true, Bool.not_eq_true'] at h3'
    exact je_call g.hK (g.has _ _ _ nd.1) g.gu (g.gl h2) h3'.1 (sdC as g h4 nd.2) (star_no h5) (plainArgs h6)
  | .blt f as, X, sc, loc, N, e, g, h, nd => by
    (simp only [chkE, chkT, chkW, chkA, chkC, chkG, chkGs, chkI, chkO] at h); split at h <;> first | (cases h; done) | skip
    (simp only [Bool.and_eq_true, decide_eq_true_eq, Bool.not_eq_true', beq_iff_eq] at h)
    obtain ⟨⟨⟨⟨h1, h2⟩, h4⟩, h5⟩, h6⟩ := h
    subst h1
    exact je_bl f g (g.gl h2) (tAs_sz g.hK g.sys (sdA as g h4 nd)) h5 h6
  | .isi T a, X, sc, loc, N, e, g, h, nd => by
    (simp only [chkE, chkT, chkW, chkA, chkC, chkG, chkGs, chkI, chkO] at h); split at h <;> first | (cases h; done) | skip
    (simp only [Bool.and_eq_true, decide_eq_true_eq, Bool.not_eq_true', beq_iff_eq] at h)
    obtain ⟨⟨⟨⟨⟨h1, h2⟩, h3⟩, h4⟩, h5⟩, h6⟩ := h
    subst h1 h2
    exact je_isi g.hK T (g.gl h3) (g.b "isinstance" (by decide +kernel)) (g.gl h4) (g.b T.name (by cases T <;> decide +kernel)) h6 (tD_sz g.hK g.sys (sdE a g h5 nd))
  | .sortR as, X, sc, loc, N, e, g, h, nd => by
    (simp only [chkE, chkT, chkW, chkA, chkC, chkG, chkGs, chkI, chkO] at h); split at h <;> first | (cases h; done) | skip
    (simp only [Bool.and_eq_true, decide_eq_true_eq, Bool.not_eq_true', beq_iff_eq] at h)
    obtain ⟨⟨⟨⟨h1, h2⟩, h3⟩, h4⟩, h5⟩ := h
    subst h1 h2
    have hu : X.A.units + 64 < cLine := by have := g.un; omega
    exact je_sortR g.hK g.sys hu (g.gl h3) (g.b "sorted" (by decide +kernel)) h5 (tAs_sz g.hK g.sys (sdA as g h4 nd))
  | .listR1 a, X, sc, loc, N, e, g, h, nd => by
    (simp only [chkE, chkT, chkW, chkA, chkC, chkG, chkGs, chkI, chkO] at h); split at h <;> first | (cases h; done) | skip
    (simp only [Bool.and_eq_true, decide_eq_true_eq, Bool.not_eq_true', beq_iff_eq] at h)
    obtain ⟨⟨⟨⟨⟨h1, h2⟩, h3⟩, h4⟩, h5⟩, h6⟩ := h
    subst h1 h2
    exact je_listR1 g.calm (g.gl h3) (g.b "list" (by decide +kernel)) (g.gl h4) (g.b "range" (by decide +kernel)) h6 (tD_sz g.hK g.sys (sdE a g h5 nd))
  | .listR2 a b, X, sc, loc, N, e, g, h, nd => by
    (simp only [chkE, chkT, chkW, chkA, chkC, chkG, chkGs, chkI, chkO] at h); split at h <;> first | (cases h; done) | skip
    (simp only [Bool.and_eq_true, decide_eq_true_eq, Bool.not_eq_true', beq_iff_eq] at h)
    obtain ⟨⟨⟨⟨⟨⟨⟨h1, h2⟩, h3⟩, h4⟩, h5⟩, h6⟩, h7⟩, h8⟩ := h
    subst h1 h2
    exact je_listR2 g.calm (g.gl h3) (g.b "list" (by decide +kernel)) (g.gl h4) (g.b "range" (by decide +kernel)) h6 h8 (tD_sz g.hK g.sys (sdE a g h5 nd.1)) (tD_sz g.hK g.sys (sdE b g h7 nd.2))
  | .tupR1 a, X, sc, loc, N, e, g, h, nd => by
    (simp only [chkE, chkT, chkW, chkA, chkC, chkG, chkGs, chkI, chkO] at h); split at h <;> first | (cases h; done) | skip
    (simp only [Bool.and_eq_true, decide_eq_true_eq, Bool.not_eq_true', beq_iff_eq] at h)
    obtain ⟨⟨⟨⟨⟨h1, h2⟩, h3⟩, h4⟩, h5⟩, h6⟩ := h
    subst h1 h2
    exact je_tupR1 g.calm (g.gl h3) (g.b "tuple" (by decide +kernel)) (g.gl h4) (g.b "range" (by decide +kernel)) h6 (tD_sz g.hK g.sys (sdE a g h5 nd))
  | .tupR2 a b, X, sc, loc, N, e, g, h, nd => by
    (simp only [chkE, chkT, chkW, chkA, chkC, chkG, chkGs, chkI, chkO] at h); split at h <;> first | (cases h; done) | skip
    (simp only [Bool.and_eq_true, decide_eq_true_eq, Bool.not_eq_true', beq_iff_eq] at h)
    obtain ⟨⟨⟨⟨⟨⟨⟨h1, h2⟩, h3⟩, h4⟩, h5⟩, h6⟩, h7⟩, h8⟩ := h
    subst h1 h2
    exact je_tupR2 g.calm (g.gl h3) (g.b "tuple" (by decide +kernel)) (g.gl h4) (g.b "range" (by decide +kernel)) h6 h8 (tD_sz g.hK g.sys (sdE a g h5 nd.1)) (tD_sz g.hK g.sys (sdE b g h7 nd.2))
  | .index a b, X, sc, loc, N, e, g, h, nd => by
    (simp only [chkE, chkT, chkW, chkA, chkC, chkG, chkGs, chkI, chkO] at h); split at h <;> first | (cases h; done) | skip
    (simp only [Bool.and_eq_true, decide_eq_true_eq, Bool.not_eq_true', beq_iff_eq] at h)
    obtain ⟨⟨⟨⟨⟨h1, h2⟩, h3⟩, h4⟩, h5⟩, h6⟩ := h
    subst h1
    exact je_index g.hK (notCall_eq h2) (by rw [h3]; exact beq_self_eq_true _) h6 (tD_sz g.hK g.sys (sdE a g h4 nd.1)) (tD_sz g.hK g.sys (sdE b g h5 nd.2))
  | .comp own gg i t k, X, sc, loc, N, e, g, h, nd => by
    (simp only [chkE, chkT, chkW, chkA, chkC, chkG, chkGs, chkI, chkO] at h); split at h <;> first | (cases h; done) | skip
    rename_i k' tg iter ifs z scope p
    simp only [Bool.and_eq_true, beq_iff_eq, List.all_eq_true, decide_eq_true_eq] at h
    obtain ⟨⟨⟨⟨⟨⟨⟨⟨h1, h2⟩, h3⟩, h4⟩, h5⟩, h6⟩, h7⟩, h8⟩, h9⟩ := h
    subst h1
    have nE : X.N.Nodup := by rw [g.nm]; exact g.nd
    refine je_comp g.calm nE h5 (sdI i g h2 nd.1) (by rw [g.nm, g.scp]; exact blkOk_by h4) (fun s H C cl fp => sdG gg _ (g.blk scope s H C cl fp) h6) (fun s H C cl fp => ?_) (fun s H C cl fp => ?_) h3
    · split at h7
      · have e : t = .yes := by
          cases t <;> first | rfl | (simp [isYes] at h7; done)
        subst e
        exact jts_nil
      · exact jts_one (sdT t (g.blk scope s H C cl fp) h7 nd.2.1)
      · cases h7
    · have g' := g.blk scope s H C cl fp
      have q := tD_sz g'.hK g'.sys (sdE k g' h8 nd.2.2)
      rw [h9] at q
      exact q
  | .dct0, X, sc, loc, N, e, g, h, nd => by
    (simp only [chkE, chkT, chkW, chkA, chkC, chkG, chkGs, chkI, chkO] at h); split at h <;> first | (cases h; done) | skip
    exact je_dct0
  | .srcE i q, X, sc, loc, N, e, g, h, nd => by
    (simp only [chkE, chkT, chkW, chkA, chkC, chkG, chkGs, chkI, chkO] at h); split at h <;> first | (cases h; done) | skip
    (simp only [Bool.and_eq_true, decide_eq_true_eq, Bool.not_eq_true', beq_iff_eq] at h)
    obtain ⟨h1, h2, h3, h4⟩ := g.name h.1
    exact je_srcE q (by have := g.un; omega) h1 h2 h3 h4 h.2
theorem sdT : ∀ (m : MT) {X : Cx} {sc loc : Scope} {N : List Str} {e : Expr}, Good Has c X sc loc N → chkT sc loc N m e = true → ndT Has m → PT X e (tB c (denT m))
  | .cmp op a b, X, sc, loc, N, e, g, h, nd => by
    (simp only [chkE, chkT, chkW, chkA, chkC, chkG, chkGs, chkI, chkO] at h); split at h <;> first | (cases h; done) | skip
    (simp only [Bool.and_eq_true, decide_eq_true_eq, Bool.not_eq_true', beq_iff_eq] at h)
    exact jt_cmp (cop_eq h.1.1.1 g) h.2 (tD_sz g.hK g.sys (sdE a g h.1.1.2 nd.1)) (tD_sz g.hK g.sys (sdE b g h.1.2 nd.2))
  | .chain op op' a b k, X, sc, loc, N, e, g, h, nd => by
    (simp only [chkE, chkT, chkW, chkA, chkC, chkG, chkGs, chkI, chkO] at h); split at h <;> first | (cases h; done) | skip
    (simp only [Bool.and_eq_true, decide_eq_true_eq, Bool.not_eq_true', beq_iff_eq] at h)
    exact jt_chain (cop_eq h.1.1.1.1.1 g) (cop_eq h.1.1.1.1.2 g) h.2 (tD_sz g.hK g.sys (sdE a g h.1.1.1.2 nd.1)) (tD_sz g.hK g.sys (sdE b g h.1.1.2 nd.2.1)) (tD_sz g.hK g.sys (sdE k g h.1.2 nd.2.2))
  | .truth a, X, sc, loc, N, e, g, h, nd => by
    (simp only [chkE, chkT, chkW, chkA, chkC, chkG, chkGs, chkI, chkO] at h); (simp only [Bool.and_eq_true, decide_eq_true_eq, Bool.not_eq_true', beq_iff_eq] at h)
    exact jt_truth g.hK h.1 (tD_sz g.hK g.sys (sdE a g h.2 nd))
  | .not t, X, sc, loc, N, e, g, h, nd => by
    (simp only [chkE, chkT, chkW, chkA, chkC, chkG, chkGs, chkI, chkO] at h); split at h <;> first | (cases h; done) | skip
    exact jt_not (sdT t g h nd)
  | .bool w, X, sc, loc, N, e, g, h, nd => by
    (simp only [chkE, chkT, chkW, chkA, chkC, chkG, chkGs, chkI, chkO] at h)
    exact (sdW w g h nd).pt
  | .yes, X, sc, loc, N, e, g, h, nd => by
    (simp only [chkE, chkT, chkW, chkA, chkC, chkG, chkGs, chkI, chkO] at h); cases h
theorem sdW : ∀ (m : MW) {X : Cx} {sc loc : Scope} {N : List Str} {e : Expr}, Good Has c X sc loc N → chkW sc loc N m e = true → ndW Has m → PW X e (tB c (denW m))
  | .and1 t, X, sc, loc, N, e, g, h, nd => by
    (simp only [chkE, chkT, chkW, chkA, chkC, chkG, chkGs, chkI, chkO] at h); split at h <;> first | (cases h; done) | skip
    exact jw_and1 (sdT t g h nd)
  | .or1 t, X, sc, loc, N, e, g, h, nd => by
    (simp only [chkE, chkT, chkW, chkA, chkC, chkG, chkGs, chkI, chkO] at h); split at h <;> first | (cases h; done) | skip
    exact jw_or1 (sdT t g h nd)
  | .and t w, X, sc, loc, N, e, g, h, nd => by
    (simp only [chkE, chkT, chkW, chkA, chkC, chkG, chkGs, chkI, chkO] at h); split at h <;> first | (cases h; done) | skip
    (simp only [Bool.and_eq_true, decide_eq_true_eq, Bool.not_eq_true', beq_iff_eq] at h)
    exact jw_and (sdT t g h.1 nd.1) (sdW w g h.2 nd.2)
  | .or t w, X, sc, loc, N, e, g, h, nd => by
    (simp only [chkE, chkT, chkW, chkA, chkC, chkG, chkGs, chkI, chkO] at h); split at h <;> first | (cases h; done) | skip
    (simp only [Bool.and_eq_true, decide_eq_true_eq, Bool.not_eq_true', beq_iff_eq] at h)
    exact jw_or (sdT t g h.1 nd.1) (sdW w g h.2 nd.2)
theorem sdA : ∀ (m : MA) {X : Cx} {sc loc : Scope} {N : List Str} {es : List Expr}, Good Has c X sc loc N → chkA sc loc N m es = true → ndA Has m → PA X es (tAs0 c (clA m) (denA m))
  | .nil, X, sc, loc, N, e, g, h, nd => by
    (simp only [chkE, chkT, chkW, chkA, chkC, chkG, chkGs, chkI, chkO] at h); split at h <;> first | (cases h; done) | skip
    exact ja_nil
  | .cons a as, X, sc, loc, N, e, g, h, nd => by
    (simp only [chkE, chkT, chkW, chkA, chkC, chkG, chkGs, chkI, chkO] at h); split at h <;> first | (cases h; done) | skip
    (simp only [Bool.and_eq_true, decide_eq_true_eq, Bool.not_eq_true', beq_iff_eq] at h)
    exact ja_cons h.1.1 (tD_sz g.hK g.sys (sdE a g h.1.2 nd.1)) (sdA as g h.2 nd.2)
  | .star a as, X, sc, loc, N, e, g, h, nd => by
    (simp only [chkE, chkT, chkW, chkA, chkC, chkG, chkGs, chkI, chkO] at h); split at h <;> first | (cases h; done) | skip
    (simp only [Bool.and_eq_true, decide_eq_true_eq, Bool.not_eq_true', beq_iff_eq] at h)
    exact ja_scons g.hK (tD_sz g.hK g.sys (sdE a g h.1 nd.1)) (sdA as g h.2 nd.2)
theorem sdC : ∀ (m : MC) {X : Cx} {sc loc : Scope} {N : List Str} {es : List Expr}, Good Has c X sc loc N → chkC sc loc N m es = true → ndC Has m → PA X es (tArgs c (denC m))
  | .nil, X, sc, loc, N, e, g, h, nd => by
    (simp only [chkE, chkT, chkW, chkA, chkC, chkG, chkGs, chkI, chkO] at h); split at h <;> first | (cases h; done) | skip
    exact jc_nil
  | .cons a as, X, sc, loc, N, e, g, h, nd => by
    (simp only [chkE, chkT, chkW, chkA, chkC, chkG, chkGs, chkI, chkO] at h); split at h <;> first | (cases h; done) | skip
    (simp only [Bool.and_eq_true, decide_eq_true_eq, Bool.not_eq_true', beq_iff_eq] at h)
    have q := tD_sz g.hK g.sys (sdE a g h.1.1.2 nd.1)
    rw [h.1.2] at q
    exact jc_cons h.1.1.1 q (sdC as g h.2 nd.2)
  | .lent a as, X, sc, loc, N, e, g, h, nd => by
    (simp only [chkE, chkT, chkW, chkA, chkC, chkG, chkGs, chkI, chkO] at h); split at h <;> first | (cases h; done) | skip
    (simp only [Bool.and_eq_true, decide_eq_true_eq, Bool.not_eq_true', beq_iff_eq] at h)
    exact jc_lent h.1.1 (tD_sz g.hK g.sys (sdE a g h.1.2 nd.1)) (sdC as g h.2 nd.2)
  | .src i as, X, sc, loc, N, e, g, h, nd => by
    (simp only [chkE, chkT, chkW, chkA, chkC, chkG, chkGs, chkI, chkO] at h); split at h <;> first | (cases h; done) | skip
    (simp only [Bool.and_eq_true, decide_eq_true_eq, Bool.not_eq_true', beq_iff_eq] at h)
    obtain ⟨h1, h2, h3, h4⟩ := g.name h.1
    exact jc_src h1 h2 h3 h4 (sdC as g h.2 nd)
theorem sdG : ∀ (m : MG) (wk : Bool) {X : Cx} {sc loc : Scope} {N : List Str} {e : Expr}, Good Has c X sc loc N → chkG sc loc N wk m e = true → PG X e (tG c wk (slG m) (denG m))
  | .name i, wk, X, sc, loc, N, e, g, h => by
    (simp only [chkE, chkT, chkW, chkA, chkC, chkG, chkGs, chkI, chkO] at h); split at h <;> first | (cases h; done) | skip
    (simp only [Bool.and_eq_true, decide_eq_true_eq, Bool.not_eq_true', beq_iff_eq] at h)
    obtain ⟨⟨h1, h2⟩, h3⟩ := h
    subst h1
    have nE : X.N.Nodup := by rw [g.nm]; exact g.nd
    exact jg_name nE (by rw [g.nm]; exact h2) (g.locv h3).1 (g.locv h3).2
  | .seq gs, wk, X, sc, loc, N, e, g, h => by
    (simp only [chkE, chkT, chkW, chkA, chkC, chkG, chkGs, chkI, chkO] at h); split at h <;> first | (cases h; done) | skip
    obtain ⟨h1, h2, h3⟩ := sdGs gs g h
    exact jg_seq g.hK g.calm h1 h2 h3
theorem sdGs : ∀ (m : MGs) {X : Cx} {sc loc : Scope} {N : List Str} {es : List Expr}, Good Has c X sc loc N → chkGs sc loc N m es = true → PGs X es (tGs c (slG.slGs m) (denGs m)) ∧ (assignEach es X.env).length = lenGs m ∧ (assignEach es X.env).findIdx? (·.1) = none
  | .nil, X, sc, loc, N, e, g, h => by
    (simp only [chkE, chkT, chkW, chkA, chkC, chkG, chkGs, chkI, chkO] at h); split at h <;> first | (cases h; done) | skip
    exact ⟨jgs_nil, rfl, rfl⟩
  | .cons a as, X, sc, loc, N, e, g, h => by
    (simp only [chkE, chkT, chkW, chkA, chkC, chkG, chkGs, chkI, chkO] at h); split at h <;> first | (cases h; done) | skip
    (simp only [Bool.and_eq_true, decide_eq_true_eq, Bool.not_eq_true', beq_iff_eq] at h)
    obtain ⟨h1, h2, h3⟩ := sdGs as g h.2
    refine ⟨jgs_cons (sdG a false g h.1.2) h1 (by rw [asg_no h.1.1]; rfl), by rw [asg_no h.1.1]; simp [lenGs, h2], ?_⟩
    rw [asg_no h.1.1, List.findIdx?_cons]
    simp [h3]
theorem sdI : ∀ (m : MI) {X : Cx} {sc loc : Scope} {N : List Str} {tg e : Expr}, Good Has c X sc loc N → chkI sc loc N m tg e = true → ndI Has m → PI X tg e (tI c (clI m) (wkI m) (denI m))
  | .seq a, X, sc, loc, N, tg, e, g, h, nd => by
    (simp only [chkE, chkT, chkW, chkA, chkC, chkG, chkGs, chkI, chkO] at h)
    exact ji_seq g.hK (tD_sz g.hK g.sys (sdE a g h nd))
  | .range1 as, X, sc, loc, N, tg, e, g, h, nd => by
    (simp only [chkE, chkT, chkW, chkA, chkC, chkG, chkGs, chkI, chkO] at h); split at h <;> first | (cases h; done) | skip
    (simp only [Bool.and_eq_true, decide_eq_true_eq, Bool.not_eq_true', beq_iff_eq] at h)
    obtain ⟨⟨⟨⟨h1, h2⟩, h3⟩, h4⟩, h5⟩ := h
    subst h1
    have q := tAs_sz g.hK g.sys (sdA as g h3 nd)
    rw [h4] at q
    exact ji_range1 (g.gl h2) (g.b "range" (by decide +kernel)) q (star_no h5)
  | .range2 as, X, sc, loc, N, tg, e, g, h, nd => by
    (simp only [chkE, chkT, chkW, chkA, chkC, chkG, chkGs, chkI, chkO] at h); split at h <;> first | (cases h; done) | skip
    (simp only [Bool.and_eq_true, decide_eq_true_eq, Bool.not_eq_true', beq_iff_eq] at h)
    obtain ⟨⟨⟨⟨⟨h1, h2⟩, h3⟩, h4⟩, h5⟩, h6⟩ := h
    subst h1
    have q := tAs_sz g.hK g.sys (sdA as g h3 nd)
    rw [h4] at q
    exact ji_range2 (g.gl h2) (g.b "range" (by decide +kernel)) q (by rw [star_no h5, star_no h6]; rfl) (star_no h6)
  | .enum as, X, sc, loc, N, tg, e, g, h, nd => by
    (simp only [chkE, chkT, chkW, chkA, chkC, chkG, chkGs, chkI, chkO] at h)
    simp only [Bool.and_eq_true] at h
    obtain ⟨h0, h⟩ := h
    obtain ⟨els, k, tp, rfl⟩ := isTup_of h0
    split at h <;> first | (cases h; done) | skip
    (simp only [Bool.and_eq_true, decide_eq_true_eq, Bool.not_eq_true', beq_iff_eq] at h)
    obtain ⟨⟨⟨h1, h2⟩, h3⟩, h4⟩ := h
    subst h1
    exact ji_enum g.hK (g.gl h2) (g.b "enumerate" (by decide +kernel)) (tAs_sz g.hK g.sys (sdA as g h3 nd)) (star_no h4)
  | .zip as, X, sc, loc, N, tg, e, g, h, nd => by
    (simp only [chkE, chkT, chkW, chkA, chkC, chkG, chkGs, chkI, chkO] at h)
    simp only [Bool.and_eq_true] at h
    obtain ⟨h0, h⟩ := h
    obtain ⟨els, k, tp, rfl⟩ := isTup_of h0
    split at h <;> first | (cases h; done) | skip
    (simp only [Bool.and_eq_true, decide_eq_true_eq, Bool.not_eq_true', beq_iff_eq] at h)
    obtain ⟨⟨⟨⟨h1, h2⟩, h3⟩, h4⟩, h5⟩ := h
    subst h1
    exact ji_zip g.hK (g.gl h2) (g.b "zip" (by decide +kernel)) (tAs_sz g.hK g.sys (sdA as g h3 nd)) (star_no h4) (plainArgs (by simp [h5]))
  | .zipS as, X, sc, loc, N, tg, e, g, h, nd => by
    (simp only [chkE, chkT, chkW, chkA, chkC, chkG, chkGs, chkI, chkO] at h)
    simp only [Bool.and_eq_true] at h
    obtain ⟨h0, h⟩ := h
    obtain ⟨els, k, tp, rfl⟩ := isTup_of h0
    split at h <;> first | (cases h; done) | skip
    (simp only [Bool.and_eq_true, decide_eq_true_eq, Bool.not_eq_true', beq_iff_eq] at h)
    obtain ⟨⟨⟨⟨⟨h1, h1'⟩, h2⟩, h3⟩, h4⟩, h5⟩ := h
    subst h1 h1'
    exact ji_zipS g.hK (g.gl h2) (g.b "zip" (by decide +kernel)) (tAs_sz g.hK g.sys (sdA as g h3 nd)) (star_no h4) (plainArgs (by simp [h4, h5]))
theorem sdO : ∀ (m : MO) {X : Cx} {sc loc : Scope} {N : List Str} {e : Option Expr}, Good Has c X sc loc N → chkO sc loc N m e = true → ndO Has m → PO X e (tO c (denO m))
  | .none, X, sc, loc, N, e, g, h, nd => by
    (simp only [chkE, chkT, chkW, chkA, chkC, chkG, chkGs, chkI, chkO] at h); split at h <;> first | (cases h; done) | skip
    exact jo_none
  | .some a, X, sc, loc, N, e, g, h, nd => by
    (simp only [chkE, chkT, chkW, chkA, chkC, chkG, chkGs, chkI, chkO] at h); split at h <;> first | (cases h; done) | skip
    exact jo_some (tD_sz g.hK g.sys (sdE a g h nd))
end
end
end Mi

set_option Elab.async false
set_option linter.all false
set_option maxRecDepth 100000
set_option maxHeartbeats 4000000
namespace Mi
open PySem PySem.Spec PyProof.Rows L2

theorem Rel.besideS {c : Ctl} {env : Env} {G F H H1 : Hp} {σ : L2.St} {p : Addr} {o : HO} {G0 F0 : Hp} (R0 : Rel c env G0 F0 σ H1) (R : Rel c env G F σ H) (st : Stp c.S G F H G0 F0 H1) (hp : H1 p = none) : F0 p = none ∧ c.H0 p = none ∧ ¬ IsSrc c.S p := by
  refine ⟨R0.ok.fh.free hp, ?_, fun ⟨a, l, e, z⟩ => ?_⟩
  · cases z : c.H0 p with
    | none => rfl
    | some o => exact absurd hp (R0.al p (by rw [z]; simp))
  · obtain ⟨_, _, _, _, _, _, _, e1, e2⟩ := R0.ok.wd a l e
    rcases z with z | z
    · rw [z, e1] at hp; cases hp
    · rw [z, e2] at hp; cases hp
theorem SlotR.beside {c : Ctl} {env : Env} {G F H : Hp} {σ : L2.St} {p : Addr} {o : HO} (R : Rel c env G F σ H) (hp : H p = none) : Rel c env G F σ (upd H p o) := by
  have q := Rel.besideS (o := o) R R (.refl R.ok) hp
  exact R.beside q.1 q.2.1 q.2.2
section
variable {X : Cx} {c : Ctl} {a b d : Expr} {pos : Pos}
/-- the slots of a pair, of three -/
theorem Rel.two {env : Env} {G F H G1 F1 H1 : Hp} {σ : L2.St} {i j : Nat} {s t : Slot} {v w : V} (R : Rel c env G F σ H) (st : Stp c.S G F H G1 F1 H1) (r : SlotsN c G1 F1 H [s, t] [v, w]) (hi : i < σ.length) (hj : j < σ.length) : Rel c ((env.set i s).set j t) G1 F1 ((σ.set i (some v)).set j (some w)) H1 := by
  obtain ⟨v', hv, rv⟩ := r.at' 0 s rfl
  obtain ⟨w', hw, rw'⟩ := r.at' 1 t rfl
  have ev : v = v' := by simpa using hv
  have ew : w = w' := by simpa using hw
  subst ev ew
  refine (R.setN st hi rv).setX (by simpa using hj) (rw'.slotR R) fun ds q e1 e2 k es hk e3 e4 => ?_
  subst e1 e2
  by_cases hki : k = i
  · subst hki
    rw [List.getElem?_set_self hi] at e4
    have hl : k < env.length := by
      have := (List.getElem?_eq_some_iff.mp e3).1
      simpa using this
    rw [List.getElem?_set_self hl] at e3
    cases e3
    exact r.ap 0 1 es ds q (by decide) rfl rfl (by simpa using e4) rfl
  · rw [List.getElem?_set_ne (Ne.symm hki)] at e3 e4
    obtain ⟨b, ws, eb, q1, q2, q3, q4⟩ := rw'
    cases eb
    obtain ⟨x, hx, b', ws', eb', q5, _⟩ := R.sl k _ e3 (by simp)
    rw [e4] at hx
    cases hx
    cases eb'
    rw [R.ok.fh _ _ q5] at q3
    cases q3
theorem Rel.three {env : Env} {G F H G1 F1 H1 : Hp} {σ : L2.St} {i j l : Nat} {s t q : Slot} {v w z : V} (R : Rel c env G F σ H) (st : Stp c.S G F H G1 F1 H1) (r : SlotsN c G1 F1 H [s, t, q] [v, w, z]) (hi : i < σ.length) (hj : j < σ.length) (hl : l < σ.length) :
    Rel c (((env.set i s).set j t).set l q) G1 F1 (((σ.set i (some v)).set j (some w)).set l (some z)) H1 := by
  obtain ⟨v', hv, rv⟩ := r.at' 0 s rfl
  obtain ⟨w', hw, rw'⟩ := r.at' 1 t rfl
  obtain ⟨z', hz, rz⟩ := r.at' 2 q rfl
  have ev : v = v' := by simpa using hv
  have ew : w = w' := by simpa using hw
  have ez : z = z' := by simpa using hz
  subst ev ew ez
  have up : ∀ {n : Nat} {x : Slot}, ([s, t] : List Slot)[n]? = some x → ([s, t, q] : List Slot)[n]? = some x := fun {n x} e => by
    match n with
    | 0 => exact e
    | 1 => exact e
    | n + 2 => cases e
  have up2 : ∀ {n : Nat} {x : V}, ([v, w] : List V)[n]? = some x → ([v, w, z] : List V)[n]? = some x := fun {n x} e => by
    match n with
    | 0 => exact e
    | 1 => exact e
    | n + 2 => cases e
  have r2 : SlotsN c G1 F1 H [s, t] [v, w] := by
    refine ⟨fun n x e => ?_, rfl, fun m n ds es a hmn e1 e2 h1 h2 => r.ap m n ds es a hmn (up e1) (up e2) (up2 h1) (up2 h2)⟩
    match n with
    | 0 => cases e; exact ⟨v, rfl, rv⟩
    | 1 => cases e; exact ⟨w, rfl, rw'⟩
    | n + 2 => cases e
  refine (R.two st r2 hi hj).setX (by simpa using hl) (rz.slotR R) fun ds p e1 e2 k es hk e3 e4 => ?_
  subst e1 e2
  have dead : H p = none := by
    obtain ⟨b, ws, eb, q1, q2, q3, q4⟩ := rz
    cases eb
    exact q3
  have inl : ∀ {e : Env} {m : Nat} {x y : Slot}, (e.set m x)[m]? = some y → y = x := fun {e m x y} h => by
    have hl : m < e.length := by
      have := (List.getElem?_eq_some_iff.mp h).1
      simpa using this
    rw [List.getElem?_set_self hl] at h
    exact (Option.some.inj h).symm
  by_cases hkj : k = j
  · subst hkj
    rw [List.getElem?_set_self (by simpa using hj)] at e4
    have := inl e3
    subst this
    exact r.ap 1 2 es ds p (by decide) rfl rfl (by simpa using e4) rfl
  · rw [List.getElem?_set_ne (Ne.symm hkj)] at e3 e4
    by_cases hki : k = i
    · subst hki
      rw [List.getElem?_set_self hi] at e4
      have := inl e3
      subst this
      exact r.ap 0 2 es ds p (by decide) rfl rfl (by simpa using e4) rfl
    · rw [List.getElem?_set_ne (Ne.symm hki)] at e3 e4
      obtain ⟨x, hx, b', ws', eb', q5, _⟩ := R.sl k _ e3 (by simp)
      rw [e4] at hx
      cases hx
      cases eb'
      rw [R.ok.fh _ _ q5] at dead
      cases dead
theorem js_par2c {i j : Nat} {x y : Str} {px py pt : Pos} {kt k2 pt2} {fs : Env → W (List Slot)} (hc : X.calm = true) (hN : X.N.Nodup) (hi : X.N[i]? = some x) (hj : X.N[j]? = some y)
    (hx : Loc X.env.scope x ∧ (X.fn x = true ∨ X.env.scope.names.lookup x = some .local)) (hy : Loc X.env.scope y ∧ (X.fn y = true ∨ X.env.scope.names.lookup y = some .local)) (ha : PA X [a, b] (tXs c fs)) (hw : swappedStores [.Tuple [.Name x px, .Name y py] kt pt] (.Tuple [a, b] k2 pt2) X.env = pure none) :
    PS X (.Assign [.Tuple [.Name x px, .Name y py] kt pt] (.Tuple [a, b] k2 pt2) pos) (tS c fun env E => fs env fun ss => match ss with | [s, t] => E.nx ((env.set i s).set j t) | _ => False) := by
  refine (ps_asg (pe_tup ha) (pg_tup hc (pgs_cons (pg_name hN hi hx.1 hx.2) (pgs_cons (pg_name hN hj hy.1 hy.2) pgs_nil))) rfl hw rfl).ofL fun D σ H hl ⟨env, G, F, E, R, hw, h1, h2, h3, h4⟩ => ?_
  have bd : ∀ {n : Nat} {w : Str}, X.N[n]? = some w → n < σ.length := fun e => by rw [hl]; exact (List.getElem?_eq_some_iff.mp e).1
  refine ⟨env, G, F, _, R, hw, fun ss vs G' F' H' hp st r => ?_⟩
  match ss, hp with
  | [s, t], hp =>
    have hl2 := r.len
    match vs, hl2 with
    | [v1, w1], _ =>
      refine ⟨by show 2 ≤ sizeLine; decide, fun p hpn => ⟨p, [v1, w1], rfl, .of upd_same, rfl, v1, [w1], rfl, w1, [], rfl, rfl, ?_⟩⟩
      exact h1 _ _ G' F' _ hp (SlotR.beside (R.two st r (bd hi) (bd hj)) hpn) st.g
theorem js_par3c {i j l : Nat} {x y z : Str} {px py pz pt : Pos} {kt k2 pt2} {fs : Env → W (List Slot)} (hc : X.calm = true) (hN : X.N.Nodup) (hi : X.N[i]? = some x) (hj : X.N[j]? = some y) (hl : X.N[l]? = some z)
    (hx : Loc X.env.scope x ∧ (X.fn x = true ∨ X.env.scope.names.lookup x = some .local)) (hy : Loc X.env.scope y ∧ (X.fn y = true ∨ X.env.scope.names.lookup y = some .local)) (hz : Loc X.env.scope z ∧ (X.fn z = true ∨ X.env.scope.names.lookup z = some .local)) (ha : PA X [a, b, d] (tXs c fs)) (hw : swappedStores [.Tuple [.Name x px, .Name y py, .Name z pz] kt pt] (.Tuple [a, b, d] k2 pt2) X.env = pure none) :
    PS X (.Assign [.Tuple [.Name x px, .Name y py, .Name z pz] kt pt] (.Tuple [a, b, d] k2 pt2) pos) (tS c fun env E => fs env fun ss => match ss with | [s, t, r] => E.nx (((env.set i s).set j t).set l r) | _ => False) := by
  refine (ps_asg (pe_tup ha) (pg_tup hc (pgs_cons (pg_name hN hi hx.1 hx.2) (pgs_cons (pg_name hN hj hy.1 hy.2) (pgs_cons (pg_name hN hl hz.1 hz.2) pgs_nil)))) rfl hw rfl).ofL fun D σ H hlen ⟨env, G, F, E, R, hw, h1, h2, h3, h4⟩ => ?_
  have bd : ∀ {n : Nat} {w : Str}, X.N[n]? = some w → n < σ.length := fun e => by rw [hlen]; exact (List.getElem?_eq_some_iff.mp e).1
  refine ⟨env, G, F, _, R, hw, fun ss vs G' F' H' hp st r => ?_⟩
  match ss, hp with
  | [s, t, q], hp =>
    have hl2 := r.len
    match vs, hl2 with
    | [v1, w1, z1], _ =>
      refine ⟨by show 3 ≤ sizeLine; decide, fun p hpn => ⟨p, [v1, w1, z1], rfl, .of upd_same, rfl, v1, [w1, z1], rfl, w1, [z1], rfl, z1, [], rfl, rfl, ?_⟩⟩
      exact h1 _ _ G' F' _ hp (SlotR.beside (R.three st r (bd hi) (bd hj) (bd hl)) hpn) st.g
end
theorem nlocal {env : PySem.Env} {x : Str} (h : env.kindOf x ≠ some .local) : (env.kindOf x == some NameKind.local) = false := by
  cases e : env.kindOf x with
  | none => rfl
  | some k =>
    rw [e] at h
    cases k <;> first | rfl | exact absurd rfl h
theorem ss_none2 {x y : Str} {px py pt pt2 : Pos} {kt k2 : Nat} {a b : Expr} {env : PySem.Env} (h : env.kindOf x ≠ some .local ∨ env.kindOf y ≠ some .local ∨ (foldedForSure 8 a && foldedForSure 8 b) = true) :
    swappedStores [.Tuple [.Name x px, .Name y py] kt pt] (.Tuple [a, b] k2 pt2) env = pure none := by
  unfold swappedStores
  have e1 : (Expr.Name x px).pos = px := rfl
  rcases h with h | h | h
  · have h := nlocal h
    simp [h, e1]
    grind
  · have h := nlocal h
    simp [h, e1]
    grind
  · have h' : [a, b].all (foldedForSure 8) = true := by simpa using h
    simp [h', e1]
theorem ss_none3 {x y z : Str} {px py pz pt pt2 : Pos} {kt k2 : Nat} {a b d : Expr} {env : PySem.Env} (h : env.kindOf x ≠ some .local ∨ env.kindOf y ≠ some .local ∨ env.kindOf z ≠ some .local ∨ (foldedForSure 8 a && foldedForSure 8 b && foldedForSure 8 d) = true) :
    swappedStores [.Tuple [.Name x px, .Name y py, .Name z pz] kt pt] (.Tuple [a, b, d] k2 pt2) env = pure none := by
  unfold swappedStores
  have e1 : (Expr.Name x px).pos = px := rfl
  rcases h with h | h | h | h
  · have h := nlocal h
    simp [h, e1]
    grind
  · have h := nlocal h
    simp [h, e1]
    grind
  · have hz := nlocal h
    by_cases hx : env.kindOf x = some .local <;> by_cases hy : env.kindOf y = some .local <;> by_cases hp : py.line = px.line <;> simp [h, hz, hx, hy, hp, e1]
  · have h' : [a, b, d].all (foldedForSure 8) = true := by simpa [and_assoc] using h
    simp [h', e1]
end Mi

set_option Elab.async false
set_option linter.all false
set_option maxRecDepth 100000
set_option maxHeartbeats 4000000
namespace Mi
open PySem PySem.Spec PyProof.Rows L2

/-! ### a walk over a lent list, while the body runs -/
def IterB (c : Ctl) (G0 : Hp) (J : It) (ds : List D) : Prop := ∃ Gp Y, Walk J ds.length Gp Y ∧ (∀ H, Frame c.S c.H0 H → Gp H) ∧
  ∀ (i : Nat) H x H' d, ds[i]? = some d → Y i H x H' → ∀ G F, Ok c.S G F H → Same G0 G → ∃ G' F', Stp c.S G F H G' F' H' ∧ RpY false c.K G' x d
def tIB (c : Ctl) (i : Nat) : TI := fun σ H R => ∃ env G F ds, Rel c env G F σ H ∧ env[i]? = some (.bor ds) ∧ ∀ J, IterB c G J ds → ds.length ≤ 16777216 → R J H
section
variable {X : Cx} {c : Ctl} {pos : Pos} {u : Env → EndsM → Prop}
theorem ji_bor (hK : c.K = X.K) (hs : SysOk X) {tg : Expr} {i : Nat} {x : Str} (hN : X.N[i]? = some x) (hv : Vis X.env.scope x) (hd : (x == ("__debug__" : Str)) = false) (hcd : (x == ("__classdict__" : Str)) = false) :
    PI X tg (.Name x pos) (tIB c i) := by
  refine ⟨fun pins s σ H R I ⟨env, G, F, ds, Rl, he, hq⟩ => ?_⟩
  have sz := sz_of hs I
  obtain ⟨x, h1, a, vs, rfl, h2, h3, h4⟩ := Rl.sl i _ he (by simp)
  have hH : H a = some (.lst vs) := Rl.ok.fh _ _ h3
  have nsrc : ¬ IsSrc c.S a := fun ⟨p, l, e, z⟩ => by
    obtain ⟨w1, w2, _, _⟩ := Rl.ok.wd p l e
    rcases z with z | z
    · rw [z, w1] at h3; cases h3
    · rw [z, w2] at h3; cases h3
  refine (pi_list (pe_var hN hv hd hcd)).run pins s σ H R I ⟨_, h1, a, rfl, ⟨vs, .of hH⟩, hq _ ?_ ?_⟩
  · refine ⟨fun H => SqL X.K H a vs, YAt vs, by rw [← h4.length]; exact walk_list, fun H' fr => .of (fr _ _ h2 nsrc), fun i H x H' d hd y G F ok hG => ?_⟩
    obtain ⟨rfl, hx⟩ := y
    obtain ⟨v, e1, e2⟩ := h4.at hd
    rw [e1] at hx
    cases hx
    exact ⟨G, F, .refl ok, e2.mono hG⟩
  · rw [← h4.length, ← sizeLine_eq]
    exact sz.2 a vs (.inl (.of hH))
theorem js_forB {tg : Expr} {i : Nat} {x : Str} {p : Pos} {body : List Stmt} {sl : List Nat} {gg : D → Env → W Env} (hx : PassesOwn (model X.prog X.w) X.A X.env X.xe) (hc : X.calm = true) (hi : PI X tg (.Name x p) (tIB c i)) (hg : PG X tg (tG c false sl gg)) (hb : PSs X body (tS c u)) :
    PS X (.For tg (.Name x p) body [] pos) (tS c fun env E => ∃ ds, env[i]? = some (.bor ds) ∧ forS gg u ds env E) := by
  refine (ps_for hx hc hi hg hb fun x => notSet_eq rfl x).of fun D σ H ⟨env, G, F, E, R, ⟨ds, he, hf⟩, h1, h2, h3, h4⟩ => ?_
  refine ⟨env, G, F, ds, R, he, fun J ⟨Gp, Y, wk', hGp, hY⟩ hlen => ?_⟩
  refine for_it wk' (fun i σ' H' => ∃ env' G' F', Rel c env' G' F' σ' H' ∧ Same G G' ∧ forS gg u (ds.drop i) env' E) ⟨env, G, F, R, .refl _, hf⟩ (fun i σ' H' _ ⟨env', G', F', R', sg, _⟩ => hGp _ R'.fr) (fun i x σ' H' H2 hlt ⟨env', G', F', R', sg, hf⟩ y => ?_) fun σ' H' ⟨env', G', F', R', sg, hf⟩ => ?_
  · have hd' : ds[i]? = some ds[i] := List.getElem?_eq_getElem hlt
    rw [List.drop_eq_getElem_cons hlt] at hf
    obtain ⟨G2, F2, st2, rx⟩ := hY i H' x H2 _ hd' y G' F' R'.ok sg
    refine ⟨env', G2, F2, _, _, R'.step st2, rx, hf, fun env3 σ3 h3' R3 _ => ⟨env3, G2, F2, _, R3, h3', ?_, h2, ?_, ?_⟩⟩
    · intro env4 σ4 G4 F4 H4 q R4 s4
      exact ⟨env4, G4, F4, R4, (sg.trans st2.g).trans s4, q⟩
    · intro env4 σ4 G4 F4 H4 q R4 s4
      exact h1 _ _ _ _ _ q R4 ((sg.trans st2.g).trans s4)
    · intro env4 σ4 G4 F4 H4 q R4 s4
      exact ⟨env4, G4, F4, R4, (sg.trans st2.g).trans s4, q⟩
  · rw [List.drop_eq_nil_of_le (Nat.le_refl _)] at hf
    exact h1 _ _ _ _ _ hf R' sg
end
end Mi

set_option Elab.async false
set_option linter.all false
set_option maxRecDepth 100000
set_option maxHeartbeats 4000000
namespace Mi
open PySem PySem.Spec PyProof.Rows L2

inductive MX
  | val (e : ME) | lstN (as : MA) | listN (e : ME) | rng1N (e : ME) | repN (a b : ME) | compN (own : List (Str × Nat)) (g : MG) (i : MI) (t : MT) (e : ME)
mutual
inductive MS
  | set (i : Nat) (x : MX) | asg (g : MG) (e : ME) | par2 (i j : Nat) (x y : MX) | par3 (i j l : Nat) (x y z : MX)
  | ret (e : ME) | retN | drop (e : ME) | doc | pass | brk | cnt | never
  | ite (t : MT) (p q : MSs) | for' (g : MG) (i : MI) (b : MSs) | whl (t : MT) (b : MSs) | forB (i : Nat) (g : MG) (b : MSs)
  | app (i : Nat) (e : ME) | pop (i j : Nat) | popAt (i j : Nat) (e : ME) | setI (i : Nat) (k e : ME)
  | frz (i : Nat) (s : MS)
  | srcLoop (i j : Nat) | srcSet (i : Nat) (k : SK) (e : ME) | mix (i j k : Nat) (pk : Str) (φ : Fm)
inductive MSs
  | nil | cons (s : MS) (ss : MSs)
end
def denX : MX → Env → W Slot
  | .val e => fun env P => denE e env fun d => P (.v d)
  | .lstN as => fun env P => denA as env fun ds => ds.length ≤ 16777216 ∧ P (.own ds)
  | .listN e => fun env P => denE e env fun d => itemsW d fun ds => P (.own ds)
  | .rng1N e => fun env P => denE e env fun d => range1W [d] fun ds => P (.own ds)
  | .repN a b => fun env P => denE a env fun d => (match d with | .list _ => True | _ => False) ∧ denE b env fun e => match d with | .list ds => repW ds e fun ds => P (.own ds) | _ => False
  | .compN own g i t e => fun env P => compF (denI i) (denG g) (denT t) (denE e) (own.map (·.2)) env fun ds => P (.own ds)
mutual
def denS : MS → Env → EndsM → Prop
  | .set i x => fun env E => denX x env fun s => E.nx (env.set i s)
  | .asg g e => fun env E => denE e env fun d => denG g d env E.nx
  | .par2 i j x y => fun env E => denX x env fun s => denX y env fun t => E.nx ((env.set i s).set j t)
  | .par3 i j l x y z => fun env E => denX x env fun s => denX y env fun t => denX z env fun r => E.nx (((env.set i s).set j t).set l r)
  | .ret e => fun env E => denE e env E.rt
  | .retN => fun _ E => E.rt .none
  | .drop e => fun env E => denE e env fun _ => E.nx env
  | .doc => fun env E => E.nx env
  | .pass => fun env E => E.nx env
  | .brk => fun env E => E.bk env
  | .cnt => fun env E => E.ct env
  | .never => fun _ _ => False
  | .ite t p q => fun env E => denT t env fun k => if k = true then denSs p env E else denSs q env E
  | .for' g i b => fun env E => denI i env fun ds => forS (denG g) (denSs b) ds env E
  | .whl t b => whileS (denT t) (denSs b)
  | .forB i g b => fun env E => ∃ ds, env[i]? = some (.bor ds) ∧ forS (denG g) (denSs b) ds env E
  | .app i e => appS i (denE e)
  | .pop i j => popS i j
  | .popAt i j e => popAtS i j (denE e)
  | .setI i k e => setItemS i (denE e) (denE k)
  | .frz i s => fun env E => ∃ ds, env[i]? = some (.own ds) ∧ denS s (env.set i (.v (.list ds))) E
  | .srcLoop i j => srcLoopS i j
  | .srcSet i _ e => srcSetS i (denE e)
  | .mix i j _ _ φ => mixS i j φ
def denSs : MSs → Env → EndsM → Prop
  | .nil => fun env E => E.nx env
  | .cons s ss => seqS (denS s) (denSs ss)
end
def notComp : Expr → Bool
  | .ListComp .. => false
  | .SetComp .. => false
  | .DictComp .. => false
  | _ => true
def notTup : Expr → Bool
  | .Tuple .. => false
  | _ => true
def chkX (sc loc : Scope) (N : List Str) : MX → Expr → Bool
  | .val m, e => chkE sc loc N m e && clE m
  | .lstN as, e => chkE sc loc N (.lst as) e
  | .listN m, e => chkE sc loc N (.listOf m) e
  | .rng1N m, e => chkE sc loc N (.listR1 m) e
  | .repN a b, e => chkE sc loc N (.rep a b) e
  | .compN own g i t k, e => chkE sc loc N (.comp own g i t k) e
def isLcl (sc : Scope) (x : Str) : Bool := match sc.names.lookup x with
  | some .local => true
  | _ => false
def lcl (sc : Scope) (N : List Str) (i : Nat) (x : Str) : Bool := decide (N[i]? = some x) && (match sc.names.lookup x with | some .local => true | _ => false)
mutual
def chkS (sc loc : Scope) (N : List Str) : MS → Stmt → Bool
  | .set i x, st => (match st with | .Assign [.Name y _] e _ => decide (N[i]? = some y) && locB sc loc y && chkX sc loc N x e | _ => false)
  | .asg g m, st => (match st with | .Assign [.Tuple ts k p] e _ => notTup e && chkG sc loc N false g (.Tuple ts k p) && chkE sc loc N m e && clE m | _ => false)
  | .par2 i j x y, st => (match st with
    | .Assign [.Tuple [.Name x' px, .Name y' py] _ _] (.Tuple [a, b] _ _) _ => decide (N[i]? = some x') && decide (N[j]? = some y') && locB sc loc x' && locB sc loc y' && decide (i ≠ j) && decide (x' ≠ y') && decide (px.line = py.line) && chkX sc loc N x a && chkX sc loc N y b && notStar a && notStar b &&
        (if isLcl sc x' && isLcl sc y' && !(foldedForSure 8 a && foldedForSure 8 b) then !(constantsAlone 8 a && constantsAlone 8 b) else true)
    | _ => false)
  | .par3 i j l x y z, st => (match st with
    | .Assign [.Tuple [.Name x' px, .Name y' py, .Name z' pz] _ _] (.Tuple [a, b, d] _ _) _ => decide (N[i]? = some x') && decide (N[j]? = some y') && decide (N[l]? = some z') && locB sc loc x' && locB sc loc y' && locB sc loc z' && decide (i ≠ j) && decide (i ≠ l) && decide (j ≠ l) && decide (x' ≠ y') && decide (x' ≠ z') && decide (y' ≠ z') &&
        decide (px.line = py.line) && decide (px.line = pz.line) && chkX sc loc N x a && chkX sc loc N y b && chkX sc loc N z d && notStar a && notStar b && notStar d &&
        (if isLcl sc x' && isLcl sc y' && isLcl sc z' && !(foldedForSure 8 a && foldedForSure 8 b && foldedForSure 8 d) then !(constantsAlone 8 a && constantsAlone 8 b && constantsAlone 8 d) else true)
    | _ => false)
  | .ret m, st => (match st with | .Return (some e) _ => chkE sc loc N m e && clE m | _ => false)
  | .retN, st => (match st with | .Return none _ => true | _ => false)
  | .drop m, st => (match st with | .Expr e _ => notComp e && chkE sc loc N m e | _ => false)
  | .doc, st => (match st with | .Expr (.Constant (.str _) _ _) _ => true | _ => false)
  | .pass, st => (match st with | .Pass _ => true | _ => false)
  | .brk, st => (match st with | .Break _ => true | _ => false)
  | .cnt, st => (match st with | .Continue _ => true | _ => false)
  | .never, _ => true
  | .ite t p q, st => (match st with | .If e p' q' _ => chkT sc loc N t e && chkSs sc loc N p p' && chkSs sc loc N q q' | _ => false)
  | .for' g i b, st => (match st with | .For tg it b' [] _ => chkI sc loc N i tg it && clI i && notSet it && chkG sc loc N (wkI i) g tg && chkSs sc loc N b b' | _ => false)
  | .whl t b, st => (match st with | .While e b' [] _ => chkT sc loc N t e && chkSs sc loc N b b' | _ => false)
  | .forB i g b, st => (match st with | .For tg (.Name y _) b' [] _ => nameB sc N i y && chkG sc loc N false g tg && chkSs sc loc N b b' | _ => false)
  | .app i m, st => (match st with | .Expr (.Call (.Attribute (.Name y _) z ap) [e] [] p2) _ => nameB sc N i y && decide (z = Str.ofString "append") && chkE sc loc N m e && clE m && notStar e && (ap.endLine == p2.line) | _ => false)
  | .pop i j, st => (match st with | .Assign [.Name x _] (.Call (.Attribute (.Name y _) z ap) [] [] p2) _ => decide (N[i]? = some x) && locB sc loc x && nameB sc N j y && decide (z = Str.ofString "pop") && (ap.endLine == p2.line) | _ => false)
  | .popAt i j m, st => (match st with | .Assign [.Name x _] (.Call (.Attribute (.Name y _) z ap) [e] [] p2) _ => decide (N[i]? = some x) && locB sc loc x && nameB sc N j y && decide (z = Str.ofString "pop") && (ap.endLine == p2.line) && chkE sc loc N m e && notStar e | _ => false)
  | .setI i k m, st => (match st with | .Assign [.Subscript (.Name y _) k' _] e _ => nameB sc N i y && chkE sc loc N k k' && plainIx k' && chkE sc loc N m e && clE m | _ => false)
  | .frz _ s, st => chkS sc loc N s st
  | .srcLoop i j, st => (match st with
    | .While (.BoolOp .And [.Compare (.Name y _) [.Gt] [.Constant (.int a1) _ _] _, .Compare (.Subscript (.Name x _) (.Constant (.str l1) _ _) _) [.Lt] [.Constant (.int a2) _ _] _,
        .Compare (.Call (.Name ln _) [.Subscript (.Name x2 _) (.Constant (.str c1) _ _) _] [] _) [.Gt] [.Constant (.int a3) _ _] _] _)
      [.Assign [.Subscript (.Name x3 _) (.Constant (.str l2) _ _) _] (.Call (.Attribute (.Subscript (.Name x4 _) (.Constant (.str c2) _ _) _) pp ap) [] [] cp) _] [] _ =>
        decide (a1 = 1 ∧ a2 = 2 ∧ a3 = 0 ∧ l1 = Str.ofString "left" ∧ l2 = Str.ofString "left" ∧ c1 = Str.ofString "cells" ∧ c2 = Str.ofString "cells" ∧ ln = Str.ofString "len" ∧ pp = Str.ofString "pop" ∧ x2 = x ∧ x3 = x ∧ x4 = x) && nameB sc N i x && nameB sc N j y && glB sc ln && (ap.endLine == cp.line)
    | _ => false)
  | .srcSet i q m, st => (match st with | .Assign [.Subscript (.Name x _) (.Constant (.str k) _ _) _] e _ => nameB sc N i x && decide (k = Str.ofString q.s) && chkE sc loc N m e | _ => false)
  | .mix i j k pk _, st => (match st with
    | .Return (some (.ListComp (.Call (.Attribute (.Name y _) pp p3) [.Call (.Name pk' _) [.Name x _, .Call (.Name l1 _) [.Name y1 _] [] _] [] _] [] p10) [⟨.Name z _, .Call (.Name rg _) [.Call (.Name l2 _) [.Name y2 _] [] _] [] _, [], as⟩] scope _)) _ =>
        decide (as = 0 ∧ pk' = pk ∧ l1 = Str.ofString "len" ∧ l2 = Str.ofString "len" ∧ rg = Str.ofString "range" ∧ pp = Str.ofString "pop" ∧ y1 = y ∧ y2 = y ∧ i ≠ k ∧ j ≠ k ∧ N[i]? = some x) && nameB sc N j y && okN x && okN pk && glB sc l1 && glB sc rg && blkC N sc scope [(z, k)] &&
          visB (relS scope sc) x && visB (relS scope sc) y && glB (relS scope sc) l1 && glB (relS scope sc) pk && locB (relS scope sc) scope z && (p3.endLine == p10.line)
    | _ => false)
def chkSs (sc loc : Scope) (N : List Str) : MSs → List Stmt → Bool
  | .nil, sts => (match sts with | [] => true | _ => false)
  | .cons s ss, sts => (match sts with | st :: sts' => chkS sc loc N s st && chkSs sc loc N ss sts' | _ => false)
end
def ndX (Has : Str → Nat → Fm → Prop) : MX → Prop
  | .val e => ndE Has e
  | .lstN as => ndA Has as
  | .listN e => ndE Has e
  | .rng1N e => ndE Has e
  | .repN a b => ndE Has a ∧ ndE Has b
  | .compN _ _ i t e => ndI Has i ∧ ndT Has t ∧ ndE Has e
mutual
def ndS (Has : Str → Nat → Fm → Prop) : MS → Prop
  | .set _ x => ndX Has x
  | .asg _ e => ndE Has e
  | .par2 _ _ x y => ndX Has x ∧ ndX Has y
  | .par3 _ _ _ x y z => ndX Has x ∧ ndX Has y ∧ ndX Has z
  | .ret e => ndE Has e
  | .drop e => ndE Has e
  | .ite t p q => ndT Has t ∧ ndSs Has p ∧ ndSs Has q
  | .for' _ i b => ndI Has i ∧ ndSs Has b
  | .forB _ _ b => ndSs Has b
  | .whl t b => ndT Has t ∧ ndSs Has b
  | .app _ e => ndE Has e
  | .popAt _ _ e => ndE Has e
  | .setI _ k e => ndE Has k ∧ ndE Has e
  | .frz _ s => ndS Has s
  | .srcSet _ _ e => ndE Has e
  | .mix _ _ _ pk φ => Has pk 2 φ
  | _ => True
def ndSs (Has : Str → Nat → Fm → Prop) : MSs → Prop
  | .nil => True
  | .cons s ss => ndS Has s ∧ ndSs Has ss
end
theorem sw_none {e : Expr} {t : Option Expr} {l : Nat} {env : PySem.Env} (h : notComp e = true) : swapsWith e t l env = pure false := by
  cases e <;> first
    | rfl
    | (simp [notComp] at h; done)
theorem sw_tup {e : Expr} {ts : List Expr} {k : Nat} {p : Pos} {l : Nat} {env : PySem.Env} : swapsWithSole [.Tuple ts k p] e l env = pure false := by
  cases e <;> rfl
theorem ss_notTup {e t : Expr} {env : PySem.Env} (h : notTup e = true) : swappedStores [t] e env = pure none := by
  cases e <;> first
    | (cases t <;> rfl)
    | (simp [notTup] at h; done)
theorem ss_sub {e a b : Expr} {p : Pos} {env : PySem.Env} : swappedStores [.Subscript a b p] e env = pure none := by
  cases e <;> rfl
theorem sw_sub {e a b : Expr} {p : Pos} {l : Nat} {env : PySem.Env} : swapsWithSole [.Subscript a b p] e l env = pure false := by
  cases e <;> rfl
theorem dd2 {x y : Str} (h : x ≠ y) : ([x, y].eraseDups).length = 2 := by
  rw [List.eraseDups_cons]
  have : ([y].filter fun b => !b == x) = [y] := by
    rw [List.filter_cons_of_pos]
    · rfl
    · simp; exact fun e => h e.symm
  rw [this]; rfl
theorem dd3 {x y z : Str} (h : x ≠ y) (h2 : x ≠ z) (h3 : y ≠ z) : ([x, y, z].eraseDups).length = 3 := by
  rw [List.eraseDups_cons]
  have : ([y, z].filter fun b => !b == x) = [y, z] := by
    rw [List.filter_cons_of_pos, List.filter_cons_of_pos]
    · rfl
    · simp; exact fun e => h2 e.symm
    · simp; exact fun e => h e.symm
  rw [this, List.length_cons, dd2 h3]
theorem anyS (a : Expr) : notStar a = true → (match a with | .Starred _ _ => true | _ => false) = false := by
  cases a <;> first
    | exact fun _ => rfl
    | (intro h; simp [notStar] at h; done)
theorem ss_par2 {x y : Str} {px py pt pt2 : Pos} {kt k2 : Nat} {a b : Expr} {env : PySem.Env} (hk : env.scope.kind = .function) (hx : env.kindOf x = some .local) (hy : env.kindOf y = some .local) (hl : px.line = py.line) (hne : x ≠ y) (na : notStar a = true) (nb : notStar b = true)
    (hf : (foldedForSure 8 a && foldedForSure 8 b) = false) (hc : (constantsAlone 8 a && constantsAlone 8 b) = false) :
    swappedStores [.Tuple [.Name x px, .Name y py] kt pt] (.Tuple [a, b] k2 pt2) env = pure (some [x, y]) := by
  have h1 := anyS a na
  have h2 := anyS b nb
  have hbk : env.blockKind = .function := by unfold Env.blockKind; rw [hk]; rfl
  have hd := dd2 hne
  have e1 : (Expr.Name x px).pos = px := rfl
  have e2 : (Expr.Name y py).pos = py := rfl
  unfold swappedStores
  have hf' : [a, b].all (foldedForSure 8) = false := by simp only [List.all_cons, List.all_nil, Bool.and_true]; exact hf
  have hc' : [a, b].all (constantsAlone 8) = false := by simp only [List.all_cons, List.all_nil, Bool.and_true]; exact hc
  simp only [hf', hc', hbk, hx, hy, hl, e1, e2, List.any_cons, List.any_nil, h1, h2, List.filterMap_cons, List.filterMap_nil, List.head?_cons, Option.map_some, Option.getD_some, List.length_cons, List.length_nil]
  simp [hd]
  intro h
  rcases h with h | h
  · exact Bool.noConfusion (h.symm.trans h1)
  · exact Bool.noConfusion (h.symm.trans h2)
theorem ss_par3 {x y z : Str} {px py pz pt pt2 : Pos} {kt k2 : Nat} {a b d : Expr} {env : PySem.Env} (hk : env.scope.kind = .function) (hx : env.kindOf x = some .local) (hy : env.kindOf y = some .local) (hz : env.kindOf z = some .local) (hl : px.line = py.line) (hl2 : px.line = pz.line) (hne : x ≠ y) (hne2 : x ≠ z) (hne3 : y ≠ z)
    (na : notStar a = true) (nb : notStar b = true) (nd : notStar d = true)
    (hf : (foldedForSure 8 a && foldedForSure 8 b && foldedForSure 8 d) = false) (hc : (constantsAlone 8 a && constantsAlone 8 b && constantsAlone 8 d) = false) :
    swappedStores [.Tuple [.Name x px, .Name y py, .Name z pz] kt pt] (.Tuple [a, b, d] k2 pt2) env = pure (some [x, y, z]) := by
  have h1 := anyS a na
  have h2 := anyS b nb
  have h3 := anyS d nd
  have hbk : env.blockKind = .function := by unfold Env.blockKind; rw [hk]; rfl
  have hd := dd3 hne hne2 hne3
  have e1 : (Expr.Name x px).pos = px := rfl
  have e2 : (Expr.Name y py).pos = py := rfl
  have e3 : (Expr.Name z pz).pos = pz := rfl
  unfold swappedStores
  have hf' : [a, b, d].all (foldedForSure 8) = false := by simp only [List.all_cons, List.all_nil, Bool.and_true, ← Bool.and_assoc]; exact hf
  have hc' : [a, b, d].all (constantsAlone 8) = false := by simp only [List.all_cons, List.all_nil, Bool.and_true, ← Bool.and_assoc]; exact hc
  simp only [hf', hc', hbk, hx, hy, hz, ← hl, ← hl2, e1, e2, e3, List.any_cons, List.any_nil, h1, h2, h3, List.filterMap_cons, List.filterMap_nil, List.head?_cons, Option.map_some, Option.getD_some, List.length_cons, List.length_nil]
  simp [hd]
  intro h
  rcases h with h | h | h
  · exact Bool.noConfusion (h.symm.trans h1)
  · exact Bool.noConfusion (h.symm.trans h2)
  · exact Bool.noConfusion (h.symm.trans h3)
theorem sub_eq {o b : Expr} {p : Pos} {env : PySem.Env} (h : plainIx b = true) (v : Value) : assign (.Subscript o b p) env v = (do
      let ov ← holding [v] (eval o env)
      let iv ← holding [v, ov] (eval b env)
      standAt p
      holding [v, ov, iv] (setItem ov iv v)
      release [v, ov, iv] []) := by
  cases b <;> first
    | rfl
    | (simp [plainIx] at h; done)
section
variable {Has : Str → Nat → Fm → Prop} {c : Ctl}
def isCompX : MX → Bool
  | .val (.comp ..) => true
  | .compN .. => true
  | _ => false
theorem Good.lcl (g : Good Has c X sc loc N) {i : Nat} {x : Str} (h : lcl sc N i x = true) : X.N[i]? = some x ∧ X.env.scope.names.lookup x = some .local := by
  unfold Mi.lcl at h
  simp only [Bool.and_eq_true, decide_eq_true_eq] at h
  obtain ⟨h1, h2⟩ := h
  refine ⟨by rw [g.nm]; exact h1, ?_⟩
  rw [g.scp]
  split at h2
  · assumption
  · cases h2
theorem Good.isl (g : Good Has c X sc loc N) {x : Str} (h : isLcl sc x = true) : X.env.scope.names.lookup x = some .local := by
  unfold isLcl at h
  rw [g.scp]
  split at h
  · assumption
  · cases h
theorem Good.nisl (g : Good Has c X sc loc N) {x : Str} (h : ¬ isLcl sc x = true) : X.env.kindOf x ≠ some .local := fun z => h (by
  have z : X.env.scope.names.lookup x = some .local := z
  rw [g.scp] at z
  unfold isLcl
  rw [z])
theorem Good.ndX (g : Good Has c X sc loc N) : X.N.Nodup := by rw [g.nm]; exact g.nd
theorem sdX (m : MX) {X : Cx} {sc loc : Scope} {N : List Str} {e : Expr} (g : Good Has c X sc loc N) (h : chkX sc loc N m e = true) (nd : Mi.ndX Has m) : PE X e (tX c (denX m)) := by
  cases m with
  | val m =>
    unfold chkX at h
    (simp only [Bool.and_eq_true, decide_eq_true_eq, Bool.not_eq_true', beq_iff_eq] at h)
    have q := sdE m g h.1 nd
    rw [h.2] at q
    exact jx_val q
  | lstN as =>
    unfold chkX at h
    simp only [chkE] at h
    split at h <;> first | (cases h; done) | skip
    (simp only [Bool.and_eq_true, decide_eq_true_eq, Bool.not_eq_true', beq_iff_eq] at h)
    have q := tAs_sz g.hK g.sys (sdA as g h.1 nd)
    rw [h.2] at q
    exact jx_new (jf_lst q)
  | listN a =>
    unfold chkX at h
    simp only [chkE] at h
    split at h <;> first | (cases h; done) | skip
    (simp only [Bool.and_eq_true, decide_eq_true_eq, Bool.not_eq_true', beq_iff_eq] at h)
    obtain ⟨⟨⟨h1, h2⟩, h3⟩, h4⟩ := h
    subst h1
    exact jx_new (jf_listOf g.hK (g.gl h2) (g.b "list" (by decide +kernel)) h4 (tD_sz g.hK g.sys (sdE a g h3 nd)))
  | rng1N a =>
    unfold chkX at h
    simp only [chkE] at h
    split at h <;> first | (cases h; done) | skip
    (simp only [Bool.and_eq_true, decide_eq_true_eq, Bool.not_eq_true', beq_iff_eq] at h)
    obtain ⟨⟨⟨⟨⟨h1, h2⟩, h3⟩, h4⟩, h5⟩, h6⟩ := h
    subst h1 h2
    exact jx_new (jf_listR1 g.calm (g.gl h3) (g.b "list" (by decide +kernel)) (g.gl h4) (g.b "range" (by decide +kernel)) h6 (tD_sz g.hK g.sys (sdE a g h5 nd)))
  | repN a b =>
    unfold chkX at h
    simp only [chkE] at h
    split at h <;> first | (cases h; done) | skip
    (simp only [Bool.and_eq_true, decide_eq_true_eq, Bool.not_eq_true', beq_iff_eq] at h)
    exact jx_new (jf_rep g.hK (tD_sz g.hK g.sys (sdE a g h.1 nd.1)) (tD_sz g.hK g.sys (sdE b g h.2 nd.2)))
  | compN own gg i t k =>
    unfold chkX at h
    simp only [chkE] at h
    split at h <;> first | (cases h; done) | skip
    rename_i k' tg iter ifs z scope p
    simp only [Bool.and_eq_true, beq_iff_eq, List.all_eq_true, decide_eq_true_eq] at h
    obtain ⟨⟨⟨⟨⟨⟨⟨⟨h1, h2⟩, h3⟩, h4⟩, h5⟩, h6⟩, h7⟩, h8⟩, h9⟩ := h
    subst h1
    refine jx_new (jf_comp g.calm g.ndX h5 (sdI i g h2 nd.1) (by rw [g.nm, g.scp]; exact blkOk_by h4) (fun s H C cl fp => sdG gg _ (g.blk scope s H C cl fp) h6) (fun s H C cl fp => ?_) (fun s H C cl fp => ?_) h3)
    · split at h7
      · have e : t = .yes := by
          cases t <;> first | rfl | (simp [isYes] at h7; done)
        subst e
        exact jts_nil
      · exact jts_one (sdT t (g.blk scope s H C cl fp) h7 nd.2.1)
      · cases h7
    · have g' := g.blk scope s H C cl fp
      have q := tD_sz g'.hK g'.sys (sdE k g' h8 nd.2.2)
      rw [h9] at q
      exact q
/-- name = [..], both ways -/
theorem sd_setC {fx : Env → W Slot} {own : List (Str × Nat)} {gg : MG} {i : MI} {t : MT} {k : ME} {j : Nat} {y : Str} {p : Pos} {pos : Pos} {X : Cx} {sc loc : Scope} {N : List Str} {e : Expr} (g : Good Has c X sc loc N) (hk : sc.kind = .function) (hj : N[j]? = some y) (hl : locB sc loc y = true)
    (h : chkE sc loc N (.comp own gg i t k) e = true) (nd : ndE Has (.comp own gg i t k)) (hx : ∀ σ H Q, tX c fx σ H Q → tF c (compF (denI i) (denG gg) (denT t) (denE k) (own.map (·.2))) σ H Q) (hpe : PE X e (tX c fx)) :
    PS X (.Assign [.Name y p] e pos) (tS c fun env E => fx env fun s => E.nx (env.set j s)) := by
  simp only [chkE] at h
  split at h <;> first | (cases h; done) | skip
  rename_i k' tg iter ifs z scope p'
  simp only [Bool.and_eq_true, beq_iff_eq, List.all_eq_true, decide_eq_true_eq] at h
  obtain ⟨⟨⟨⟨⟨⟨⟨⟨h1, h2⟩, h3⟩, h4⟩, h5⟩, h6⟩, h7⟩, h8⟩, h9⟩ := h
  subst h1
  have hN : X.N[j]? = some y := by rw [g.nm]; exact hj
  have sw : ∀ b : Bool, (X.env.blockKind == .function && X.env.kindOf y == some .local && p.line == p'.line && !(scope.names.any fun (n, k) => n == y && (k == .local || k == .cell))) = b →
      swapsWith (.ListComp k' [⟨tg, iter, ifs, 0⟩] scope p') (some (.Name y p)) pos.line X.env = pure b := fun b e => by rw [← e]; rfl
  cases e : (X.env.blockKind == .function && X.env.kindOf y == some .local && p.line == p'.line && !(scope.names.any fun (n, k) => n == y && (k == .local || k == .cell))) with
  | false => exact js_set g.ndX hN (g.locv hl).1 hpe (sw _ e) (g.locv hl).2
  | true =>
    have hyl : X.env.scope.names.lookup y = some .local := by
      simp only [Bool.and_eq_true, beq_iff_eq] at e
      exact e.1.1.2
    refine js_setLc g.calm g.ndX h5 hN hyl (sw _ e) (sdI i g h2 nd.1) (by rw [g.nm, g.scp]; exact blkOk_by h4) (fun s H C cl fp => sdG gg _ (g.blk scope s H C cl fp) h6) (fun s H C cl fp => ?_) (fun s H C cl fp => ?_) h3 hx
    · split at h7
      · have e : t = .yes := by
          cases t <;> first | rfl | (simp [isYes] at h7; done)
        subst e
        exact jts_nil
      · exact jts_one (sdT t (g.blk scope s H C cl fp) h7 nd.2.1)
      · cases h7
    · have g' := g.blk scope s H C cl fp
      have q := tD_sz g'.hK g'.sys (sdE k g' h8 nd.2.2)
      rw [h9] at q
      exact q
theorem notComp_of {sc loc : Scope} {N : List Str} {m : ME} {e : Expr} (h : chkE sc loc N m e = true) : notComp e = true ∨ ∃ own g i t k, m = .comp own g i t k := by
  cases e <;> first
    | exact .inl rfl
    | (cases m <;> first
        | exact .inr ⟨_, _, _, _, _, rfl⟩
        | (simp [chkE] at h; done))
theorem sd_set (m : MX) {j : Nat} {y : Str} {p pos : Pos} {X : Cx} {sc loc : Scope} {N : List Str} {e : Expr} (g : Good Has c X sc loc N) (hk : sc.kind = .function) (hj : N[j]? = some y) (hl : locB sc loc y = true) (h : chkX sc loc N m e = true) (nd : Mi.ndX Has m) :
    PS X (.Assign [.Name y p] e pos) (tS c fun env E => denX m env fun s => E.nx (env.set j s)) := by
  have hpe := sdX m g h nd
  have hN : X.N[j]? = some y := by rw [g.nm]; exact hj
  have plain : notComp e = true → PS X (.Assign [.Name y p] e pos) (tS c fun env E => denX m env fun s => E.nx (env.set j s)) := fun hn => js_set g.ndX hN (g.locv hl).1 hpe (sw_none hn) (g.locv hl).2
  cases m with
  | val m =>
    unfold chkX at h
    simp only [Bool.and_eq_true] at h
    rcases notComp_of h.1 with hn | ⟨own, gg, i, t, k, rfl⟩
    · exact plain hn
    · exact sd_setC g hk hj hl h.1 nd (fun σ H Q q => d_new (x_val q)) hpe
  | compN own gg i t k =>
    exact sd_setC g hk hj hl h nd (fun σ H Q q => x_new q) hpe
  | lstN as => exact plain ((notComp_of h).elim id fun ⟨_, _, _, _, _, z⟩ => nomatch z)
  | listN as => exact plain ((notComp_of h).elim id fun ⟨_, _, _, _, _, z⟩ => nomatch z)
  | rng1N as => exact plain ((notComp_of h).elim id fun ⟨_, _, _, _, _, z⟩ => nomatch z)
  | repN a b => exact plain ((notComp_of h).elim id fun ⟨_, _, _, _, _, z⟩ => nomatch z)
mutual
theorem sdS : ∀ (m : MS) {X : Cx} {sc loc : Scope} {N : List Str} {st : Stmt}, Good Has c X sc loc N → sc.kind = .function → chkS sc loc N m st = true → ndS Has m → PS X st (tS c (denS m))
  | .set i x, X, sc, loc, N, st, g, hk, h, nd => by
    (simp only [chkS, chkSs] at h); split at h <;> first | (cases h; done) | skip
    (simp only [Bool.and_eq_true, decide_eq_true_eq, Bool.not_eq_true', beq_iff_eq] at h)
    exact sd_set x g hk h.1.1 h.1.2 h.2 nd
  | .asg gg m, X, sc, loc, N, st, g, hk, h, nd => by
    (simp only [chkS, chkSs] at h); split at h <;> first | (cases h; done) | skip
    (simp only [Bool.and_eq_true, decide_eq_true_eq, Bool.not_eq_true', beq_iff_eq] at h)
    have q := sdE m g h.1.2 nd
    rw [h.2] at q
    exact js_asg q (sdG gg false g h.1.1.2) sw_tup (ss_notTup h.1.1.1) rfl
  | .par2 i j x y, X, sc, loc, N, st, g, hk, h, nd => by
    (simp only [chkS, chkSs] at h); split at h <;> first | (cases h; done) | skip
    (simp only [Bool.and_eq_true, decide_eq_true_eq, Bool.not_eq_true', beq_iff_eq] at h)
    obtain ⟨⟨⟨⟨⟨⟨⟨⟨⟨⟨⟨n1, n2⟩, c1⟩, c2⟩, hij⟩, hxy⟩, hl⟩, x1⟩, x2⟩, s1⟩, s2⟩, hh⟩ := h
    have a1 := n1
    rw [← g.nm] at a1
    have a2 := n2
    rw [← g.nm] at a2
    have args := jxs_cons s1 (sdX x g x1 nd.1) (jxs_cons s2 (sdX y g x2 nd.2) jxs_nil)
    split at hh
    · rename_i h0
      simp only [Bool.and_eq_true, Bool.not_eq_true'] at h0 hh
      have q1 := g.isl h0.1.1
      have q2 := g.isl h0.1.2
      exact js_par2 g.calm g.ndX a1 a2 hij q1 q2 args (ss_par2 (by rw [g.scp]; exact hk) q1 q2 hl hxy s1 s2 h0.2 hh)
    · rename_i h0
      refine js_par2c g.calm g.ndX a1 a2 (g.locv c1) (g.locv c2) args (ss_none2 ?_)
      rcases Classical.not_and_iff_not_or_not.mp h0 with h0 | h0
      · rcases Classical.not_and_iff_not_or_not.mp h0 with h0 | h0
        · exact .inl (g.nisl h0)
        · exact .inr (.inl (g.nisl h0))
      · exact .inr (.inr (by simpa using h0))
  | .par3 i j l x y z, X, sc, loc, N, st, g, hk, h, nd => by
    (simp only [chkS, chkSs] at h); split at h <;> first | (cases h; done) | skip
    (simp only [Bool.and_eq_true, decide_eq_true_eq, Bool.not_eq_true', beq_iff_eq] at h)
    obtain ⟨⟨⟨⟨⟨⟨⟨⟨⟨⟨⟨⟨⟨⟨⟨⟨⟨⟨⟨⟨n1, n2⟩, n3⟩, c1⟩, c2⟩, c3⟩, i1⟩, i2⟩, i3⟩, e1⟩, e2⟩, e3⟩, l1⟩, l2⟩, x1⟩, x2⟩, x3⟩, s1⟩, s2⟩, s3⟩, hh⟩ := h
    have a1 := n1
    rw [← g.nm] at a1
    have a2 := n2
    rw [← g.nm] at a2
    have a3 := n3
    rw [← g.nm] at a3
    have args := jxs_cons s1 (sdX x g x1 nd.1) (jxs_cons s2 (sdX y g x2 nd.2.1) (jxs_cons s3 (sdX z g x3 nd.2.2) jxs_nil))
    split at hh
    · rename_i h0
      simp only [Bool.and_eq_true, Bool.not_eq_true'] at h0 hh
      have q1 := g.isl h0.1.1.1
      have q2 := g.isl h0.1.1.2
      have q3 := g.isl h0.1.2
      exact js_par3 g.calm g.ndX a1 a2 a3 i1 i2 i3 q1 q2 q3 args (ss_par3 (by rw [g.scp]; exact hk) q1 q2 q3 l1 l2 e1 e2 e3 s1 s2 s3 h0.2 hh)
    · rename_i h0
      refine js_par3c g.calm g.ndX a1 a2 a3 (g.locv c1) (g.locv c2) (g.locv c3) args (ss_none3 ?_)
      rcases Classical.not_and_iff_not_or_not.mp h0 with h0 | h0
      · rcases Classical.not_and_iff_not_or_not.mp h0 with h0 | h0
        · rcases Classical.not_and_iff_not_or_not.mp h0 with h0 | h0
          · exact .inl (g.nisl h0)
          · exact .inr (.inl (g.nisl h0))
        · exact .inr (.inr (.inl (g.nisl h0)))
      · exact .inr (.inr (.inr (by simpa [and_assoc] using h0)))
  | .ret m, X, sc, loc, N, st, g, hk, h, nd => by
    (simp only [chkS, chkSs] at h); split at h <;> first | (cases h; done) | skip
    (simp only [Bool.and_eq_true, decide_eq_true_eq, Bool.not_eq_true', beq_iff_eq] at h)
    have q := sdE m g h.1 nd
    rw [h.2] at q
    exact js_ret q
  | .retN, X, sc, loc, N, st, g, hk, h, nd => by
    (simp only [chkS, chkSs] at h); split at h <;> first | (cases h; done) | skip
    exact js_retN
  | .drop m, X, sc, loc, N, st, g, hk, h, nd => by
    (simp only [chkS, chkSs] at h); split at h <;> first | (cases h; done) | skip
    (simp only [Bool.and_eq_true, decide_eq_true_eq, Bool.not_eq_true', beq_iff_eq] at h)
    exact js_drop (sdE m g h.2 nd) (sw_none h.1)
  | .doc, X, sc, loc, N, st, g, hk, h, nd => by
    (simp only [chkS, chkSs] at h); split at h <;> first | (cases h; done) | skip
    exact js_doc
  | .pass, X, sc, loc, N, st, g, hk, h, nd => by
    (simp only [chkS, chkSs] at h); split at h <;> first | (cases h; done) | skip
    exact js_pass
  | .brk, X, sc, loc, N, st, g, hk, h, nd => by
    (simp only [chkS, chkSs] at h); split at h <;> first | (cases h; done) | skip
    exact js_break
  | .cnt, X, sc, loc, N, st, g, hk, h, nd => by
    (simp only [chkS, chkSs] at h); split at h <;> first | (cases h; done) | skip
    exact js_cont
  | .never, X, sc, loc, N, st, g, hk, h, nd => js_never
  | .ite t p q, X, sc, loc, N, st, g, hk, h, nd => by
    (simp only [chkS, chkSs] at h); split at h <;> first | (cases h; done) | skip
    (simp only [Bool.and_eq_true, decide_eq_true_eq, Bool.not_eq_true', beq_iff_eq] at h)
    exact js_if (sdT t g h.1.1 nd.1) (sdSs p g hk h.1.2 nd.2.1) (sdSs q g hk h.2 nd.2.2)
  | .for' gg i b, X, sc, loc, N, st, g, hk, h, nd => by
    (simp only [chkS, chkSs] at h); split at h <;> first | (cases h; done) | skip
    (simp only [Bool.and_eq_true, decide_eq_true_eq, Bool.not_eq_true', beq_iff_eq] at h)
    obtain ⟨⟨⟨⟨h1, h2⟩, h3⟩, h4⟩, h5⟩ := h
    have q := sdI i g h1 nd.1
    rw [h2] at q
    exact js_for g.xe g.calm q (sdG gg _ g h4) (sdSs b g hk h5 nd.2) h3
  | .whl t b, X, sc, loc, N, st, g, hk, h, nd => by
    (simp only [chkS, chkSs] at h); split at h <;> first | (cases h; done) | skip
    (simp only [Bool.and_eq_true, decide_eq_true_eq, Bool.not_eq_true', beq_iff_eq] at h)
    exact js_while g.xe (sdT t g h.1 nd.1) (sdSs b g hk h.2 nd.2)
  | .forB i gg b, X, sc, loc, N, st, g, hk, h, nd => by
    (simp only [chkS, chkSs] at h); split at h <;> first | (cases h; done) | skip
    (simp only [Bool.and_eq_true, decide_eq_true_eq, Bool.not_eq_true', beq_iff_eq] at h)
    obtain ⟨h1, h2, h3, h4⟩ := g.name h.1.1
    exact js_forB g.xe g.calm (ji_bor g.hK g.sys h1 h2 h3 h4) (sdG gg _ g h.1.2) (sdSs b g hk h.2 nd)
  | .app i m, X, sc, loc, N, st, g, hk, h, nd => by
    (simp only [chkS, chkSs] at h); split at h <;> first | (cases h; done) | skip
    (simp only [Bool.and_eq_true, decide_eq_true_eq, Bool.not_eq_true', beq_iff_eq] at h)
    obtain ⟨⟨⟨⟨⟨h1, h2⟩, h3⟩, h4⟩, h5⟩, h6⟩ := h
    subst h2
    obtain ⟨n1, n2, n3, n4⟩ := g.name h1
    have q := tD_sz g.hK g.sys (sdE m g h3 nd)
    rw [h4] at q
    exact js_app n1 n2 n3 n4 h5 q (by rw [h6]; exact beq_self_eq_true _) rfl
  | .pop i j, X, sc, loc, N, st, g, hk, h, nd => by
    (simp only [chkS, chkSs] at h); split at h <;> first | (cases h; done) | skip
    (simp only [Bool.and_eq_true, decide_eq_true_eq, Bool.not_eq_true', beq_iff_eq] at h)
    obtain ⟨⟨⟨⟨h1, h2⟩, h3⟩, h4⟩, h5⟩ := h
    subst h4
    obtain ⟨n1, n2, n3, n4⟩ := g.name h3
    exact js_pop g.ndX (by rw [g.nm]; exact h1) (g.locv h2).1 (g.locv h2).2 n1 n2 n3 n4 (by rw [h5]; exact beq_self_eq_true _) rfl
  | .popAt i j m, X, sc, loc, N, st, g, hk, h, nd => by
    (simp only [chkS, chkSs] at h); split at h <;> first | (cases h; done) | skip
    (simp only [Bool.and_eq_true, decide_eq_true_eq, Bool.not_eq_true', beq_iff_eq] at h)
    obtain ⟨⟨⟨⟨⟨⟨h1, h2⟩, h3⟩, h4⟩, h5⟩, h6⟩, h7⟩ := h
    subst h4
    obtain ⟨n1, n2, n3, n4⟩ := g.name h3
    exact js_popAt g.ndX (by rw [g.nm]; exact h1) (g.locv h2).1 (g.locv h2).2 n1 n2 n3 n4 h7 (tD_sz g.hK g.sys (sdE m g h6 nd)) (by rw [h5]; exact beq_self_eq_true _) rfl
  | .setI i k m, X, sc, loc, N, st, g, hk, h, nd => by
    (simp only [chkS, chkSs] at h); split at h <;> first | (cases h; done) | skip
    (simp only [Bool.and_eq_true, decide_eq_true_eq, Bool.not_eq_true', beq_iff_eq] at h)
    obtain ⟨⟨⟨⟨h1, h2⟩, h3⟩, h4⟩, h5⟩ := h
    obtain ⟨n1, n2, n3, n4⟩ := g.name h1
    have q := tD_sz g.hK g.sys (sdE m g h4 nd.2)
    rw [h5] at q
    exact js_setItem n1 n2 n3 n4 q (tD_sz g.hK g.sys (sdE k g h2 nd.1)) (sub_eq h3) sw_sub ss_sub
  | .frz i s, X, sc, loc, N, st, g, hk, h, nd => by
    (simp only [chkS, chkSs] at h)
    exact js_frz (sdS s g hk h nd)
  | .srcLoop i j, X, sc, loc, N, st, g, hk, h, nd => by
    (simp only [chkS, chkSs] at h); split at h <;> first | (cases h; done) | skip
    (simp only [Bool.and_eq_true, decide_eq_true_eq, Bool.not_eq_true', beq_iff_eq] at h)
    obtain ⟨⟨⟨⟨⟨rfl, rfl, rfl, rfl, rfl, rfl, rfl, rfl, rfl, rfl, rfl, rfl⟩, h2⟩, h3⟩, h4⟩, h5⟩ := h
    obtain ⟨n1, n2, n3, n4⟩ := g.name h2
    obtain ⟨m1, m2, m3, m4⟩ := g.name h3
    exact js_srcLoop (by have := g.un; omega) g.xe n1 n2 n3 n4 m1 m2 m3 m4 (g.gl h4) (g.b "len" (by decide +kernel)) (by rw [h5]; exact beq_self_eq_true _)
  | .srcSet i q m, X, sc, loc, N, st, g, hk, h, nd => by
    (simp only [chkS, chkSs] at h); split at h <;> first | (cases h; done) | skip
    (simp only [Bool.and_eq_true, decide_eq_true_eq, Bool.not_eq_true', beq_iff_eq] at h)
    obtain ⟨⟨h1, h2⟩, h3⟩ := h
    obtain ⟨n1, n2, n3, n4⟩ := g.name h1
    exact js_srcSet q (by have := g.un; omega) n1 n2 n3 n4 h2 (tD_sz g.hK g.sys (sdE m g h3 nd)) sw_sub ss_sub
  | .mix i j k pk φ, X, sc, loc, N, st, g, hk, h, nd => by
    (simp only [chkS, chkSs] at h); split at h <;> first | (cases h; done) | skip
    (simp only [Bool.and_eq_true, decide_eq_true_eq, Bool.not_eq_true', beq_iff_eq] at h)
    obtain ⟨⟨⟨⟨⟨⟨⟨⟨⟨⟨⟨⟨⟨rfl, rfl, rfl, rfl, rfl, rfl, rfl, rfl, hik, hjk, hx⟩, h2⟩, h3⟩, h4⟩, h5⟩, h6⟩, h7⟩, h8⟩, h9⟩, h10⟩, h11⟩, h12⟩, h13⟩ := h
    obtain ⟨n1, n2, n3, n4⟩ := g.name h2
    unfold okN at h3 h4
    simp only [Bool.and_eq_true, Bool.not_eq_true'] at h3 h4
    refine js_mix g.hK g.sys g.gu g.calm g.ndX hik hjk (by rw [g.nm]; exact hx) n1 n2 h3.1 h3.2 n3 n4 h4.1 (g.has _ _ _ nd) (g.b "len" (by decide +kernel)) (g.b "range" (by decide +kernel)) (g.gl h5) (g.gl h6) (by rw [g.nm, g.scp]; exact blkOk_by h7) (fun s H C cl fp => ?_) (by rw [h13]; exact beq_self_eq_true _)
    have g' := g.blk ‹Scope› s H C cl fp
    exact ⟨g'.vis h8, g'.vis h9, g'.gl h10, g'.gl h11, (g'.locv h12).1, (g'.locv h12).2⟩
theorem sdSs : ∀ (m : MSs) {X : Cx} {sc loc : Scope} {N : List Str} {sts : List Stmt}, Good Has c X sc loc N → sc.kind = .function → chkSs sc loc N m sts = true → ndSs Has m → PSs X sts (tS c (denSs m))
  | .nil, X, sc, loc, N, st, g, hk, h, nd => by
    (simp only [chkS, chkSs] at h); split at h <;> first | (cases h; done) | skip
    exact jss_nil
  | .cons s ss, X, sc, loc, N, st, g, hk, h, nd => by
    (simp only [chkS, chkSs] at h); split at h <;> first | (cases h; done) | skip
    (simp only [Bool.and_eq_true, decide_eq_true_eq, Bool.not_eq_true', beq_iff_eq] at h)
    exact jss_cons (sdS s g hk h.1 nd.1) (sdSs ss g hk h.2 nd.2)
end
end
/-! ### a def by its text -/
/-- what is known of the text's other defs -/
def HasFn (P : Program) (w : World) (K : PySem.W.Frag) (mg : Str → Option Value) (base : Heap) (k : Nat) : Str → Nat → Fm → Prop := fun x n φ =>
  ∃ (j : Nat) (f : Addr) (fd : FuncData) (ps : List Str), j ≤ k ∧ FnG P w K mg base j f fd ps (spW K n φ) ∧ mg x = some (.ref f) ∧ PySem.W.keepIn K (.ref f) = true ∧ Binds K fd ps []
structure TextOk (K : PySem.W.Frag) (mg : Str → Option Value) (base : Heap) : Prop where
  sys : ∃ o, base.get? sysModules = some o
  bn : ∀ x ∈ bltNames, mg x = none
theorem FnG.mono {P : Program} {w : World} {K : PySem.W.Frag} {mg : Str → Option Value} {base : Heap} {j k : Nat} {f : Addr} {fd : FuncData} {ps : List Str} {sp : SpG} (F : FnG P w K mg base j f fd ps sp) (h : j ≤ k) : FnG P w K mg base k f fd ps sp :=
  ⟨F.len, fun A outer s H args us vs Q hgu hr => F.run A outer s H args us vs Q hgu (hr.mono h)⟩
theorem fn_m {P : Program} {w : World} {K : PySem.W.Frag} {mg : Str → Option Value} {base : Heap} {k n : Nat} {f : Addr} {x qual : Str} {st : Stmt} {fd : FuncData} {N ps : List Str} {m : MSs}
    (T : TextOk K mg base) (F : FunD K x qual (defArgs st) (defBody st) (defScope st) [] [] f fd) (S : FnScope N ps (defScope st)) (hn : ps.length = n) (hc : chkSs (defScope st) (defScope st) N m (defBody st) = true) (nd : ndSs (HasFn P w K mg base k) m) :
    FnG P w K mg base (k + 1) f fd ps (spW K n (denF N (denSs m))) := by
  refine fn_den F S hn fun cdv A outer s H c hgu hr hK => ?_
  refine sdSs m (Has := HasFn P w K mg base k) ⟨hK, T.sys, hgu, ?_, rfl, PassesOwn.never, rfl, rfl, S.nd, fun _ _ => rfl, T.bn, fun x n φ ⟨j, f, fd, ps, hj, F, h1, h2, h3⟩ => ⟨j, f, fd, ps, F, hr.mono hj, h1, h2, h3⟩⟩ S.kind hc nd
  have := hr.un
  show (A.deeper _).units + 65 < cLine
  omega
end Mi

set_option Elab.async false
set_option linter.all false
set_option maxRecDepth 100000
set_option maxHeartbeats 4000000
namespace Mi
open PySem PySem.Spec PyProof.Rows L2

/-! ### the def that makes the drawing dict -/
def spSrc (K : PySem.W.Frag) : SpG := fun vs H Q => ∃ (a : Addr) (ns : List Int), vs = [.ref a] ∧ SqL K H a (ns.map V.int) ∧ ns.length ≤ 63 ∧ ∀ d l H', Same H H' → H d = none → H l = none → d ≠ l → SrcAt d l H' → Q (.ref d) H'
def isSrcDef (sc : Scope) : List Stmt → Bool
  | [.Assign [.Name m1 _] (.Constant (.int 11) _ _) _,
     .For (.Name c1 _) (.Name s1 _) [.Assign [.Name m2 _] (.BinOp (.Call (.Name int1 _) [.BinOp (.BinOp (.BinOp (.Name m3 _) .Mult (.Constant (.int 69069) _ _) _) .Add (.BinOp (.Name c2 _) .Mult (.Constant (.int 31) _ _) _) _) .Add (.Constant (.int 5) _ _) _] [] _) .Mod (.Constant (.int 2147483629) _ _) _) _] [] _,
     .Return (some (.Dict [some (.Constant (.str k1) _ _), some (.Constant (.str k2) _ _), some (.Constant (.str k3) _ _), some (.Constant (.str k4) _ _)]
       [.Subscript (.ListComp (.Call (.Name ab _) [.Name c3 _] [] _) [⟨.Name c4 _, .Name s2 _, [], as⟩] scope _) (.Slice none none (some (.UnaryOp .USub (.Constant (.int 1) _ _) _)) _) _, .Constant (.int 1) _ _, .Name m4 _, .Constant (.int 0) _ _] _)) _] =>
    decide (m1 = Str.ofString "mixed" ∧ m2 = m1 ∧ m3 = m1 ∧ m4 = m1 ∧ c1 = Str.ofString "cell" ∧ c2 = c1 ∧ c3 = c1 ∧ c4 = c1 ∧ s1 = Str.ofString "script" ∧ s2 = s1 ∧ int1 = Str.ofString "int" ∧ ab = Str.ofString "abs" ∧ as = 0 ∧ k1 = Str.ofString "cells" ∧ k2 = Str.ofString "left" ∧ k3 = Str.ofString "mixed" ∧ k4 = Str.ofString "turn") &&
      visB sc s1 && locB sc sc m1 && locB sc sc c1 && glB sc int1 && glB (relS scope sc) ab && locB (relS scope sc) scope c1 && visB (relS scope sc) c1 && blkC ["script", "mixed", "cell"] sc scope [("cell", 2)]
  | _ => false
theorem op_mulOk {X : Cx} : OpR X (binaryOp .Mult) (rI IntMulOk fun i j => .int (i * j)) := opI (X := X) (C := IntMulOk) (f := binaryOp .Mult) (g := fun i j => i * j) fun _ _ _ _ _ _ _ hc q => mul_int q hc
theorem merge_src {l : Addr} {x y z : Int} : mergeK [] (srcK l x y z) = srcK l x y z := by
  have h1 : (Sum.inr (Str.ofString "cells") : Key) ≠ Sum.inr (Str.ofString "left") := by simp; decide +kernel
  have h2 : (Sum.inr (Str.ofString "cells") : Key) ≠ Sum.inr (Str.ofString "mixed") := by simp; decide +kernel
  have h3 : (Sum.inr (Str.ofString "cells") : Key) ≠ Sum.inr (Str.ofString "turn") := by simp; decide +kernel
  have h4 : (Sum.inr (Str.ofString "left") : Key) ≠ Sum.inr (Str.ofString "mixed") := by simp; decide +kernel
  have h5 : (Sum.inr (Str.ofString "left") : Key) ≠ Sum.inr (Str.ofString "turn") := by simp; decide +kernel
  have h6 : (Sum.inr (Str.ofString "mixed") : Key) ≠ Sum.inr (Str.ofString "turn") := by simp; decide +kernel
  unfold mergeK srcK
  simp only [List.foldl_cons, List.foldl_nil]
  simp only [putK, List.any_cons, List.any_nil, List.nil_append, List.cons_append, h1, h2, h3, h4, h5, h6, decide_false, Bool.or_false, Bool.false_eq_true, if_false]
def absI (i : Int) : Int := if i < 0 then -i else i
theorem src_body {Has : Str → Nat → Fm → Prop} {c : Ctl} {X : Cx} {sc : Scope} {sts : List Stmt} (g : Good Has c X sc sc ["script", "mixed", "cell"]) (h : isSrcDef sc sts = true) :
    ∃ t, PSs X sts t ∧ ∀ vs H Q, spSrc X.K vs H Q → t { nx := fun _ H' => Q .non H', rt := Q } (L2.start ["script", "mixed", "cell"] vs) H := by
  unfold isSrcDef at h
  split at h <;> first | (cases h; done) | skip
  simp only [Bool.and_eq_true, decide_eq_true_eq] at h
  obtain ⟨⟨⟨⟨⟨⟨⟨⟨⟨rfl, rfl, rfl, rfl, rfl, rfl, rfl, rfl, rfl, rfl, rfl, rfl, rfl, rfl, rfl, rfl, rfl⟩, h1⟩, h2⟩, h3⟩, h4⟩, h5⟩, h6⟩, h7⟩, h8⟩ := h
  have n0 : X.N[0]? = some ("script" : Str) := by rw [g.nm]; rfl
  have n1 : X.N[1]? = some ("mixed" : Str) := by rw [g.nm]; rfl
  have n2 : X.N[2]? = some ("cell" : Str) := by rw [g.nm]; rfl
  have v0 := g.vis h1
  have v1 : Vis X.env.scope "mixed" := (g.locv h2).1.elim .inl fun z => .inr (.inl z)
  have v2 : Vis X.env.scope "cell" := (g.locv h3).1.elim .inl fun z => .inr (.inl z)
  have db : ((Str.ofString "script" == ("__debug__" : Str)) = false ∧ (Str.ofString "script" == ("__classdict__" : Str)) = false) ∧ ((Str.ofString "mixed" == ("__debug__" : Str)) = false ∧ (Str.ofString "mixed" == ("__classdict__" : Str)) = false) ∧ ((Str.ofString "cell" == ("__debug__" : Str)) = false ∧ (Str.ofString "cell" == ("__classdict__" : Str)) = false) := by decide +kernel
  have var0 : ∀ {p : Pos}, PE X (.Name "script" p) (tVar 0) := fun {p} => pe_var n0 v0 db.1.1 db.1.2
  have var1 : ∀ {p : Pos}, PE X (.Name "mixed" p) (tVar 1) := fun {p} => pe_var n1 v1 db.2.1.1 db.2.1.2
  have var2 : ∀ {p : Pos}, PE X (.Name "cell" p) (tVar 2) := fun {p} => pe_var n2 v2 db.2.2.1 db.2.2.2
  have elt : ∀ {p q r : Pos} {scope : Scope}, glB (relS scope sc) (Str.ofString "abs") = true → visB (relS scope sc) (Str.ofString "cell") = true → ∀ (s : Shared) (H : Hp) (C : Addr) (cl : List (Str × Addr)) (fp : List Addr), PE (X.blk s H scope (compEnvC scope cl C X.env) fp) (.Call (.Name "abs" p) [.Name "cell" q] [] r) (tCB (fun xs H Q => ∃ i, xs = [.int i] ∧ Q (.int (if i < 0 then -i else i)) H) (tCons (tVar 2) tNil)) :=
    fun {p q r scope} ha hv s H C cl fp => pe_callB (X := X.blk s H scope (compEnvC scope cl C X.env) fp) call_abs ((g.blk scope s H C cl fp).gl ha) (g.b "abs" (by decide +kernel)) (by decide +kernel) (pa_cons (pe_var n2 ((g.blk scope s H C cl fp).vis hv) db.2.2.1 db.2.2.2) pa_nil rfl) (by decide) (by decide) rfl rfl
  refine ⟨_, pss_cons (ps_set (i := 1) g.ndX n1 (g.locv h2).1 pe_int rfl (g.locv h2).2)
    (pss_cons (ps_for g.xe g.calm (pi_list var0) (pg_name (i := 2) g.ndX n2 (g.locv h3).1 (g.locv h3).2)
        (pss_one (ps_set (i := 1) g.ndX n1 (g.locv h2).1 (pe_op op_mod (pe_callTy call_int1 (g.gl h4) (g.b "int" (by decide +kernel)) (by decide +kernel) (pa_cons (pe_op op_add (pe_op op_add (pe_op op_mulOk var1 pe_int) (pe_op op_mulOk var2 pe_int)) pe_int) pa_nil rfl) (by decide) (by decide) rfl rfl) pe_int) rfl (g.locv h2).2)) fun _ => rfl)
      (pss_one (ps_ret (pe_disp (pps_cons pe_str (pe_revL (pe_lc g.calm g.ndX (pi_list var0) (by rw [g.nm, g.scp]; exact blkOk_by h8) (fun s H C cl fp => pg_name (i := 2) g.ndX n2 ((g.blk _ s H C cl fp).locv h6).1 ((g.blk _ s H C cl fp).locv h6).2) (fun s H C cl fp => pts_nil) (elt h5 h7) fun _ => rfl))
        (pps_cons pe_str pe_int (pps_cons pe_str var1 (pps_cons pe_str pe_int pps_nil)))) rfl rfl (by simp) (by simp))))), ?_⟩
  rintro vs H Q ⟨a, ns, rfl, hS, hlen, q⟩
  have hnl : ns.length ≤ sizeLine := by rw [sizeLine_eq]; omega
  refine ⟨.ref a, rfl, a, rfl, ⟨_, hS⟩, for_it (walk_list (K := X.K) (a := a) (xs := ns.map V.int)) (fun i σ H' => H' = H ∧ ∃ m x2, σ = [some (.ref a), some (.int m), x2]) ⟨rfl, 11, none, rfl⟩ (fun i σ H' _ ⟨e, _⟩ => by rw [e]; exact hS) (fun i x σ H' H2 hlt ⟨e, m, x2, eσ⟩ ⟨e2, hx⟩ => ?_) fun σ H' ⟨e, m, x2, eσ⟩ => ?_⟩
  · subst e e2 eσ
    rw [List.getElem?_map] at hx
    obtain ⟨n, hn, rfl⟩ := Option.map_eq_some_iff.mp hx
    refine ⟨.int m, rfl, m, 69069, rfl, rfl, .of_right (intBits_le_64 (by omega) (by omega)), .int n, rfl, n, 31, rfl, rfl, .of_right (intBits_le_64 (by omega) (by omega)), _, _, rfl, rfl, _, 5, rfl, rfl, .inl ⟨_, rfl, _, _, rfl, rfl, (by decide : (0 : Int) < 2147483629), ?_⟩⟩
    exact ⟨rfl, _, _, rfl⟩
  · subst e eσ
    intro p hp
    have sm : Same H' (upd H' p (.dK [])) := same_upd hp
    have hS1 : SqL X.K (upd H' p (.dK [])) a (ns.map V.int) := sm.seq hS
    refine ⟨.ref a, rfl, a, rfl, ⟨_, hS1⟩, fun D hD => ?_⟩
    have hDp : D ≠ p := fun z => by rw [z, upd_same] at hD; cases hD
    have hDH : H' D = none := by rw [upd_ne hDp] at hD; exact hD
    refine lc_list (xs := ns.map V.int) (fun i H2 => H2 = upd (upd H' p (.dK [])) D (.lst ((ns.take i).map fun n => V.int (absI n)))) rfl (fun i H2 _ e => by rw [e]; exact (same_upd hD).seq hS1) (fun i x H2 hx e => ?_) fun H2 e => ?_
    · subst e
      rw [List.getElem?_map] at hx
      obtain ⟨n, hn, rfl⟩ := Option.map_eq_some_iff.mp hx
      have hin : i < ns.length := (List.getElem?_eq_some_iff.mp hn).1
      refine ⟨rfl, ?_⟩
      refine ⟨.int n, rfl, n, rfl, _, upd_same, ?_, ?_⟩
      · rw [List.length_map, List.length_take, sizeLine_eq]; omega
      · rw [upd_upd, List.take_add_one, hn, List.map_append]
        rfl
    · subst e
      rw [List.length_map, List.take_length]
      refine ⟨D, _, rfl, .inl (.inl upd_same), fun L hL => ?_⟩
      have hLD : L ≠ D := fun z => by rw [z, upd_same] at hL; cases hL
      have hLp : L ≠ p := fun z => by rw [z, upd_ne (Ne.symm hDp), upd_same] at hL; cases hL
      have hLH : H' L = none := by rw [upd_ne hLD, upd_ne hLp] at hL; exact hL
      refine ⟨.int m, rfl, ?_, srcK L 1 m 0, rfl, by show 4 ≤ 15; decide, ?_⟩
      · rw [upd_ne (Ne.symm hLp), upd_ne (Ne.symm hDp), upd_same]
      · rw [merge_src]
        refine q p L _ (fun b u e => ?_) hp hLH (Ne.symm hLp) ⟨(ns.map absI).reverse, 1, m, 0, upd_same, ?_⟩
        · have n1 : b ≠ p := fun z => by rw [z, hp] at e; cases e
          have n2 : b ≠ D := fun z => by rw [z, hDH] at e; cases e
          have n3 : b ≠ L := fun z => by rw [z, hLH] at e; cases e
          rw [upd_ne n1, upd_ne n3, upd_ne n2, upd_ne n1]
          exact e
        · rw [upd_ne hLp, upd_same, List.map_reverse, List.map_map]
          rfl
theorem fn_src {P : Program} {w : World} {K : PySem.W.Frag} {mg : Str → Option Value} {base : Heap} {f : Addr} {x qual : Str} {st : Stmt} {fd : FuncData}
    (T : TextOk K mg base) (F : FunD K x qual (defArgs st) (defBody st) (defScope st) [] [] f fd) (S : FnScope ["script", "mixed", "cell"] ["script"] (defScope st)) (hc : isSrcDef (defScope st) (defBody st) = true) : FnG P w K mg base 1 f fd ["script"] (spSrc K) := by
  refine fn_g F S (fun vs H Q h => ?_) fun cdv A outer s H vs Q hgu hr h => ?_
  · obtain ⟨a, ns, rfl, _⟩ := h
    rfl
  · have hu := hr.un
    obtain ⟨t, h1, h2⟩ := src_body (Has := fun _ _ _ => False) (c := ⟨K, none, fun _ => none, fun _ => none⟩) (X := (cxOf CX0 P w K mg base ["script", "mixed", "cell"] qual (defScope st) f cdv A outer s H E0).nox) ⟨rfl, T.sys, hgu, by show (A.deeper _).units + 65 < cLine; omega, rfl, PassesOwn.never, rfl, rfl, S.nd, fun _ _ => rfl, T.bn, fun _ _ _ h => h.elim⟩ hc
    exact ⟨t, h1, h2 vs H Q h⟩
end Mi

set_option Elab.async false
set_option linter.all false
set_option maxRecDepth 100000
set_option maxHeartbeats 4000000
namespace Mi
open PySem PySem.Spec PyProof.Rows L2

/-! ### the law's def -/
def spLaw (K : PySem.W.Frag) : SpG := fun vs H Q => ∃ (a : Addr) (ns : List Int), vs = [.ref a] ∧ SqL K H a (ns.map V.int) ∧ ns.length ≤ 63 ∧ ∀ H', Q (.bl true) H'
def isLaw (sc : Scope) (N : List Str) (m : MSs) : List Stmt → Bool
  | .Assign [.Name y _] (.Call (.Name z _) [.Name x _] [] _) _ :: rest => decide (x = Str.ofString "script" ∧ y = Str.ofString "source" ∧ z = Str.ofString "_law_source" ∧ N[0]? = some x ∧ N[1]? = some y) && visB sc x && locB sc sc y && glB sc z && chkSs sc sc N m rest
  | _ => false
def lawEnv (N : List Str) : Env := .no :: .src :: List.replicate (N.length - 2) .no
def lawEnds : EndsM := ⟨fun _ => False, fun d => d = .bool true, fun _ => False, fun _ => False⟩
theorem fn_law {P : Program} {w : World} {K : PySem.W.Frag} {mg : Str → Option Value} {base : Heap} {k : Nat} {f fs : Addr} {x qual : Str} {st : Stmt} {fd fds : FuncData} {N : List Str} {m : MSs}
    (T : TextOk K mg base) (F : FunD K x qual (defArgs st) (defBody st) (defScope st) [] [] f fd) (S : FnScope N ["script"] (defScope st)) (FS : FnG P w K mg base 1 fs fds ["script"] (spSrc K)) (hk : 1 ≤ k)
    (hm : mg (Str.ofString "_law_source") = some (.ref fs)) (hkp : PySem.W.keepIn K (.ref fs) = true) (hb : Binds K fds ["script"] []) (hc : isLaw (defScope st) N m (defBody st) = true) (nd : ndSs (HasFn P w K mg base k) m) (hlaw : denSs m (lawEnv N) lawEnds) :
    FnG P w K mg base (k + 1) f fd ["script"] (spLaw K) := by
  refine fn_g F S (fun vs H Q h => ?_) fun cdv A outer s H vs Q hgu hr h => ?_
  · obtain ⟨a, ns, rfl, _⟩ := h
    rfl
  · have hu := hr.un
    have good : ∀ c : Ctl, c.K = K → Good (HasFn P w K mg base k) c (cxOf CX0 P w K mg base N qual (defScope st) f cdv A outer s H E0).nox (defScope st) (defScope st) N := fun c hK =>
      ⟨hK, T.sys, hgu, by show (A.deeper _).units + 65 < cLine; omega, rfl, PassesOwn.never, rfl, rfl, S.nd, fun _ _ => rfl, T.bn, fun x n φ ⟨j, f, fd, ps, hj, F, h1, h2, h3⟩ => ⟨j, f, fd, ps, F, hr.mono hj, h1, h2, h3⟩⟩
    generalize hbody : defBody st = body at hc
    unfold isLaw at hc
    split at hc <;> first | (cases hc; done) | skip
    rename_i y p1 z p2 x p3 p4 p5 rest
    simp only [Bool.and_eq_true, decide_eq_true_eq] at hc
    obtain ⟨⟨⟨⟨⟨rfl, rfl, rfl, n0, n1⟩, h1⟩, h2⟩, h3⟩, h4⟩ := hc
    have g0 := good ⟨K, none, fun _ => none, fun _ => none⟩ rfl
    have hrest : PSs (cxOf CX0 P w K mg base N qual (defScope st) f cdv A outer s H E0).nox rest (fun D σ H => ∃ c : Ctl, c.K = K ∧ tS c (denSs m) D σ H) :=
      ⟨fun pins s σ H D I ⟨c, hK, h⟩ => (sdSs m (good c hK) S.kind h4 nd).run pins s σ H D I h⟩
    have hcall := pe_callG (X := (cxOf CX0 P w K mg base N qual (defScope st) f cdv A outer s H E0).nox) (pos := p4) (p := p2) (FS.mono hk) hgu hr (g0.gl h3) hm hkp hb (pa_cons (pe_var (pos := p3) n0 (g0.vis h1) (by decide +kernel) (by decide +kernel)) pa_nil rfl) (by decide +kernel) rfl rfl
    refine ⟨_, pss_cons (ps_set (i := 1) (pos' := p1) (pos := p5) S.nd n1 (g0.locv h2).1 hcall rfl (g0.locv h2).2) hrest, ?_⟩
    obtain ⟨a, ns, rfl, hS, hlen, hQ⟩ := h
    have hNl : 2 ≤ N.length := by have := (List.getElem?_eq_some_iff.mp n1).1; omega
    have s0 : (L2.start N [V.ref a])[0]? = some (some (.ref a)) := rfl
    refine ⟨_, s0, a, ns, rfl, hS, hlen, fun d l H' sm hd hl hne hsrc => ?_⟩
    refine ⟨⟨K, some (d, l), fun _ => none, H'⟩, rfl, lawEnv N, fun _ => none, fun _ => none, lawEnds, ?_, hlaw, fun _ _ _ _ _ h => h.elim, fun dd v env' σ' G' F' H2 hp R rp => ?_, fun _ _ _ _ _ h => h.elim, fun _ _ _ _ _ h => h.elim⟩
    · refine ⟨⟨fun _ _ h => (nomatch h), fun _ _ h => (nomatch h), fun a' l' e => ?_⟩, .refl, fun _ h => h, .refl _, fun _ _ h => (nomatch h), fun i s' e n => ?_, fun i j ds es q _ e1 _ _ _ => ?_⟩
      · cases e
        exact ⟨rfl, rfl, hne, hsrc⟩
      · match i with
        | 0 => cases e; exact absurd rfl n
        | 1 =>
          cases e
          refine ⟨.ref d, ?_, d, l, rfl, rfl⟩
          rw [List.getElem?_set_self]
          unfold L2.start
          simp
          omega
        | i + 2 =>
          have e : (List.replicate (N.length - 2) Slot.no)[i]? = some s' := e
          rw [List.getElem?_replicate] at e
          split at e
          · cases e; exact absurd rfl n
          · cases e
      · match i with
        | 0 => cases e1
        | 1 => cases e1
        | i + 2 =>
          have e1 : (List.replicate (N.length - 2) Slot.no)[i]? = some (.own ds) := e1
          rw [List.getElem?_replicate] at e1
          split at e1 <;> cases e1
    · have hp : dd = .bool true := hp
      subst hp
      cases rp
      exact hQ _

/-! ### its call -/
theorem law_callG {P : Program} {w : World} {K : PySem.W.Frag} {mg mb : Str → Option Value} {k : Nat} {fa a : Addr} {fd : FuncData} {x : Str} {s₁ : Shared} {vs : List Value} {ns : List Int}
    (KX : K.In s₁.heap) (hns : s₁.heap.Ns mainGlobals mg) (hb : s₁.heap.Ns builtinsNs mb) (hbb : ∀ x : Str, x ≠ "__name__" → mb x = bootBuiltins x) (hlim : s₁.heap.NoLimit) (hg : s₁.gens = #[])
    (hsys : ∃ o es ep, s₁.heap.get? sysModules = some o ∧ o.data = .dict es ep)
    (ha : s₁.heap.get? a = some { cls := .type "list", data := .seq vs.toArray }) (hi : IntsAre vs ns) (hl : ns.length ≤ 63) (hr : Room k callerA)
    (F : ∀ base : Heap, K.In base → base.Ns mainGlobals mg → (∃ o, base.get? sysModules = some o) → FnG P w K mg base k fa fd [x] (spLaw K)) (hbind : ∀ (s : Shared) (u : Value), BindsTo s fd ⟨[u], []⟩ [(x, u)]) :
    codeAny (model P w) callerA (.call (.ref fa) ⟨[.ref a], []⟩) (fun r s' => r = .ok (.ret (.bool true)) ∧ OldK s₁.heap s'.heap ∧ s'.os = s₁.os ∧ AllBare s'.gens) s₁ := by
  have rv := vals_ints hi
  have lenV := hi.length
  have hls : ns.length ≤ sizeLine := by rw [sizeLine_eq]; omega
  let lo : HO := .frz { cls := .type "list", data := .seq vs.toArray } (.lst (ns.map V.int))
  let H : Hp := fun b => match K.lookup a with
    | some _ => none
    | none => if b = a then some lo else none
  have hH : ∀ b o, H b = some o → b = a ∧ o = lo ∧ K.lookup a = none := fun b o e => by
    have e : (match K.lookup a with
      | some _ => none
      | none => if b = a then some lo else none) = some o := e
    cases z : K.lookup a with
    | some _ => rw [z] at e; cases e
    | none =>
      rw [z] at e
      by_cases hb : b = a
      · have e2 : (if b = a then some lo else none) = some o := e
        rw [if_pos hb] at e2
        exact ⟨hb, (Option.some.inj e2).symm, rfl⟩
      · have e2 : (if b = a then some lo else none) = some o := e
        rw [if_neg hb] at e2
        cases e2
  have free : ∀ {b o}, s₁.heap.get? b = some o → (∀ xs n, o.data ≠ .seq xs n) → H b = none := fun {b o} e d => by
    cases z : H b with
    | none => rfl
    | some u =>
      obtain ⟨rfl, _⟩ := hH b u z
      rw [ha] at e
      cases e
      exact absurd rfl (d _ _)
  have free2 : ∀ {b o}, K.lookup b = some o → H b = none := fun {b o} e => by
    cases z : H b with
    | none => rfl
    | some u =>
      obtain ⟨rfl, _, q⟩ := hH b u z
      rw [q] at e
      cases e
  have nsB : ∀ {b : Addr} {m : Str → Option Value}, s₁.heap.Ns b m → (hidT s₁.heap H).Ns b m := fun {b m} ⟨o, es, ep, e, d, r⟩ => ⟨o, es, ep, hidT_get e (free e fun xs n z => by rw [d] at z; cases z), d, r⟩
  have hKb : K.In (hidT s₁.heap H) := fun b o e => hidT_get (KX b o e) (free2 e)
  have hM : Mod K mg (hidT s₁.heap H) := ⟨hKb, nsB hns, ⟨mb, nsB hb, hbb⟩, let ⟨mc, h1, h2⟩ := hlim; ⟨mc, nsB h1, h2⟩⟩
  have hok : HOk P w H s₁.heap := fun b o e => by
    obtain ⟨rfl, rfl, _⟩ := hH b o e
    exact ⟨ha, by rw [List.length_map]; exact hls, vs, _, rv, ha⟩
  have hS : SqL K H a (ns.map V.int) := by
    cases z : K.lookup a with
    | some o =>
      have e := KX a o z
      rw [ha] at e
      cases e
      exact .inr ⟨_, vs.toArray, _, z, rfl, rfl, rfl, by rw [List.size_toArray, lenV]; exact hls, by simpa using rv⟩
    | none =>
      refine .inl (.inr ⟨{ cls := .type "list", data := .seq vs.toArray }, ?_⟩)
      show (match K.lookup a with
        | some _ => none
        | none => if a = a then some lo else none) = some lo
      rw [z]
      exact if_pos rfl
  have e0 : Env0 P w K mg (hidT s₁.heap H) callerA [] s₁ H := ⟨rfl, hM, fun b o e => of_hidT e, Nat.le_of_eq (hidT_size _ _), trivial, fun b hb => absurd (show b ∈ ([] : List Addr) from hb) (by simp), hok, .of_eq hg⟩
  obtain ⟨so, es, ep, hs1, hs2⟩ := hsys
  have hsy : (hidT s₁.heap H).get? sysModules = some so := hidT_get hs1 (free hs1 fun xs n z => by rw [hs2] at z; cases z)
  refine codeAny_mono ((F _ hKb (nsB hns) ⟨so, hsy⟩).run callerA [] s₁ H ⟨[.ref a], []⟩ [.ref a] [.ref a] (fun v _ => v = .bl true) rfl hr e0 (hbind s₁ (.ref a)) (.cons rfl .nil) ⟨a, ns, rfl, hS, hl, fun _ => rfl⟩) fun r s' h => ?_
  cases r with
  | error e => exact False.elim h
  | ok fl =>
    cases fl with
    | next => exact False.elim h
    | brk => exact False.elim h
    | cont => exact False.elim h
    | ret u =>
      obtain ⟨v, H', os, bare, un, hok', r', q⟩ := h
      have q : v = .bl true := q
      subst q
      obtain rfl : u = Value.bool true := r'
      refine ⟨rfl, OldK.of_keep fun b o e => ?_, os, bare⟩
      cases z : H b with
      | none => exact un.keep b o e z (by intro z; exact absurd (show b ∈ ([] : List Addr) from z) (by simp)) (by simp)
      | some u =>
        obtain ⟨rfl, rfl, _⟩ := hH b u z
        obtain ⟨e1, _⟩ := hok' b _ (un.frzs b _ _ z)
        rw [e] at *
        have e2 := ha
        rw [e1]
        first | exact e2.symm | exact e2
/-! ### what the head tells -/
def sysB (g : Addr → Option Obj) : Bool := match g sysModules with
  | some ⟨_, _, .dict _ _, _⟩ => true
  | _ => false
theorem sysB_ok {g : Addr → Option Obj} (h : sysB g = true) : ∃ o es ep, g sysModules = some o ∧ o.data = .dict es ep := by
  unfold sysB at h
  split at h
  · exact ⟨_, _, _, by assumption, rfl⟩
  · cases h
def obsS (n : Nat) (fa : List He.Fa) (fn : List He.DefD) (g : Addr → Option Obj) : He.AlD × Bool := (He.obsDG n fa fn g, sysB g)
def hookS (n : Nat) (fa : List He.Fa) (fn : List He.DefD) : PySem.W.Hook where
  α := He.AlD × Bool
  obs := fun s => obsS n fa fn s.heap.get?
  val := fun _ => (He.valD fn, true)
  says := fun _ h => (∃ K : PySem.W.Frag, K.In h ∧ He.SaysD fa fn K) ∧ ∃ o es ep, h.get? sysModules = some o ∧ o.data = .dict es ep
  of := fun w s e => ⟨(He.hookD n fa fn).of w s (congrArg Prod.fst e), sysB_ok (congrArg Prod.snd e)⟩
  keeps := fun w h h' ⟨a, b⟩ k => ⟨(He.hookD n fa fn).keeps w h h' a k, let ⟨o, es, ep, h1, h2⟩ := b; ⟨o, es, ep, k _ _ h1, h2⟩⟩
theorem obsS_eq {n : Nat} {fa : List He.Fa} {fn : List He.DefD} {g : Addr → Option Obj} {s : Shared} (h : ∀ a, g a = s.heap.get? a) : obsS n fa fn g = (hookS n fa fn).obs s := by
  have e : g = s.heap.get? := funext h
  rw [e] <;> rfl
theorem walkG {l : PySem.W.OpenLaw} {k : Nat} {q : Program} {loose : List Str} {XP : (Str → Option Value) → Heap → Prop} {d : DefRec} {x : Str} {n : Nat} {fa : List He.Fa} {fn : List He.DefD}
    (hn : l.most = some 63) (hdf : d.params.defaults = []) (hr : Room k callerA)
    (F : ∀ (w : World) (mg : Str → Option Value) (f : Addr) (h : Heap) (K : PySem.W.Frag), K.In h → He.SaysD fa fn K → h.Ns mainGlobals mg → mg d.name = some (.ref f) →
      ∃ fd : FuncData, (∀ (s : Shared) (u : Value), BindsTo s fd ⟨[u], []⟩ [(x, u)]) ∧
        ∀ base : Heap, K.In base → base.Ns mainGlobals mg → (∃ o, base.get? sysModules = some o) → FnG l.prog w K mg base k f fd [x] (spLaw K)) :
    PySem.W.WalkO q loose XP (hookS n fa fn).says l.row.toRowW d [] (fun f vs => PySem.call f vs) := by
  refine Att.attach_call hn hdf fun w s₀ s₁ mg mb f o pm cd doc a vs ns G Y ho hd hcd hmg hobj hints hlen hg => ?_
  obtain ⟨⟨K, KX, hs⟩, hsy⟩ := Y
  obtain ⟨fd, hb, hF⟩ := F w mg f _ K KX hs G.T.g hmg
  exact law_callG KX G.T.g G.T.b G.T.builtins G.T.nolimit hg hsy hobj hints hlen hr hF hb
end Mi

set_option Elab.async false
set_option linter.all false
set_option maxRecDepth 100000
set_option maxHeartbeats 4000000
namespace Mi
open PySem PySem.Spec PyProof.Rows L2

/-! ### the calls, as a list -/
abbrev CL := List (Str × Nat × Fm)
def AllH (Has : Str → Nat → Fm → Prop) : CL → Prop
  | [] => True
  | (x, n, φ) :: r => Has x n φ ∧ AllH Has r
theorem AllH.append {Has : Str → Nat → Fm → Prop} : ∀ {a b : CL}, AllH Has (a ++ b) → AllH Has a ∧ AllH Has b
  | [], b, h => ⟨trivial, h⟩
  | (x, n, φ) :: r, b, h => let ⟨h1, h2⟩ := AllH.append (a := r) (b := b) h.2; ⟨⟨h.1, h1⟩, h2⟩
mutual
def clsE : ME → CL
  | .bin _ a b => clsE a ++ clsE b
  | .cmp _ a b => clsE a ++ clsE b
  | .chain _ _ a b e => clsE a ++ (clsE b ++ clsE e)
  | .one a => clsE a
  | .and a b => clsE a ++ clsE b
  | .or a b => clsE a ++ clsE b
  | .not a => clsE a
  | .neg a => clsE a
  | .ite t a b => clsT t ++ (clsE a ++ clsE b)
  | .tup as => clsA as
  | .lst as => clsA as
  | .listOf a => clsE a
  | .rep a b => clsE a ++ clsE b
  | .idx a b => clsE a ++ clsE b
  | .slice a lo hi => clsE a ++ (clsO lo ++ clsO hi)
  | .rev a => clsE a
  | .call x n φ as => (x, n, φ) :: clsC as
  | .blt _ as => clsA as
  | .isi _ a => clsE a
  | .sortR as => clsA as
  | .listR1 a => clsE a
  | .listR2 a b => clsE a ++ clsE b
  | .tupR1 a => clsE a
  | .tupR2 a b => clsE a ++ clsE b
  | .index a b => clsE a ++ clsE b
  | .comp _ _ i t e => clsI i ++ (clsT t ++ clsE e)
  | _ => []
def clsT : MT → CL
  | .cmp _ a b => clsE a ++ clsE b
  | .chain _ _ a b e => clsE a ++ (clsE b ++ clsE e)
  | .truth a => clsE a
  | .not t => clsT t
  | .bool w => clsW w
  | .yes => []
def clsW : MW → CL
  | .and1 t => clsT t
  | .or1 t => clsT t
  | .and t w => clsT t ++ clsW w
  | .or t w => clsT t ++ clsW w
def clsA : MA → CL
  | .nil => []
  | .cons e as => clsE e ++ clsA as
  | .star e as => clsE e ++ clsA as
def clsC : MC → CL
  | .nil => []
  | .cons e as => clsE e ++ clsC as
  | .lent e as => clsE e ++ clsC as
  | .src _ as => clsC as
def clsI : MI → CL
  | .seq e => clsE e
  | .range1 as => clsA as
  | .range2 as => clsA as
  | .enum as => clsA as
  | .zip as => clsA as
  | .zipS as => clsA as
def clsO : MO → CL
  | .none => []
  | .some e => clsE e
end
def clsX : MX → CL
  | .val e => clsE e
  | .lstN as => clsA as
  | .listN e => clsE e
  | .rng1N e => clsE e
  | .repN a b => clsE a ++ clsE b
  | .compN _ _ i t e => clsI i ++ (clsT t ++ clsE e)
mutual
def clsS : MS → CL
  | .set _ x => clsX x
  | .asg _ e => clsE e
  | .par2 _ _ x y => clsX x ++ clsX y
  | .par3 _ _ _ x y z => clsX x ++ (clsX y ++ clsX z)
  | .ret e => clsE e
  | .drop e => clsE e
  | .ite t p q => clsT t ++ (clsSs p ++ clsSs q)
  | .for' _ i b => clsI i ++ clsSs b
  | .forB _ _ b => clsSs b
  | .whl t b => clsT t ++ clsSs b
  | .app _ e => clsE e
  | .popAt _ _ e => clsE e
  | .setI _ k e => clsE k ++ clsE e
  | .frz _ s => clsS s
  | .srcSet _ _ e => clsE e
  | .mix _ _ _ pk φ => [(pk, 2, φ)]
  | _ => []
def clsSs : MSs → CL
  | .nil => []
  | .cons s ss => clsS s ++ clsSs ss
end
section
variable {Has : Str → Nat → Fm → Prop}
mutual
theorem nd_E : ∀ m : ME, AllH Has (clsE m) → ndE Has m
  | .bin _ a b, h => ⟨nd_E a h.append.1, nd_E b h.append.2⟩
  | .cmp _ a b, h => ⟨nd_E a h.append.1, nd_E b h.append.2⟩
  | .chain _ _ a b e, h => ⟨nd_E a h.append.1, nd_E b h.append.2.append.1, nd_E e h.append.2.append.2⟩
  | .one a, h => nd_E a h
  | .and a b, h => ⟨nd_E a h.append.1, nd_E b h.append.2⟩
  | .or a b, h => ⟨nd_E a h.append.1, nd_E b h.append.2⟩
  | .not a, h => nd_E a h
  | .neg a, h => nd_E a h
  | .ite t a b, h => ⟨nd_T t h.append.1, nd_E a h.append.2.append.1, nd_E b h.append.2.append.2⟩
  | .tup as, h => nd_A as h
  | .lst as, h => nd_A as h
  | .listOf a, h => nd_E a h
  | .rep a b, h => ⟨nd_E a h.append.1, nd_E b h.append.2⟩
  | .idx a b, h => ⟨nd_E a h.append.1, nd_E b h.append.2⟩
  | .slice a lo hi, h => ⟨nd_E a h.append.1, nd_O lo h.append.2.append.1, nd_O hi h.append.2.append.2⟩
  | .rev a, h => nd_E a h
  | .call x n φ as, h => ⟨h.1, nd_C as h.2⟩
  | .blt _ as, h => nd_A as h
  | .isi _ a, h => nd_E a h
  | .sortR as, h => nd_A as h
  | .listR1 a, h => nd_E a h
  | .listR2 a b, h => ⟨nd_E a h.append.1, nd_E b h.append.2⟩
  | .tupR1 a, h => nd_E a h
  | .tupR2 a b, h => ⟨nd_E a h.append.1, nd_E b h.append.2⟩
  | .index a b, h => ⟨nd_E a h.append.1, nd_E b h.append.2⟩
  | .comp _ _ i t e, h => ⟨nd_I i h.append.1, nd_T t h.append.2.append.1, nd_E e h.append.2.append.2⟩
  | .var _, _ => trivial
  | .lent _, _ => trivial
  | .non, _ => trivial
  | .bl _, _ => trivial
  | .int _, _ => trivial
  | .str _, _ => trivial
  | .srcE _ _, _ => trivial
  | .dct0, _ => trivial
theorem nd_T : ∀ m : MT, AllH Has (clsT m) → ndT Has m
  | .cmp _ a b, h => ⟨nd_E a h.append.1, nd_E b h.append.2⟩
  | .chain _ _ a b e, h => ⟨nd_E a h.append.1, nd_E b h.append.2.append.1, nd_E e h.append.2.append.2⟩
  | .truth a, h => nd_E a h
  | .not t, h => nd_T t h
  | .bool w, h => nd_W w h
  | .yes, _ => trivial
theorem nd_W : ∀ m : MW, AllH Has (clsW m) → ndW Has m
  | .and1 t, h => nd_T t h
  | .or1 t, h => nd_T t h
  | .and t w, h => ⟨nd_T t h.append.1, nd_W w h.append.2⟩
  | .or t w, h => ⟨nd_T t h.append.1, nd_W w h.append.2⟩
theorem nd_A : ∀ m : MA, AllH Has (clsA m) → ndA Has m
  | .nil, _ => trivial
  | .cons e as, h => ⟨nd_E e h.append.1, nd_A as h.append.2⟩
  | .star e as, h => ⟨nd_E e h.append.1, nd_A as h.append.2⟩
theorem nd_C : ∀ m : MC, AllH Has (clsC m) → ndC Has m
  | .nil, _ => trivial
  | .cons e as, h => ⟨nd_E e h.append.1, nd_C as h.append.2⟩
  | .lent e as, h => ⟨nd_E e h.append.1, nd_C as h.append.2⟩
  | .src _ as, h => nd_C as h
theorem nd_I : ∀ m : MI, AllH Has (clsI m) → ndI Has m
  | .seq e, h => nd_E e h
  | .range1 as, h => nd_A as h
  | .range2 as, h => nd_A as h
  | .enum as, h => nd_A as h
  | .zip as, h => nd_A as h
  | .zipS as, h => nd_A as h
theorem nd_O : ∀ m : MO, AllH Has (clsO m) → ndO Has m
  | .none, _ => trivial
  | .some e, h => nd_E e h
end
theorem nd_X : ∀ m : MX, AllH Has (clsX m) → ndX Has m
  | .val e, h => nd_E e h
  | .lstN as, h => nd_A as h
  | .listN e, h => nd_E e h
  | .rng1N e, h => nd_E e h
  | .repN a b, h => ⟨nd_E a h.append.1, nd_E b h.append.2⟩
  | .compN _ _ i t e, h => ⟨nd_I i h.append.1, nd_T t h.append.2.append.1, nd_E e h.append.2.append.2⟩
mutual
theorem nd_S : ∀ m : MS, AllH Has (clsS m) → ndS Has m
  | .set _ x, h => nd_X x h
  | .asg _ e, h => nd_E e h
  | .par2 _ _ x y, h => ⟨nd_X x h.append.1, nd_X y h.append.2⟩
  | .par3 _ _ _ x y z, h => ⟨nd_X x h.append.1, nd_X y h.append.2.append.1, nd_X z h.append.2.append.2⟩
  | .ret e, h => nd_E e h
  | .drop e, h => nd_E e h
  | .ite t p q, h => ⟨nd_T t h.append.1, nd_Ss p h.append.2.append.1, nd_Ss q h.append.2.append.2⟩
  | .for' _ i b, h => ⟨nd_I i h.append.1, nd_Ss b h.append.2⟩
  | .forB _ _ b, h => nd_Ss b h
  | .whl t b, h => ⟨nd_T t h.append.1, nd_Ss b h.append.2⟩
  | .app _ e, h => nd_E e h
  | .popAt _ _ e, h => nd_E e h
  | .setI _ k e, h => ⟨nd_E k h.append.1, nd_E e h.append.2⟩
  | .frz _ s, h => nd_S s h
  | .srcSet _ _ e, h => nd_E e h
  | .mix _ _ _ pk φ, h => h.1
  | .retN, _ => trivial
  | .doc, _ => trivial
  | .pass, _ => trivial
  | .brk, _ => trivial
  | .cnt, _ => trivial
  | .never, _ => trivial
  | .pop _ _, _ => trivial
  | .srcLoop _ _, _ => trivial
theorem nd_Ss : ∀ m : MSs, AllH Has (clsSs m) → ndSs Has m
  | .nil, _ => trivial
  | .cons s ss, h => ⟨nd_S s h.append.1, nd_Ss ss h.append.2⟩
end
end
/-! ### defs, one after another -/
/-- a def is known, with its depth -/
def Kn (P : Program) (w : World) (K : PySem.W.Frag) (mg : Str → Option Value) (base : Heap) (j : Nat) (x : Str) (n : Nat) (φ : Fm) : Prop :=
  ∃ (f : Addr) (fd : FuncData) (ps : List Str), FnG P w K mg base j f fd ps (spW K n φ) ∧ mg x = some (.ref f) ∧ PySem.W.keepIn K (.ref f) = true ∧ Binds K fd ps []
theorem Kn.at {P : Program} {w : World} {K : PySem.W.Frag} {mg : Str → Option Value} {base : Heap} {j k n : Nat} {x : Str} {φ : Fm} (h : Kn P w K mg base j x n φ) (e : j ≤ k) : HasFn P w K mg base k x n φ :=
  let ⟨f, fd, ps, h1, h2, h3, h4⟩ := h; ⟨j, f, fd, ps, e, h1, h2, h3, h4⟩
theorem kn_m {P : Program} {w : World} {K : PySem.W.Frag} {mg : Str → Option Value} {base : Heap} {k n : Nat} {f : Addr} {x qual : Str} {st : Stmt} {fd : FuncData} {N ps : List Str} {m : MSs}
    (T : TextOk K mg base) (F : FunD K x qual (defArgs st) (defBody st) (defScope st) [] [] f fd) (hm : mg x = some (.ref f)) (S : FnScope N ps (defScope st)) (hn : ps.length = n)
    (hb : ∀ (kV doc pm : Value) (an : Option Addr) (cdv ct : Value) (us : List Value), us.length = ps.length → bindArgs (PySem.W.fnOf x qual (defArgs st) (defBody st) (defScope st) .none kV doc pm an cdv ct) ⟨us, []⟩ = pure (ps.zip us))
    (hc : chkSs (defScope st) (defScope st) N m (defBody st) = true) (nd : AllH (HasFn P w K mg base k) (clsSs m)) : Kn P w K mg base (k + 1) x n (denF N (denSs m)) :=
  ⟨f, fd, ps, fn_m T F S hn hc (nd_Ss m nd), hm, F.kp, F.bindsN hb⟩
theorem no_sp {K : PySem.W.Frag} {n : Nat} {vs : List V} {H : Hp} {Q : VK} {α : Prop} (h : spW K n (fun _ _ => False) vs H Q) : α :=
  let ⟨_, _, _, _, _, _, _, _, hf, _⟩ := h; hf.elim
/-- a def that calls itself, to a bounded depth -/
theorem kn_rec {P : Program} {w : World} {K : PySem.W.Frag} {mg : Str → Option Value} {base : Heap} {k n : Nat} {f : Addr} {x qual : Str} {st : Stmt} {fd : FuncData} {N ps : List Str} {m : Fm → MSs} {R : Nat → Fm}
    (h0 : R 0 = fun _ _ => False) (hs : ∀ j, R (j + 1) = denF N (denSs (m (R j))))
    (T : TextOk K mg base) (F : FunD K x qual (defArgs st) (defBody st) (defScope st) [] [] f fd) (hm : mg x = some (.ref f)) (S : FnScope N ps (defScope st)) (hn : ps.length = n)
    (hb : ∀ (kV doc pm : Value) (an : Option Addr) (cdv ct : Value) (us : List Value), us.length = ps.length → bindArgs (PySem.W.fnOf x qual (defArgs st) (defBody st) (defScope st) .none kV doc pm an cdv ct) ⟨us, []⟩ = pure (ps.zip us))
    (hc : ∀ φ, chkSs (defScope st) (defScope st) N (m φ) (defBody st) = true) (nd : ∀ (j : Nat) (φ : Fm), k ≤ j → HasFn P w K mg base j x n φ → AllH (HasFn P w K mg base j) (clsSs (m φ))) : ∀ j, Kn P w K mg base (k + j) x n (R j)
  | 0 => by
    rw [h0]
    exact ⟨f, fd, ps, ⟨fun vs H Q h => no_sp h, fun A outer s H args us vs Q _ _ _ _ _ h => no_sp h⟩, hm, F.kp, F.bindsN hb⟩
  | j + 1 => by
    rw [hs]
    exact kn_m (k := k + j) T F hm S hn hb (hc _) (nd (k + j) (R j) (Nat.le_add_right _ _) ((kn_rec h0 hs T F hm S hn hb hc nd j).at (Nat.le_refl _)))
theorem all_fact {fa : List He.Fa} {fn : List He.DefD} {K : PySem.W.Frag} (c : He.SaysD fa fn K) {f : He.Fa} (h : f ∈ fa) : f.ok K = true := by
  have c1 := (He.ba (show ((fa.all fun f => f.ok K) && fn.all fun d => d.ok K) = true from congrArg (fun z : He.AlD => z.1) c)).1
  exact List.all_eq_true.mp c1 f h
theorem text_ok {fa : List He.Fa} {fn : List He.DefD} {K : PySem.W.Frag} {h base : Heap} {mg : Str → Option Value} (KX : K.In h) (G : h.Ns mainGlobals mg) (c : He.SaysD (fa ++ bltNames.map He.Fa.free) fn K) (hs : ∃ o, base.get? sysModules = some o) : TextOk K mg base :=
  ⟨hs, fun x hx => He.free_ok KX G (all_fact c (List.mem_append_right _ (List.mem_map_of_mem hx)))⟩
theorem glo_of {fa : List He.Fa} {fn : List He.DefD} {K : PySem.W.Frag} {h : Heap} {mg : Str → Option Value} (KX : K.In h) (G : h.Ns mainGlobals mg) (c : He.SaysD (fa ++ bltNames.map He.Fa.free) fn K) (i : Nat) {x : Str} (hx : fa[i]? = some (.glo x)) : mg x = some (.ref (He.ga K x)) :=
  He.glo_ok KX G (all_fact c (List.mem_append_left _ (List.mem_of_getElem? hx)))
end Mi

/-! Rows of bits: spans, reduced bases. No program in sight. -/
set_option linter.all false
set_option maxRecDepth 100000
set_option maxHeartbeats 4000000
namespace GF
abbrev Row := List Bool
def get (r : Row) (i : Nat) : Bool := r.getD i false
def xr (a b : Row) : Row := List.zipWith xor a b
def zer (n : Nat) : Row := List.replicate n false
def lead (r : Row) : Nat := r.idxOf true
theorem get_zer (n i : Nat) : get (zer n) i = false := by
  unfold get zer
  rw [List.getD_eq_getElem?_getD, List.getElem?_replicate]
  split <;> rfl
theorem get_out {r : Row} {i : Nat} (h : r.length ≤ i) : get r i = false := by
  unfold get
  rw [List.getD_eq_getElem?_getD, List.getElem?_eq_none h]
  rfl
theorem xr_len {a b : Row} (h : a.length = b.length) : (xr a b).length = a.length := by simp [xr, h]
theorem get_xr : ∀ {a b : Row} (i : Nat), a.length = b.length → get (xr a b) i = xor (get a i) (get b i)
  | [], [], i, _ => by simp [xr, get]
  | a :: as, b :: bs, 0, _ => by simp [xr, get]
  | a :: as, b :: bs, i + 1, h => by
    have ih := get_xr (a := as) (b := bs) i (by simpa using h)
    simpa [xr, get] using ih
theorem ext {a b : Row} (hl : a.length = b.length) (h : ∀ i, get a i = get b i) : a = b := by
  apply List.ext_getElem? 
  intro i
  by_cases hi : i < a.length
  · have := h i
    unfold get at this
    rw [List.getD_eq_getElem?_getD, List.getD_eq_getElem?_getD, List.getElem?_eq_getElem hi, List.getElem?_eq_getElem (hl ▸ hi)] at this
    rw [List.getElem?_eq_getElem hi, List.getElem?_eq_getElem (hl ▸ hi)]
    simpa using this
  · rw [List.getElem?_eq_none (by omega), List.getElem?_eq_none (by omega)]
theorem get_lead {r : Row} (h : true ∈ r) : get r (lead r) = true := by
  unfold get lead
  rw [List.getD_eq_getElem?_getD]
  have hl := List.idxOf_lt_length_of_mem h
  rw [List.getElem?_eq_getElem hl, List.getElem_idxOf hl]
  rfl
theorem lead_lt {r : Row} (h : true ∈ r) : lead r < r.length := List.idxOf_lt_length_of_mem h
theorem get_before : ∀ {r : Row} {i : Nat}, i < lead r → get r i = false
  | [], i, _ => by simp [get]
  | true :: r, i, h => by simp [lead, List.idxOf_cons] at h
  | false :: r, 0, _ => rfl
  | false :: r, i + 1, h => by
    have : i < lead r := by
      unfold lead at h ⊢
      rw [List.idxOf_cons] at h
      simp at h
      omega
    simpa [get] using get_before this
theorem mem_of_get {r : Row} {i : Nat} (h : get r i = true) : true ∈ r := by
  unfold get at h
  rw [List.getD_eq_getElem?_getD] at h
  cases e : r[i]? with
  | none => rw [e] at h; cases h
  | some b =>
    rw [e] at h
    have : b = true := h
    subst this
    exact List.mem_of_getElem? e
theorem lead_of {r : Row} {p : Nat} (h1 : get r p = true) (h2 : ∀ i, i < p → get r i = false) : lead r = p := by
  have hm := mem_of_get h1
  rcases Nat.lt_trichotomy (lead r) p with h | h | h
  · have := h2 _ h
    rw [get_lead hm] at this
    cases this
  · exact h
  · have := get_before h
    rw [h1] at this
    cases this
theorem xr_self (a : Row) : xr a a = zer a.length := by
  refine ext (by simp [xr, zer]) fun i => ?_
  rw [get_xr i rfl, get_zer]
  simp
theorem xr_comm {a b : Row} (h : a.length = b.length) : xr a b = xr b a := ext (by simp [xr, Nat.min_comm]) fun i => by rw [get_xr i h, get_xr i h.symm, Bool.xor_comm]
theorem xr_assoc {a b c : Row} (h : a.length = b.length) (h2 : b.length = c.length) : xr (xr a b) c = xr a (xr b c) := by
  refine ext (by rw [xr_len (by rw [xr_len h]; omega), xr_len h, xr_len (by rw [xr_len h2]; omega)]) fun i => ?_
  rw [get_xr i (by rw [xr_len h]; omega), get_xr i h, get_xr i (by rw [xr_len h2]; omega), get_xr i h2, Bool.xor_assoc]
theorem xr_xr {a b : Row} (h : a.length = b.length) : xr (xr a b) b = a := by
  refine ext (by rw [xr_len (by rw [xr_len h]; omega), xr_len h]) fun i => ?_
  rw [get_xr i (by rw [xr_len h]; omega), get_xr i h]
  simp
theorem xr_zer {a : Row} {n : Nat} (h : a.length = n) : xr a (zer n) = a := by
  refine ext (by simp [xr, zer, h]) fun i => ?_
  rw [get_xr i (by simp [zer, h]), get_zer]
  simp

/-! ### spans -/
inductive Sp (n : Nat) (B : List Row) : Row → Prop
  | zero : Sp n B (zer n)
  | add {b v : Row} : b ∈ B → Sp n B v → Sp n B (xr v b)
def Len (n : Nat) (B : List Row) : Prop := ∀ b ∈ B, b.length = n
theorem Sp.len {n : Nat} {B : List Row} (hB : Len n B) {v : Row} (h : Sp n B v) : v.length = n := by
  induction h with
  | zero => simp [zer]
  | add hb _ ih => rw [xr_len (by rw [ih, hB _ hb]), ih]
theorem Sp.xr {n : Nat} {B : List Row} (hB : Len n B) {v w : Row} (h : Sp n B v) (h' : Sp n B w) : Sp n B (xr v w) := by
  induction h' with
  | zero => rw [xr_zer (h.len hB)]; exact h
  | add hb hw ih =>
    rw [← xr_assoc (by rw [h.len hB, hw.len hB]) (by rw [hw.len hB, hB _ hb])]
    exact .add hb ih
theorem zer_xr {a : Row} {n : Nat} (h : a.length = n) : xr (zer n) a = a := by
  rw [xr_comm (by simp [zer, h]), xr_zer h]
theorem Sp.mem {n : Nat} {B : List Row} (hB : Len n B) {b : Row} (h : b ∈ B) : Sp n B b := by
  have := Sp.add h (.zero (n := n) (B := B))
  rwa [zer_xr (hB _ h)] at this
theorem Sp.sub {n : Nat} {B B' : List Row} (hB' : Len n B') (h : ∀ b ∈ B, Sp n B' b) {v : Row} (hv : Sp n B v) : Sp n B' v := by
  induction hv with
  | zero => exact .zero
  | add hb _ ih => exact ih.xr hB' (h _ hb)
theorem Sp.perm {n : Nat} {B B' : List Row} (h : ∀ b, b ∈ B → b ∈ B') {v : Row} (hv : Sp n B v) : Sp n B' v := by
  induction hv with
  | zero => exact .zero
  | add hb _ ih => exact .add (h _ hb) ih
def SpEq (n : Nat) (B B' : List Row) : Prop := ∀ v, Sp n B v ↔ Sp n B' v

/-! ### reduced lists -/
structure Red (n : Nat) (B : List Row) : Prop where
  len : Len n B
  one : ∀ b ∈ B, true ∈ b
  nd : B.Nodup
  red : ∀ b ∈ B, ∀ b' ∈ B, b ≠ b' → get b' (lead b) = false
def lin (B : List Row) (c : Row → Bool) (i : Nat) : Bool := B.foldr (fun b acc => xor (c b && get b i) acc) false
theorem lin_false {B : List Row} {c : Row → Bool} {i : Nat} (h : ∀ b ∈ B, (c b && get b i) = false) : lin B c i = false := by
  induction B with
  | nil => rfl
  | cons b B ih =>
    show xor (c b && get b i) (lin B c i) = false
    rw [h b (by simp), ih fun x hx => h x (by simp [hx])]
    rfl
theorem lin_congr {B : List Row} {c c' : Row → Bool} {i : Nat} (h : ∀ b ∈ B, c b = c' b) : lin B c i = lin B c' i := by
  induction B with
  | nil => rfl
  | cons b B ih =>
    show xor (c b && get b i) (lin B c i) = xor (c' b && get b i) (lin B c' i)
    rw [h b (by simp), ih fun x hx => h x (by simp [hx])]
theorem lin_flip {B : List Row} {c : Row → Bool} {i : Nat} {b : Row} (nd : B.Nodup) (hb : b ∈ B) : lin B (fun x => xor (c x) (decide (x = b))) i = xor (lin B c i) (get b i) := by
  induction B with
  | nil => simp at hb
  | cons a B ih =>
    obtain ⟨n1, n2⟩ := List.nodup_cons.mp nd
    show xor (xor (c a) (decide (a = b)) && get a i) (lin B (fun x => xor (c x) (decide (x = b))) i) = xor (xor (c a && get a i) (lin B c i)) (get b i)
    by_cases e : a = b
    · subst e
      rw [lin_congr (c := fun x => xor (c x) (decide (x = a))) (c' := c) fun x hx => by
        have : x ≠ a := fun z => n1 (z ▸ hx)
        simp [this]]
      cases c a <;> cases get a i <;> cases lin B c i <;> simp
    · rw [ih n2 (by rcases List.mem_cons.mp hb with h | h; exact absurd h.symm e; exact h)]
      cases c a <;> cases get a i <;> cases lin B c i <;> cases get b i <;> simp [e]
theorem Red.coef {n : Nat} {B : List Row} (R : Red n B) {v : Row} (hv : Sp n B v) : ∀ i, get v i = lin B (fun b => get v (lead b)) i := by
  induction hv with
  | zero =>
    intro i
    rw [get_zer, lin_false fun b _ => by rw [get_zer]; rfl]
  | @add b v hb hw ih =>
    intro i
    have hl : v.length = b.length := by rw [hw.len R.len, R.len _ hb]
    rw [get_xr i hl, ih i, ← lin_flip R.nd hb]
    refine lin_congr fun x hx => ?_
    rw [get_xr _ hl]
    by_cases e : x = b
    · subst e
      rw [get_lead (R.one _ hb)]
      simp
    · rw [R.red x hx b hb e]
      simp [e]
/-- no leads, no row -/
theorem Red.zero {n : Nat} {B : List Row} (R : Red n B) {v : Row} (hv : Sp n B v) (h : ∀ b ∈ B, get v (lead b) = false) : v = zer n := by
  refine ext (by rw [hv.len R.len]; simp [zer]) fun i => ?_
  rw [R.coef hv i, get_zer, lin_false fun b hb => by rw [h b hb]; rfl]
theorem Red.eq_of {n : Nat} {B : List Row} (R : Red n B) {v w : Row} (hv : Sp n B v) (hw : Sp n B w) (h : ∀ b ∈ B, get v (lead b) = get w (lead b)) : v = w := by
  refine ext (by rw [hv.len R.len, hw.len R.len]) fun i => ?_
  rw [R.coef hv i, R.coef hw i]
  exact lin_congr h
/-- a row's lead is that of a basis row -/
theorem min_of {α : Type} (f : α → Nat) : ∀ {l : List α}, l ≠ [] → ∃ x ∈ l, ∀ y ∈ l, f x ≤ f y
  | [], h => absurd rfl h
  | [x], _ => ⟨x, by simp, fun y hy => by simp at hy; rw [hy]; exact Nat.le_refl _⟩
  | x :: y :: r, _ => by
    obtain ⟨m, hm, hmin⟩ := min_of f (l := y :: r) (by simp)
    by_cases h : f x ≤ f m
    · refine ⟨x, by simp, fun z hz => ?_⟩
      rcases List.mem_cons.mp hz with rfl | hz
      · exact Nat.le_refl _
      · exact Nat.le_trans h (hmin z hz)
    · refine ⟨m, by simp [List.mem_cons.mp hm], fun z hz => ?_⟩
      rcases List.mem_cons.mp hz with rfl | hz
      · omega
      · exact hmin z hz
theorem lin_one {B : List Row} {c : Row → Bool} {i : Nat} {b : Row} (nd : B.Nodup) (hb : b ∈ B) (h : ∀ x ∈ B, x ≠ b → (c x && get x i) = false) : lin B c i = (c b && get b i) := by
  induction B with
  | nil => simp at hb
  | cons a B ih =>
    obtain ⟨n1, n2⟩ := List.nodup_cons.mp nd
    show xor (c a && get a i) (lin B c i) = _
    by_cases e : a = b
    · subst e
      rw [lin_false fun x hx => h x (by simp [hx]) fun z => n1 (z ▸ hx)]
      simp
    · rw [h a (by simp) e, ih n2 (by rcases List.mem_cons.mp hb with h | h; exact absurd h.symm e; exact h) fun x hx => h x (by simp [hx])]
      simp
theorem Red.lead_mem {n : Nat} {B : List Row} (R : Red n B) {v : Row} (hv : Sp n B v) (h1 : true ∈ v) : ∃ b ∈ B, lead v = lead b := by
  have hne : B.filter (fun b => get v (lead b)) ≠ [] := by
    intro e
    have hz : v = zer n := R.zero hv fun b hb => by
      cases z : get v (lead b) with
      | false => rfl
      | true =>
        have : b ∈ B.filter (fun b => get v (lead b)) := List.mem_filter.mpr ⟨hb, z⟩
        rw [e] at this
        simp at this
    rw [hz] at h1
    simp [zer] at h1
  obtain ⟨b, hb, hmin⟩ := min_of lead hne
  obtain ⟨hb, hc⟩ := List.mem_filter.mp hb
  refine ⟨b, hb, lead_of hc fun i hi => ?_⟩
  rw [R.coef hv i]
  refine lin_false fun x hx => ?_
  cases z : get v (lead x) with
  | false => rfl
  | true =>
    have := hmin x (List.mem_filter.mpr ⟨hx, z⟩)
    rw [get_before (show i < lead x by omega)]
    rfl
/-- two reduced lists of one span have the same rows -/
theorem Red.mem_of {n : Nat} {B B' : List Row} (R : Red n B) (R' : Red n B') (e : SpEq n B B') {b : Row} (hb : b ∈ B) : b ∈ B' := by
  obtain ⟨b', hb', el⟩ := R'.lead_mem ((e b).mp (Sp.mem R.len hb)) (R.one b hb)
  have hs : Sp n B b' := (e b').mpr (Sp.mem R'.len hb')
  have : b = b' := by
    refine R.eq_of (Sp.mem R.len hb) hs fun x hx => ?_
    by_cases ex : x = b
    · subst ex
      rw [get_lead (R.one _ hx), el, get_lead (R'.one _ hb')]
    · rw [R.red x hx b hb ex]
      obtain ⟨x', hx', ex'⟩ := R'.lead_mem ((e x).mp (Sp.mem R.len hx)) (R.one x hx)
      have ne : x' ≠ b' := fun z => by
        have h1 := R.red x hx b hb ex
        rw [ex', z, ← el, get_lead (R.one b hb)] at h1
        cases h1
      rw [ex', R'.red x' hx' b' hb' ne]
  rw [this]; exact hb'
/-- by their leads -/
def Asc (B : List Row) : Prop := B.Pairwise fun a b => lead a < lead b
theorem eq_of_asc : ∀ {B B' : List Row}, Asc B → Asc B' → (∀ b, b ∈ B ↔ b ∈ B') → B = B'
  | [], [], _, _, _ => rfl
  | [], b :: _, _, _, h => by have := (h b).mpr (by simp); simp at this
  | b :: _, [], _, _, h => by have := (h b).mp (by simp); simp at this
  | a :: A, b :: B, h1, h2, h => by
    obtain ⟨a1, a2⟩ := List.pairwise_cons.mp h1
    obtain ⟨b1, b2⟩ := List.pairwise_cons.mp h2
    have e : a = b := by
      rcases List.mem_cons.mp ((h a).mp (by simp)) with e | e
      · exact e
      · rcases List.mem_cons.mp ((h b).mpr (by simp)) with e' | e'
        · exact e'.symm
        · have := b1 a e
          have := a1 b e'
          omega
    subst e
    congr 1
    refine eq_of_asc a2 b2 fun x => ⟨fun hx => ?_, fun hx => ?_⟩
    · rcases List.mem_cons.mp ((h x).mp (by simp [hx])) with e | e
      · subst e; have := a1 x hx; omega
      · exact e
    · rcases List.mem_cons.mp ((h x).mpr (by simp [hx])) with e | e
      · subst e; have := b1 x hx; omega
      · exact e

/-! ### the law's way: column by column -/
def cl (p : Nat) (head row : Row) : Row := if get row p then xr row head else row
def stepT (p : Nat) (s : List Row × List Row) : List Row × List Row :=
  match s.1.filter fun row => get row p with
  | [] => s
  | head :: _ => ((s.1.filter fun row => decide (row ≠ head)).map (cl p head), s.2.map (cl p head) ++ [head])
def toldS (n : Nat) (rows : List Row) : List Row × List Row := (List.range n).foldl (fun s p => stepT p s) (rows, [])
def told (n : Nat) (rows : List Row) : List Row := (toldS n rows).2
structure Inv (n : Nat) (rows : List Row) (p : Nat) (s : List Row × List Row) : Prop where
  l1 : Len n s.1
  l2 : Len n s.2
  sp : SpEq n (s.2 ++ s.1) rows
  z : ∀ r ∈ s.1, ∀ i, i < p → get r i = false
  one : ∀ b ∈ s.2, true ∈ b ∧ lead b < p
  asc : Asc s.2
  red : ∀ b ∈ s.2, ∀ b' ∈ s.2, b ≠ b' → get b' (lead b) = false
  cnt : s.1.length + s.2.length ≤ rows.length
theorem cl_len {n p : Nat} {head row : Row} (h : head.length = n) (h' : row.length = n) : (cl p head row).length = n := by
  unfold cl
  split
  · rw [xr_len (by omega), h']
  · exact h'
theorem cl_get {n p : Nat} {head row : Row} (h : head.length = n) (h' : row.length = n) (i : Nat) : get (cl p head row) i = xor (get row i) (get row p && get head i) := by
  unfold cl
  split
  · rename_i e
    rw [get_xr i (by omega), e]
    simp
  · rename_i e
    simp [e]
theorem cl_p {n p : Nat} {head row : Row} (h : head.length = n) (h' : row.length = n) (hp : get head p = true) : get (cl p head row) p = false := by
  rw [cl_get h h', hp]
  simp
theorem Sp.cl {n p : Nat} {B : List Row} (hB : Len n B) {head row : Row} (h : Sp n B head) (h' : Sp n B row) : Sp n B (cl p head row) := by
  unfold GF.cl
  split
  · exact h'.xr hB h
  · exact h'
theorem cl_cl {n p : Nat} {head row : Row} (h : head.length = n) (h' : row.length = n) (hp : get head p = true) : (if get row p then xr (cl p head row) head else cl p head row) = row := by
  unfold cl
  split
  · exact xr_xr (by omega)
  · rfl
theorem Inv.step {n p : Nat} {rows : List Row} {s : List Row × List Row} (I : Inv n rows p s) (hp : p < n) : Inv n rows (p + 1) (stepT p s) := by
  unfold stepT
  split
  · rename_i e
    refine ⟨I.l1, I.l2, I.sp, fun r hr i hi => ?_, fun b hb => ⟨(I.one b hb).1, by have := (I.one b hb).2; omega⟩, I.asc, I.red, I.cnt⟩
    by_cases h : i < p
    · exact I.z r hr i h
    · have : i = p := by omega
      subst this
      cases z : get r i with
      | false => rfl
      | true =>
        have : r ∈ s.1.filter fun row => get row i := List.mem_filter.mpr ⟨hr, z⟩
        rw [e] at this
        simp at this
  · rename_i head rest e
    have hh : head ∈ s.1 ∧ get head p = true := by
      have : head ∈ s.1.filter fun row => get row p := by rw [e]; simp
      exact List.mem_filter.mp this
    have hl : head.length = n := I.l1 _ hh.1
    have hz : ∀ i, i < p → get head i = false := I.z head hh.1
    have hlead : lead head = p := lead_of hh.2 hz
    have before : ∀ {row : Row} (i : Nat), row.length = n → i < p → get (cl p head row) i = get row i := fun {row} i h h2 => by
      rw [cl_get hl h, hz i h2]
      simp
    have nlead : ∀ b ∈ s.2, lead (cl p head b) = lead b := fun b hb => by
      obtain ⟨h1, h2⟩ := I.one b hb
      refine lead_of ?_ fun i hi => ?_
      · rw [before _ (I.l2 b hb) h2]; exact get_lead h1
      · rw [before _ (I.l2 b hb) (by omega)]; exact get_before hi
    have one' : ∀ b ∈ s.2, true ∈ cl p head b := fun b hb => by
      obtain ⟨h1, h2⟩ := I.one b hb
      refine mem_of_get (i := lead b) ?_
      rw [before _ (I.l2 b hb) h2]; exact get_lead h1
    refine ⟨fun r hr => ?_, fun r hr => ?_, fun v => ?_, fun r hr i hi => ?_, fun b hb => ?_, ?_, fun b hb b' hb' hne => ?_, ?_⟩
    · obtain ⟨x, hx, rfl⟩ := List.mem_map.mp hr
      exact cl_len hl (I.l1 x (List.mem_filter.mp hx).1)
    · rcases List.mem_append.mp hr with hr | hr
      · obtain ⟨x, hx, rfl⟩ := List.mem_map.mp hr
        exact cl_len hl (I.l2 x hx)
      · rw [List.mem_singleton.mp hr]; exact hl
    · have L0 : Len n (s.2 ++ s.1) := fun r hr => (List.mem_append.mp hr).elim (I.l2 r) (I.l1 r)
      have hhS : Sp n (s.2 ++ s.1) head := Sp.mem L0 (List.mem_append_right _ hh.1)
      have L1 : Len n ((s.2.map (cl p head) ++ [head]) ++ (s.1.filter fun row => decide (row ≠ head)).map (cl p head)) := fun r hr => by
        rcases List.mem_append.mp hr with hr | hr
        · rcases List.mem_append.mp hr with hr | hr
          · obtain ⟨x, hx, rfl⟩ := List.mem_map.mp hr
            exact cl_len hl (I.l2 x hx)
          · rw [List.mem_singleton.mp hr]; exact hl
        · obtain ⟨x, hx, rfl⟩ := List.mem_map.mp hr
          exact cl_len hl (I.l1 x (List.mem_filter.mp hx).1)
      have hhN : Sp n ((s.2.map (cl p head) ++ [head]) ++ (s.1.filter fun row => decide (row ≠ head)).map (cl p head)) head := Sp.mem L1 (by simp)
      have back : ∀ x, x.length = n → cl p head x ∈ ((s.2.map (cl p head) ++ [head]) ++ (s.1.filter fun row => decide (row ≠ head)).map (cl p head)) → Sp n ((s.2.map (cl p head) ++ [head]) ++ (s.1.filter fun row => decide (row ≠ head)).map (cl p head)) x := fun x hx hm => by
        have q := Sp.mem L1 hm
        have c := cl_cl (p := p) hl hx hh.2
        by_cases z : get x p = true
        · rw [if_pos z] at c
          rw [← c]; exact q.xr L1 hhN
        · rw [if_neg z] at c
          rw [← c]; exact q
      rw [← I.sp v]
      constructor
      · refine Sp.sub L0 fun b hb => ?_
        rcases List.mem_append.mp hb with hb | hb
        · rcases List.mem_append.mp hb with hb | hb
          · obtain ⟨x, hx, rfl⟩ := List.mem_map.mp hb
            exact hhS.cl L0 (Sp.mem L0 (List.mem_append_left _ hx))
          · rw [List.mem_singleton.mp hb]; exact hhS
        · obtain ⟨x, hx, rfl⟩ := List.mem_map.mp hb
          exact hhS.cl L0 (Sp.mem L0 (List.mem_append_right _ (List.mem_filter.mp hx).1))
      · refine Sp.sub L1 fun b hb => ?_
        rcases List.mem_append.mp hb with hb | hb
        · exact back b (I.l2 b hb) (by simp only [List.mem_append, List.mem_map]; exact .inl (.inl ⟨b, hb, rfl⟩))
        · by_cases e : b = head
          · rw [e]; exact hhN
          · exact back b (I.l1 b hb) (by simp only [List.mem_append, List.mem_map, List.mem_filter, decide_eq_true_eq]; exact .inr ⟨b, ⟨hb, e⟩, rfl⟩)
    · obtain ⟨x, hx, rfl⟩ := List.mem_map.mp hr
      have hx := (List.mem_filter.mp hx).1
      by_cases h : i < p
      · rw [before i (I.l1 x hx) h]; exact I.z x hx i h
      · have : i = p := by omega
        subst this
        exact cl_p hl (I.l1 x hx) hh.2
    · rcases List.mem_append.mp hb with hb | hb
      · obtain ⟨x, hx, rfl⟩ := List.mem_map.mp hb
        exact ⟨one' x hx, by rw [nlead x hx]; have := (I.one x hx).2; omega⟩
      · rw [List.mem_singleton.mp hb]
        exact ⟨mem_of_get hh.2, by omega⟩
    · refine List.pairwise_append.mpr ⟨?_, List.pairwise_singleton _ _, fun a ha b hb => ?_⟩
      · refine List.pairwise_map.mpr (List.Pairwise.imp_of_mem (fun {a b} ha hb h => ?_) I.asc)
        rw [nlead a ha, nlead b hb]; exact h
      · obtain ⟨x, hx, rfl⟩ := List.mem_map.mp ha
        rw [List.mem_singleton.mp hb, nlead x hx, hlead]
        exact (I.one x hx).2
    · rcases List.mem_append.mp hb with hb | hb
      · obtain ⟨x, hx, rfl⟩ := List.mem_map.mp hb
        rw [nlead x hx]
        rcases List.mem_append.mp hb' with hb' | hb'
        · obtain ⟨y, hy, rfl⟩ := List.mem_map.mp hb'
          rw [before _ (I.l2 y hy) (I.one x hx).2]
          exact I.red x hx y hy fun z => hne (by rw [z])
        · rw [List.mem_singleton.mp hb']
          exact hz _ (I.one x hx).2
      · rw [List.mem_singleton.mp hb, hlead]
        rcases List.mem_append.mp hb' with hb' | hb'
        · obtain ⟨y, hy, rfl⟩ := List.mem_map.mp hb'
          exact cl_p hl (I.l2 y hy) hh.2
        · exact absurd (by rw [List.mem_singleton.mp hb, List.mem_singleton.mp hb']) hne
    · have := I.cnt
      have lt : (s.1.filter fun row => decide (row ≠ head)).length < s.1.length := List.length_filter_lt_length_iff_exists.mpr ⟨head, hh.1, by simp⟩
      simp only [List.length_map, List.length_append, List.length_cons, List.length_nil]
      omega
theorem inv_fold {n : Nat} {rows : List Row} (h : Len n rows) : ∀ k, k ≤ n → Inv n rows k ((List.range k).foldl (fun s p => stepT p s) (rows, []))
  | 0, _ => ⟨h, fun _ h => by simp at h, fun v => Iff.rfl, fun _ _ i hi => by omega, fun _ h => by simp at h, List.Pairwise.nil, fun _ h => by simp at h, by simp⟩
  | k + 1, hk => by
    rw [List.range_succ, List.foldl_append]
    exact (inv_fold h k (by omega)).step (by omega)
theorem asc_nd {B : List Row} (h : Asc B) : B.Nodup := List.Pairwise.imp (fun {a b} h e => by rw [e] at h; omega) h
theorem told_inv {n : Nat} {rows : List Row} (h : Len n rows) : Inv n rows n (toldS n rows) := inv_fold h n (Nat.le_refl _)
theorem told_red {n : Nat} {rows : List Row} (h : Len n rows) : Red n (told n rows) :=
  have I := told_inv h
  ⟨I.l2, fun b hb => (I.one b hb).1, asc_nd I.asc, I.red⟩
theorem told_asc {n : Nat} {rows : List Row} (h : Len n rows) : Asc (told n rows) := (told_inv h).asc
theorem told_sp {n : Nat} {rows : List Row} (h : Len n rows) : SpEq n (told n rows) rows := fun v => by
  have I := told_inv h
  rw [← I.sp v]
  refine ⟨Sp.perm fun b hb => List.mem_append_left _ hb, Sp.sub I.l2 fun b hb => ?_⟩
  rcases List.mem_append.mp hb with hb | hb
  · exact Sp.mem I.l2 hb
  · have : b = zer n := ext (by rw [I.l1 b hb]; simp [zer]) fun i => by
      rw [get_zer]
      by_cases hi : i < n
      · exact I.z b hb i hi
      · exact get_out (by rw [I.l1 b hb]; omega)
    rw [this]; exact .zero
theorem told_len {n : Nat} {rows : List Row} (h : Len n rows) : (told n rows).length ≤ rows.length := by
  have := (told_inv h).cnt
  unfold told
  omega
/-- the one reduced list, by leads -/
theorem told_uniq {n : Nat} {rows B : List Row} (h : Len n rows) (R : Red n B) (ha : Asc B) (hs : SpEq n B rows) : B = told n rows := by
  have e : SpEq n B (told n rows) := fun v => (hs v).trans (told_sp h v).symm
  exact eq_of_asc ha (told_asc h) fun b => ⟨fun hb => R.mem_of (told_red h) e hb, fun hb => (told_red h).mem_of R (fun v => (e v).symm) hb⟩

/-! ### the program's way: row by row -/
def redBy (found : List Row) (row : Row) : Row := found.foldl (fun here one => if get here (lead one) then xr here one else here) row
def stepR (found : List Row) (row : Row) : List Row :=
  if true ∈ redBy found row then found.map (cl (lead (redBy found row)) (redBy found row)) ++ [redBy found row] else found
def foundR (rows : List Row) : List Row := rows.foldl stepR []
theorem redBy_len {n : Nat} : ∀ {found : List Row} {row : Row}, Len n found → row.length = n → (redBy found row).length = n
  | [], _, _, h => h
  | o :: r, row, hB, h => by
    show (redBy r (if get row (lead o) then xr row o else row)).length = n
    refine redBy_len (fun b hb => hB b (by simp [hb])) ?_
    split
    · rw [xr_len (by rw [h, hB o (by simp)]), h]
    · exact h
/-- what is left of a row has noughts at all leads, and is the row but for the span -/
theorem redBy_ok {n : Nat} {B : List Row} (hB : Len n B) : ∀ {found : List Row} {row : Row}, (∀ b ∈ found, b ∈ B) → (∀ b ∈ found, true ∈ b) → found.Nodup → (∀ b ∈ found, ∀ b' ∈ found, b ≠ b' → get b' (lead b) = false) → row.length = n →
    (∀ b ∈ found, get (redBy found row) (lead b) = false) ∧ (∀ i, (∀ b ∈ found, get b i = false) → get (redBy found row) i = get row i) ∧ ∃ v, Sp n B v ∧ redBy found row = xr row v
  | [], row, _, _, _, _, h => ⟨fun _ hb => by simp at hb, fun _ _ => rfl, zer n, .zero, (xr_zer h).symm⟩
  | o :: r, row, hm, h1, nd, red, h => by
    obtain ⟨n1, n2⟩ := List.nodup_cons.mp nd
    have ho : o.length = n := hB o (hm o (by simp))
    have hl : (if get row (lead o) then xr row o else row).length = n := by
      split
      · rw [xr_len (by omega), h]
      · exact h
    obtain ⟨q1, q2, v, q3, q4⟩ := redBy_ok hB (found := r) (row := if get row (lead o) then xr row o else row) (fun b hb => hm b (by simp [hb])) (fun b hb => h1 b (by simp [hb])) n2 (fun b hb b' hb' => red b (by simp [hb]) b' (by simp [hb'])) hl
    have gi : ∀ i, get (if get row (lead o) then xr row o else row) i = xor (get row i) (get row (lead o) && get o i) := fun i => by
      cases z : get row (lead o) with
      | true => simp only [if_true]; rw [get_xr i (by omega)]; simp
      | false => simp
    refine ⟨fun b hb => ?_, fun i hi => ?_, ?_⟩
    · rcases List.mem_cons.mp hb with e | hb
      · subst e
        show get (redBy r _) (lead b) = false
        rw [q2 (lead b) fun b' hb' => red b (by simp) b' (by simp [hb']) fun z => n1 (z ▸ hb'), gi, get_lead (h1 b (by simp))]
        simp
      · exact q1 b hb
    · show get (redBy r _) i = get row i
      rw [q2 i fun b hb => hi b (by simp [hb]), gi, hi o (by simp)]
      simp
    · show ∃ v, Sp n B v ∧ redBy r (if get row (lead o) then xr row o else row) = xr row v
      by_cases z : get row (lead o) = true
      · rw [if_pos z] at q4 ⊢
        refine ⟨xr o v, (Sp.mem hB (hm o (by simp))).xr hB q3, ?_⟩
        rw [q4, xr_assoc (by omega) (by rw [ho, q3.len hB])]
      · rw [if_neg z] at q4 ⊢
        exact ⟨v, q3, q4⟩
theorem nd_map {α β : Type} {f : α → β} : ∀ {l : List α}, (∀ a ∈ l, ∀ b ∈ l, f a = f b → a = b) → l.Nodup → (l.map f).Nodup
  | [], _, _ => List.nodup_nil
  | a :: l, hf, nd => by
    obtain ⟨n1, n2⟩ := List.nodup_cons.mp nd
    rw [List.map_cons]
    refine List.nodup_cons.mpr ⟨fun h => ?_, nd_map (fun x hx y hy => hf x (by simp [hx]) y (by simp [hy])) n2⟩
    obtain ⟨x, hx, e⟩ := List.mem_map.mp h
    have := hf x (by simp [hx]) a (by simp) e
    subst this
    exact n1 hx
theorem Red.step {n : Nat} {B : List Row} {row : Row} (R : Red n B) (h : row.length = n) : Red n (stepR B row) ∧ SpEq n (stepR B row) (row :: B) := by
  have L1 : Len n (row :: B) := fun r hr => (List.mem_cons.mp hr).elim (fun e => e ▸ h) (R.len r)
  obtain ⟨q1, _, v, q3, q4⟩ := redBy_ok R.len (found := B) (row := row) (fun _ hb => hb) R.one R.nd R.red h
  have hl : (redBy B row).length = n := redBy_len R.len h
  have hv : v.length = n := q3.len R.len
  have hv1 : Sp n (row :: B) v := q3.perm fun b hb => by simp [hb]
  have hrow : Sp n (row :: B) row := Sp.mem L1 (by simp)
  have hred : Sp n (row :: B) (redBy B row) := by rw [q4]; exact hrow.xr L1 hv1
  unfold stepR
  split
  · rename_i ht
    generalize hd : redBy B row = here at *
    have hp := get_lead ht
    have before : ∀ {row : Row} (i : Nat), row.length = n → i < lead here → get (cl (lead here) here row) i = get row i := fun {row} i h h2 => by
      rw [cl_get hl h, get_before h2]
      simp
    have at1 : ∀ b ∈ B, ∀ x ∈ B, get (cl (lead here) here x) (lead b) = get x (lead b) := fun b hb x hx => by
      rw [cl_get hl (R.len x hx), q1 b hb]
      simp
    have nlead : ∀ b ∈ B, lead (cl (lead here) here b) = lead b := fun b hb => by
      refine lead_of ?_ fun i hi => ?_
      · rw [at1 b hb b hb]; exact get_lead (R.one b hb)
      · by_cases z : get b (lead here) = true
        · have : lead b ≤ lead here := by
            rcases Nat.lt_or_ge (lead here) (lead b) with q | q
            · rw [get_before q] at z; cases z
            · exact q
          rw [before _ (R.len b hb) (by omega)]; exact get_before hi
        · unfold cl
          rw [if_neg z]; exact get_before hi
    have one' : ∀ b ∈ B, true ∈ cl (lead here) here b := fun b hb => mem_of_get (i := lead b) (by rw [at1 b hb b hb]; exact get_lead (R.one b hb))
    have nl : ∀ b ∈ B, lead b ≠ lead here := fun b hb z => by
      have := q1 b hb
      rw [z, hp] at this
      cases this
    have L2 : Len n (B.map (cl (lead here) here) ++ [here]) := fun r hr => by
      rcases List.mem_append.mp hr with hr | hr
      · obtain ⟨x, hx, rfl⟩ := List.mem_map.mp hr
        exact cl_len hl (R.len x hx)
      · rw [List.mem_singleton.mp hr]; exact hl
    refine ⟨⟨L2, fun b hb => ?_, ?_, fun b hb b' hb' hne => ?_⟩, fun w => ⟨Sp.sub L1 fun b hb => ?_, Sp.sub L2 fun b hb => ?_⟩⟩
    · rcases List.mem_append.mp hb with hb | hb
      · obtain ⟨x, hx, rfl⟩ := List.mem_map.mp hb
        exact one' x hx
      · rw [List.mem_singleton.mp hb]; exact ht
    · refine List.nodup_append.mpr ⟨nd_map (fun a ha b hb e => ?_) R.nd, by simp, fun a ha b hb e => ?_⟩
      · cases Classical.em (a = b) with
        | inl e => exact e
        | inr hne =>
          have h1 := R.red a ha b hb hne
          have h2 : lead a = lead b := by rw [← nlead a ha, ← nlead b hb, e]
          rw [h2, get_lead (R.one b hb)] at h1
          cases h1
      · obtain ⟨x, hx, rfl⟩ := List.mem_map.mp ha
        rw [List.mem_singleton.mp hb] at e
        have := nlead x hx
        rw [e] at this
        exact nl x hx this.symm
    · rcases List.mem_append.mp hb with hb | hb
      · obtain ⟨x, hx, rfl⟩ := List.mem_map.mp hb
        rw [nlead x hx]
        rcases List.mem_append.mp hb' with hb' | hb'
        · obtain ⟨y, hy, rfl⟩ := List.mem_map.mp hb'
          rw [at1 x hx y hy]
          exact R.red x hx y hy fun z => hne (by rw [z])
        · rw [List.mem_singleton.mp hb']
          exact q1 x hx
      · rw [List.mem_singleton.mp hb]
        rcases List.mem_append.mp hb' with hb' | hb'
        · obtain ⟨y, hy, rfl⟩ := List.mem_map.mp hb'
          exact cl_p hl (R.len y hy) hp
        · exact absurd (by rw [List.mem_singleton.mp hb, List.mem_singleton.mp hb']) hne
    · rcases List.mem_append.mp hb with hb | hb
      · obtain ⟨x, hx, rfl⟩ := List.mem_map.mp hb
        exact hred.cl L1 (Sp.mem L1 (by simp [hx]))
      · rw [List.mem_singleton.mp hb]; exact hred
    · have hh : Sp n (B.map (cl (lead here) here) ++ [here]) here := Sp.mem L2 (by simp)
      have back : ∀ x ∈ B, Sp n (B.map (cl (lead here) here) ++ [here]) x := fun x hx => by
        have q := Sp.mem L2 (b := cl (lead here) here x) (by simp only [List.mem_append, List.mem_map]; exact .inl ⟨x, hx, rfl⟩)
        have c := cl_cl (p := lead here) hl (R.len x hx) hp
        by_cases z : get x (lead here) = true
        · rw [if_pos z] at c
          rw [← c]; exact q.xr L2 hh
        · rw [if_neg z] at c
          rw [← c]; exact q
      rcases List.mem_cons.mp hb with e | hb
      · have : b = xr here v := by rw [e, q4]; exact (xr_xr (by omega)).symm
        rw [this]
        exact hh.xr L2 (Sp.sub L2 back q3)
      · exact back b hb
  · rename_i ht
    refine ⟨R, fun w => ⟨Sp.perm fun b hb => by simp [hb], Sp.sub R.len fun b hb => ?_⟩⟩
    rcases List.mem_cons.mp hb with e | hb
    · have hz : redBy B row = zer n := ext (by rw [hl]; simp [zer]) fun i => by
        rw [get_zer]
        cases z : get (redBy B row) i with
        | false => rfl
        | true => exact absurd (mem_of_get z) ht
      have : b = v := by
        rw [e, ← xr_xr (a := row) (b := v) (by omega), ← q4, hz, zer_xr hv]
      rw [this]; exact q3
    · exact Sp.mem R.len hb
theorem found_fold {n : Nat} : ∀ {rows B A : List Row}, Len n rows → Len n A → Red n B → SpEq n B A → Red n (rows.foldl stepR B) ∧ SpEq n (rows.foldl stepR B) (A ++ rows)
  | [], B, A, _, _, R, e => ⟨R, by simpa using e⟩
  | row :: rows, B, A, h, hA, R, e => by
    obtain ⟨R', e'⟩ := R.step (row := row) (h row (by simp))
    have LA : Len n (A ++ [row]) := fun r hr => (List.mem_append.mp hr).elim (hA r) fun z => by rw [List.mem_singleton.mp z]; exact h row (by simp)
    have LB : Len n (row :: B) := fun r hr => (List.mem_cons.mp hr).elim (fun z => z ▸ h row (by simp)) (R.len r)
    have q := found_fold (rows := rows) (B := stepR B row) (A := A ++ [row]) (fun r hr => h r (by simp [hr])) LA R' fun v => by
      rw [e' v]
      constructor
      · refine Sp.sub LA fun b hb => ?_
        rcases List.mem_cons.mp hb with z | hb
        · rw [z]; exact Sp.mem LA (by simp)
        · exact Sp.perm (fun x hx => List.mem_append_left _ hx) ((e b).mp (Sp.mem R.len hb))
      · refine Sp.sub LB fun b hb => ?_
        rcases List.mem_append.mp hb with hb | hb
        · exact Sp.perm (fun x hx => List.mem_cons_of_mem _ hx) ((e b).mpr (Sp.mem hA hb))
        · rw [List.mem_singleton.mp hb]; exact Sp.mem LB (by simp)
    have ea : A ++ [row] ++ rows = A ++ row :: rows := by simp
    rw [ea] at q
    exact q
theorem found_ok {n : Nat} {rows : List Row} (h : Len n rows) : Red n (foundR rows) ∧ SpEq n (foundR rows) rows := by
  have q := found_fold (A := []) h (fun _ hb => by simp at hb) (show Red n [] from ⟨fun _ hb => by simp at hb, fun _ hb => by simp at hb, List.nodup_nil, fun _ hb => by simp at hb⟩) (fun v => Iff.rfl)
  simpa [foundR] using q
theorem found_mem {n : Nat} {rows : List Row} (h : Len n rows) (b : Row) : b ∈ foundR rows ↔ b ∈ told n rows := by
  obtain ⟨R, e⟩ := found_ok h
  have e2 : SpEq n (foundR rows) (told n rows) := fun v => (e v).trans (told_sp h v).symm
  exact ⟨fun hb => R.mem_of (told_red h) e2 hb, fun hb => (told_red h).mem_of R (fun v => (e2 v).symm) hb⟩
theorem found_perm {n : Nat} {rows : List Row} (h : Len n rows) : (foundR rows).Perm (told n rows) :=
  (List.perm_ext_iff_of_nodup (found_ok h).1.nd (told_red h).nd).mpr (found_mem h)

/-! ### numbers of rows -/
def numF (v : Row) (m : Nat) (B : List Row) : Nat := B.foldl (fun m b => 2 * m + (get v (lead b)).toNat) m
def num (B : List Row) (v : Row) : Nat := numF v 0 B
/-- the rows of B whose bit in m is set: the last row has bit 0 -/
def pickB : List Row → Nat → List Row
  | [], _ => []
  | b :: B, m => if m.testBit B.length then b :: pickB B m else pickB B m
def sumR (n : Nat) (rows : List Row) : Row := rows.foldl xr (zer n)
def gB (n : Nat) (B : List Row) (m : Nat) : Row := sumR n (pickB B m)
theorem numF_eq (v : Row) : ∀ (B : List Row) (m : Nat), numF v m B = m * 2 ^ B.length + num B v
  | [], m => by simp [numF, num]
  | b :: B, m => by
    show numF v (2 * m + (get v (lead b)).toNat) B = m * 2 ^ (B.length + 1) + numF v (2 * 0 + (get v (lead b)).toNat) B
    rw [numF_eq v B, numF_eq v B (2 * 0 + _), Nat.pow_succ]
    simp only [Nat.add_mul, Nat.mul_zero, Nat.zero_mul, Nat.zero_add]
    have : 2 * m * 2 ^ B.length = m * (2 ^ B.length * 2) := by rw [Nat.mul_comm 2 m, Nat.mul_assoc, Nat.mul_comm 2]
    omega
theorem num_cons (b : Row) (B : List Row) (v : Row) : num (b :: B) v = (get v (lead b)).toNat * 2 ^ B.length + num B v := by
  show numF v (2 * 0 + (get v (lead b)).toNat) B = _
  rw [numF_eq]
  simp
theorem num_lt (v : Row) : ∀ B : List Row, num B v < 2 ^ B.length
  | [] => by simp [num, numF]
  | b :: B => by
    rw [num_cons, List.length_cons, Nat.pow_succ]
    have := num_lt v B
    cases get v (lead b) <;> simp <;> omega
theorem pick_of_num (v : Row) : ∀ (B : List Row) (m k : Nat), m = k * 2 ^ B.length + num B v → pickB B m = B.filter fun b => get v (lead b)
  | [], _, _, _ => rfl
  | b :: B, m, k, h => by
    rw [num_cons, List.length_cons, Nat.pow_succ] at h
    have hl := num_lt v B
    have hm : m = (2 * k + (get v (lead b)).toNat) * 2 ^ B.length + num B v := by
      rw [h, Nat.add_mul]
      have : k * (2 ^ B.length * 2) = 2 * k * 2 ^ B.length := by rw [Nat.mul_comm 2 k, Nat.mul_assoc, Nat.mul_comm 2]
      omega
    have ht : m.testBit B.length = get v (lead b) := by
      rw [Nat.testBit_eq_decide_div_mod_eq, hm, Nat.mul_comm, Nat.mul_add_div (Nat.two_pow_pos _), Nat.div_eq_of_lt hl]
      cases get v (lead b) <;> simp <;> omega
    unfold pickB
    rw [ht, pick_of_num v B m (2 * k + (get v (lead b)).toNat) hm, List.filter_cons]
theorem foldl_xr {n : Nat} : ∀ {B : List Row} {a : Row}, Len n B → a.length = n → B.foldl xr a = xr a (sumR n B)
  | [], a, _, h => (xr_zer h).symm
  | b :: B, a, hB, h => by
    have hb := hB b (by simp)
    have hB' : Len n B := fun x hx => hB x (by simp [hx])
    have hs : (sumR n B).length = n := by
      have : ∀ {B : List Row} {a : Row}, Len n B → a.length = n → (B.foldl xr a).length = n := by
        intro B
        induction B with
        | nil => intro a _ h; exact h
        | cons b B ih => intro a hB h; exact ih (fun x hx => hB x (by simp [hx])) (by rw [xr_len (by rw [h, hB b (by simp)]), h])
      exact this hB' (by simp [zer])
    show B.foldl xr (xr a b) = xr a (B.foldl xr (xr (zer n) b))
    rw [foldl_xr hB' (by rw [xr_len (by omega), h]), zer_xr hb, foldl_xr hB' hb, xr_assoc (by omega) (by omega)]
theorem sumR_cons {n : Nat} {B : List Row} {b : Row} (hB : Len n B) (hb : b.length = n) : sumR n (b :: B) = xr b (sumR n B) := by
  show B.foldl xr (xr (zer n) b) = _
  rw [zer_xr hb, foldl_xr hB hb]
theorem sumR_len {n : Nat} {B : List Row} (hB : Len n B) : (sumR n B).length = n := by
  induction B with
  | nil => simp [sumR, zer]
  | cons b B ih =>
    have h2 := ih fun x hx => hB x (by simp [hx])
    rw [sumR_cons (fun x hx => hB x (by simp [hx])) (hB b (by simp)), xr_len (by rw [hB b (by simp), h2]), hB b (by simp)]
theorem sumR_sp {n : Nat} {B : List Row} (hB : Len n B) : ∀ {A : List Row}, (∀ a ∈ A, a ∈ B) → Sp n B (sumR n A)
  | [], _ => .zero
  | a :: A, h => by
    have hA : Len n A := fun x hx => hB x (h x (by simp [hx]))
    rw [sumR_cons hA (hB a (h a (by simp)))]
    exact (Sp.mem hB (h a (by simp))).xr hB (sumR_sp hB fun x hx => h x (by simp [hx]))
theorem get_sumR {n : Nat} : ∀ {A : List Row} (i : Nat), Len n A → get (sumR n A) i = lin A (fun _ => true) i
  | [], i, _ => get_zer n i
  | a :: A, i, h => by
    have hA : Len n A := fun x hx => h x (by simp [hx])
    rw [sumR_cons hA (h a (by simp)), get_xr i (by rw [h a (by simp), sumR_len hA]), get_sumR i hA]
    show _ = xor (true && get a i) (lin A (fun _ => true) i)
    simp
theorem lin_filter (c : Row → Bool) (i : Nat) : ∀ B : List Row, lin (B.filter c) (fun _ => true) i = lin B c i
  | [] => rfl
  | b :: B => by
    rw [List.filter_cons]
    show _ = xor (c b && get b i) (lin B c i)
    rw [← lin_filter c i B]
    cases h : c b with
    | true =>
      show xor (true && get b i) (lin (B.filter c) (fun _ => true) i) = _
      rfl
    | false => simp
theorem Red.num_row {n : Nat} {B : List Row} (R : Red n B) {v : Row} (hv : Sp n B v) : gB n B (num B v) = v := by
  unfold gB
  rw [pick_of_num v B (num B v) 0 (by simp)]
  have hA : Len n (B.filter fun b => get v (lead b)) := fun x hx => R.len x (List.mem_filter.mp hx).1
  refine ext (by rw [sumR_len hA, hv.len R.len]) fun i => ?_
  rw [get_sumR i hA, lin_filter, ← R.coef hv i]
theorem pick_mem : ∀ {B : List Row} {m : Nat} {b : Row}, b ∈ pickB B m → b ∈ B
  | [], _, _, h => h
  | c :: B, m, b, h => by
    unfold pickB at h
    split at h
    · rcases List.mem_cons.mp h with e | h
      · simp [e]
      · simp [pick_mem h]
    · simp [pick_mem h]
theorem gB_sp {n : Nat} {B : List Row} (hB : Len n B) (m : Nat) : Sp n B (gB n B m) := sumR_sp hB fun _ h => pick_mem h
/-- the rows ascend as their numbers do -/
def Lt (a b : Row) : Prop := ∃ p, get a p = false ∧ get b p = true ∧ ∀ i, i < p → get a i = get b i
theorem gB_cons {n : Nat} {B : List Row} {b : Row} (hB : Len n B) (hb : b.length = n) (m : Nat) : gB n (b :: B) m = if m.testBit B.length then xr b (gB n B m) else gB n B m := by
  unfold gB
  rw [pickB]
  split
  · exact sumR_cons (fun x hx => hB x (pick_mem hx)) hb
  · rfl
theorem gB_mod {n : Nat} : ∀ {B : List Row} {m m' : Nat}, m % 2 ^ B.length = m' % 2 ^ B.length → gB n B m = gB n B m'
  | [], _, _, _ => rfl
  | b :: B, m, m', h => by
    have key : ∀ {B : List Row} {m m' : Nat}, m % 2 ^ B.length = m' % 2 ^ B.length → pickB B m = pickB B m' := by
      intro B
      induction B with
      | nil => intros; rfl
      | cons b B ih =>
        intro m m' h
        have h1 : m % 2 ^ B.length = m' % 2 ^ B.length := by
          have e : 2 ^ (B.length + 1) = 2 ^ B.length * 2 := Nat.pow_succ ..
          have := congrArg (fun x => x % 2 ^ B.length) h
          simp only [List.length_cons, e, Nat.mod_mul_right_mod] at this
          exact this
        have h2 : m.testBit B.length = m'.testBit B.length := by
          have := congrArg (fun x => x.testBit B.length) h
          simp only [List.length_cons, Nat.testBit_mod_two_pow] at this
          simpa using this
        unfold pickB
        rw [h2, ih h1]
    unfold gB
    rw [key h]
theorem gB_lt {n : Nat} : ∀ {B : List Row} {m m' : Nat}, Red n B → Asc B → m < m' → m' < 2 ^ B.length → Lt (gB n B m) (gB n B m')
  | [], m, m', _, _, h1, h2 => by simp at h2; omega
  | b :: B, m, m', R, ha, h1, h2 => by
    obtain ⟨a1, a2⟩ := List.pairwise_cons.mp ha
    obtain ⟨n1, n2⟩ := List.nodup_cons.mp R.nd
    have RB : Red n B := ⟨fun x hx => R.len x (by simp [hx]), fun x hx => R.one x (by simp [hx]), n2, fun x hx y hy => R.red x (by simp [hx]) y (by simp [hy])⟩
    have hb := R.len b (by simp)
    have len : ∀ k, (gB n B k).length = n := fun k => (gB_sp RB.len k).len RB.len
    have zb : ∀ k i, i ≤ lead b → get (gB n B k) i = false := fun k i hi => by
      rw [RB.coef (gB_sp RB.len k) i]
      refine lin_false fun x hx => ?_
      rw [get_before (show i < lead x by have := a1 x hx; omega)]
      simp
    rw [List.length_cons, Nat.pow_succ] at h2
    have tb : ∀ k, k < 2 ^ B.length * 2 → k.testBit B.length = decide (2 ^ B.length ≤ k) := fun k hk => by
      rw [Nat.testBit_eq_decide_div_mod_eq]
      by_cases h : 2 ^ B.length ≤ k
      · have : k / 2 ^ B.length = 1 := by
          rw [Nat.div_eq_iff (Nat.two_pow_pos _)]
          omega
        simp [this, h]
      · have : k / 2 ^ B.length = 0 := Nat.div_eq_of_lt (by omega)
        simp [this, h]
    rw [gB_cons RB.len hb, gB_cons RB.len hb, tb m (by omega), tb m' h2]
    by_cases c1 : 2 ^ B.length ≤ m
    · have c2 : 2 ^ B.length ≤ m' := by omega
      simp only [c1, c2, decide_true, if_true]
      obtain ⟨p, p1, p2, p3⟩ := gB_lt (m := m - 2 ^ B.length) (m' := m' - 2 ^ B.length) RB a2 (by omega) (by omega)
      have e1 : gB n B m = gB n B (m - 2 ^ B.length) := gB_mod (by
        have : m = m - 2 ^ B.length + 2 ^ B.length := by omega
        rw [this, Nat.add_mod_right]
        simp)
      have e2 : gB n B m' = gB n B (m' - 2 ^ B.length) := gB_mod (by
        have : m' = m' - 2 ^ B.length + 2 ^ B.length := by omega
        rw [this, Nat.add_mod_right]
        simp)
      rw [e1, e2]
      -- at p: b has a nought there
      have hp : get b p = false := by
        cases hB' : B with
        | nil => rw [hB'] at p2; simp [gB, sumR, pickB, get_zer] at p2
        | cons x B' =>
          -- p is a lead of B
          cases z : get b p with
          | false => rfl
          | true =>
            exfalso
            have w := (gB_sp RB.len (m - 2 ^ B.length)).xr RB.len (gB_sp RB.len (m' - 2 ^ B.length))
            have hw : lead (xr (gB n B (m - 2 ^ B.length)) (gB n B (m' - 2 ^ B.length))) = p := lead_of (by rw [get_xr p (by rw [len, len]), p1, p2]; rfl) fun i hi => by rw [get_xr i (by rw [len, len]), p3 i hi]; simp
            obtain ⟨y, hy, ey⟩ := RB.lead_mem w (mem_of_get (i := p) (by rw [get_xr p (by rw [len, len]), p1, p2]; rfl))
            have := R.red y (by simp [hy]) b (by simp) (fun e => n1 (e ▸ hy))
            rw [← ey, hw, z] at this
            cases this
      refine ⟨p, ?_, ?_, fun i hi => ?_⟩
      · rw [get_xr p (by rw [len, hb]), hp, p1]; rfl
      · rw [get_xr p (by rw [len, hb]), hp, p2]; rfl
      · rw [get_xr i (by rw [len, hb]), get_xr i (by rw [len, hb]), p3 i hi]
    · by_cases c2 : 2 ^ B.length ≤ m'
      · simp only [c1, c2, decide_true, decide_false, if_true, Bool.false_eq_true, if_false]
        refine ⟨lead b, zb _ _ (Nat.le_refl _), ?_, fun i hi => ?_⟩
        · rw [get_xr _ (by rw [len, hb]), get_lead (R.one b (by simp)), zb _ _ (Nat.le_refl _)]; rfl
        · rw [get_xr _ (by rw [len, hb]), get_before hi, zb _ _ (by omega), zb _ _ (by omega)]; rfl
      · simp only [c1, c2, decide_false, Bool.false_eq_true, if_false]
        exact gB_lt RB a2 h1 (by omega)
/-! ### all sums -/
def allSums (n : Nat) (rows : List Row) : List Row := rows.foldl (fun found row => found ++ found.map (xr row)) [zer n]
theorem allSums_len (n : Nat) (rows : List Row) : (allSums n rows).length = 2 ^ rows.length := by
  have key : ∀ (rows : List Row) (f : List Row), (rows.foldl (fun found row => found ++ found.map (xr row)) f).length = f.length * 2 ^ rows.length := by
    intro rows
    induction rows with
    | nil => intro f; simp
    | cons r rows ih =>
      intro f
      show (rows.foldl _ (f ++ f.map (xr r))).length = _
      rw [ih, List.length_append, List.length_map, List.length_cons, Nat.pow_succ, ← Nat.mul_two, Nat.mul_assoc, Nat.mul_comm 2]
  unfold allSums
  rw [key]
  simp
theorem allSums_mem {n : Nat} {rows : List Row} (h : Len n rows) {v : Row} (hv : Sp n rows v) : v ∈ allSums n rows := by
  have key : ∀ (A rows f : List Row), Len n (A ++ rows) → (∀ v, Sp n A v → v ∈ f) → ∀ v, Sp n (A ++ rows) v → v ∈ rows.foldl (fun found row => found ++ found.map (xr row)) f := by
    intro A rows
    induction rows generalizing A with
    | nil => intro f _ hf v hv; rw [List.append_nil] at hv; exact hf v hv
    | cons r rows ih =>
      intro f hL hf v hv
      have e : A ++ r :: rows = (A ++ [r]) ++ rows := by simp
      rw [e] at hv hL
      refine ih (A ++ [r]) (f ++ f.map (xr r)) hL (fun w hw => ?_) v hv
      have LA : Len n A := fun x hx => hL x (by simp [hx])
      have hr : r.length = n := hL r (by simp)
      -- w is v or r + v
      have : (Sp n A w ∨ ∃ u, Sp n A u ∧ w = xr r u) := by
        induction hw with
        | zero => exact .inl .zero
        | @add b u hb _ ih =>
          rcases List.mem_append.mp hb with hb | hb
          · rcases ih with ih | ⟨u', hu', e⟩
            · exact .inl (.add hb ih)
            · refine .inr ⟨xr u' b, .add hb hu', ?_⟩
              rw [e, xr_assoc (by rw [hr, hu'.len LA]) (by rw [hu'.len LA, LA b hb])]
          · rw [List.mem_singleton.mp hb]
            rcases ih with ih | ⟨u', hu', e⟩
            · exact .inr ⟨u, ih, xr_comm (by rw [ih.len LA, hr])⟩
            · refine .inl ?_
              have e2 : xr r u' = xr u' r := xr_comm (by rw [hr, hu'.len LA])
              rw [e, e2, xr_xr (by rw [hu'.len LA, hr])]
              exact hu'
      rcases this with h | ⟨u, hu, e⟩
      · exact List.mem_append_left _ (hf w h)
      · exact List.mem_append_right _ (List.mem_map.mpr ⟨u, hf u hu, e.symm⟩)
  refine key [] rows [zer n] (by simpa using h) (fun v hv => ?_) v (by simpa using hv)
  cases hv with
  | zero => simp
  | add hb _ => simp at hb
theorem perm_of {α : Type} [DecidableEq α] : ∀ {l l' : List α}, l.Nodup → (∀ x ∈ l, x ∈ l') → l'.length ≤ l.length → l'.Perm l
  | [], l', _, _, h => by
    have : l' = [] := List.eq_nil_of_length_eq_zero (by simpa using h)
    rw [this]
  | x :: l, l', nd, hs, h => by
    obtain ⟨n1, n2⟩ := List.nodup_cons.mp nd
    have hx := hs x (by simp)
    have p1 := List.perm_cons_erase hx
    refine p1.trans (List.Perm.cons x (perm_of n2 (fun y hy => ?_) ?_))
    · exact (List.mem_erase_of_ne (fun e : y = x => n1 (by rw [← e]; exact hy))).mpr (hs y (by simp [hy]))
    · have := p1.length_eq
      simp at this h
      omega
theorem lt_irrefl {a : Row} : ¬ Lt a a := fun ⟨p, h1, h2, _⟩ => by rw [h1] at h2; cases h2
theorem all_perm {n : Nat} {rows : List Row} (h : Len n rows) (hi : (told n rows).length = rows.length) : (allSums n rows).Perm ((List.range (2 ^ rows.length)).map (gB n (told n rows))) := by
  have R := told_red h
  have A := told_asc h
  refine perm_of ?_ (fun x hx => ?_) (by rw [allSums_len]; simp)
  · refine nd_map (fun a ha b hb e => ?_) List.nodup_range
    have ha := List.mem_range.mp ha
    have hb := List.mem_range.mp hb
    rcases Nat.lt_trichotomy a b with q | q | q
    · have := gB_lt R A q (by rw [hi]; exact hb)
      rw [e] at this
      exact absurd this lt_irrefl
    · exact q
    · have := gB_lt R A q (by rw [hi]; exact ha)
      rw [e] at this
      exact absurd this lt_irrefl
  · obtain ⟨m, _, rfl⟩ := List.mem_map.mp hx
    exact allSums_mem h ((told_sp h _).mp (gB_sp R.len m))
theorem all_asc {n : Nat} {rows : List Row} (h : Len n rows) (hi : (told n rows).length = rows.length) : ((List.range (2 ^ rows.length)).map (gB n (told n rows))).Pairwise Lt := by
  refine List.pairwise_map.mpr (List.Pairwise.imp_of_mem (fun {a b} ha hb q => ?_) List.pairwise_lt_range)
  exact gB_lt (told_red h) (told_asc h) q (by rw [hi]; exact List.mem_range.mp hb)
theorem ind_sub {n : Nat} {rows : List Row} {r : Row} (h : Len n (rows ++ [r])) (hk : (told n rows).length = rows.length) (hl : rows.length < (told n (rows ++ [r])).length) : (told n (rows ++ [r])).length = (rows ++ [r]).length := by
  have := told_len h
  simp at this ⊢
  omega
theorem told_perm {n : Nat} {rows rows' : List Row} (h : Len n rows) (p : rows'.Perm rows) : told n rows' = told n rows := by
  have h' : Len n rows' := fun r hr => h r (p.subset hr)
  refine (told_uniq h (told_red h') (told_asc h') fun v => (told_sp h' v).trans ⟨Sp.perm fun b hb => p.subset hb, Sp.perm fun b hb => p.symm.subset hb⟩)
theorem told_told {n : Nat} {rows : List Row} (h : Len n rows) : told n (told n rows) = told n rows :=
  (told_uniq (told_red h).len (told_red h) (told_asc h) fun _ => Iff.rfl).symm

theorem stepT_len {n p : Nat} {s : List Row × List Row} (h1 : Len n s.1) (h2 : Len n s.2) : Len n (stepT p s).1 ∧ Len n (stepT p s).2 ∧ (stepT p s).1.length + (stepT p s).2.length ≤ s.1.length + s.2.length := by
  unfold stepT
  split
  · exact ⟨h1, h2, Nat.le_refl _⟩
  · rename_i head rest e
    have hh : head ∈ s.1 := by
      have : head ∈ s.1.filter fun row => get row p := by rw [e]; simp
      exact (List.mem_filter.mp this).1
    have hl : head.length = n := h1 _ hh
    refine ⟨fun r hr => ?_, fun r hr => ?_, ?_⟩
    · obtain ⟨x, hx, rfl⟩ := List.mem_map.mp hr
      exact cl_len hl (h1 x (List.mem_filter.mp hx).1)
    · rcases List.mem_append.mp hr with hr | hr
      · obtain ⟨x, hx, rfl⟩ := List.mem_map.mp hr
        exact cl_len hl (h2 x hx)
      · rw [List.mem_singleton.mp hr]; exact hl
    · have lt : (s.1.filter fun row => decide (row ≠ head)).length < s.1.length := List.length_filter_lt_length_iff_exists.mpr ⟨head, hh, by simp⟩
      simp only [List.length_map, List.length_append, List.length_cons, List.length_nil]
      omega
end GF

set_option Elab.async false
set_option linter.all false
set_option maxRecDepth 100000
set_option maxHeartbeats 4000000
namespace Mi
open PySem PySem.Spec PyProof.Rows L2

/-! ### plain laws: tools -/
theorem mapW_of {α : Type} {f : D → (Option D → Prop) → Prop} (e : α → D) (g : α → Option D) : ∀ (xs : List α) {P : List D → Prop}, (∀ x ∈ xs, ∀ k : Option D → Prop, k (g x) → f (e x) k) → P (xs.filterMap g) → mapW (xs.map e) f P
  | [], P, _, h => h
  | x :: xs, P, hf, h => by
    refine hf x (by simp) _ (mapW_of e g xs (fun y hy => hf y (by simp [hy])) ?_)
    cases hg : g x with
    | none => simpa [List.filterMap_cons, hg] using h
    | some y => simpa [List.filterMap_cons, hg] using h
/-- with no test -/
theorem mapW_all {α : Type} {f : D → (Option D → Prop) → Prop} (e g : α → D) (xs : List α) {P : List D → Prop} (hf : ∀ x ∈ xs, ∀ k : Option D → Prop, k (some (g x)) → f (e x) k) (h : P (xs.map g)) : mapW (xs.map e) f P :=
  mapW_of e (fun x => some (g x)) xs hf (by simpa using h)
theorem mapW_rel {α : Type} {f : D → (Option D → Prop) → Prop} {R : α → D → Prop} (e : α → D) : ∀ (xs : List α) {P : List D → Prop}, (∀ x ∈ xs, ∀ k : Option D → Prop, (∀ y, R x y → k (some y)) → f (e x) k) →
    (∀ ys : List D, ys.length = xs.length → (∀ (i : Nat) x y, xs[i]? = some x → ys[i]? = some y → R x y) → P ys) → mapW (xs.map e) f P
  | [], P, _, h => h [] rfl fun i x y e1 _ => by simp at e1
  | x :: xs, P, hf, h => by
    refine hf x (by simp) _ fun y hy => mapW_rel e xs (fun z hz => hf z (by simp [hz])) fun ys hl hys => h (y :: ys) (by simp [hl]) fun i a b e1 e2 => ?_
    cases i with
    | zero => simp at e1 e2; subst e1 e2; exact hy
    | succ i => exact hys i a b (by simpa using e1) (by simpa using e2)
theorem forS_ind {α : Type} {g : D → Env → W Env} {u : Env → EndsM → Prop} {E : EndsM} (e : α → D) (J : List α → Env → Prop)
    (hstep : ∀ x rest env, J (x :: rest) env → ∀ F : Env → Prop, (∀ env2, J rest env2 → F env2) → g (e x) env fun env1 => u env1 { E with nx := F, ct := F, bk := E.nx }) (hdone : ∀ env, J [] env → E.nx env) :
    ∀ (xs : List α) (env : Env), J xs env → forS g u (xs.map e) env E
  | [], env, h => hdone env h
  | x :: xs, env, h => hstep x xs env h _ fun env2 h2 => forS_ind e J hstep hdone xs env2 h2
theorem atI_at {α : Type} {xs : List α} {i : Nat} {x : α} (h : xs[i]? = some x) : atI xs ((i : Nat) : Int) = some x := by
  have hi : i < xs.length := (List.getElem?_eq_some_iff.mp h).1
  unfold atI ixN
  rw [if_pos (by omega), if_pos (by omega)]
  simpa using h
theorem idx_list {xs : List D} {i : Nat} {d : D} {P : D → Prop} (h : xs[i]? = some d) (hp : P d) : idxW (.list xs) (.int (i : Nat)) P := ⟨d, atI_at h, hp⟩
theorem idx_tuple {xs : List D} {i : Nat} {d : D} {P : D → Prop} (h : xs[i]? = some d) (hp : P d) : idxW (.tuple xs) (.int (i : Nat)) P := ⟨d, atI_at h, hp⟩
theorem enumD_eq (k : Nat) : ∀ ds : List D, enumD k ds = (ds.zipIdx k).map fun p => PyData.tuple [.int (p.2 : Nat), p.1]
  | [] => rfl
  | d :: ds => by simp [enumD, enumD_eq (k + 1) ds]
theorem rangeD0 (n : Nat) : rangeD 0 n = (List.range n).map fun i : Nat => PyData.int (i : Nat) := by simp [rangeD]
/-! ### data that may be shown, compared, sorted -/
structure Tm (k L : Nat) (d : D) : Prop where
  lay : d.canLay0 = true
  dep : d.depth ≤ k
  sh : d.showable = true
  len : d.shown.length ≤ L
  ok : PyData.strOk d.shown = true
theorem ok_app {x y : Str} (h : PyData.strOk x = true) (h' : PyData.strOk y = true) : PyData.strOk (x ++ y) = true := by
  unfold PyData.strOk at *
  show (x.cps ++ y.cps).all _ = true
  rw [Array.all_append, h, h']; rfl
theorem ok_str (s : String) : PyData.strOk (Str.ofString s) = true := by
  unfold PyData.strOk
  rw [Str.ofString_eq_toList]
  simp only [List.all_toArray, List.all_map, List.all_eq_true, Function.comp, decide_eq_true_eq]
  intro c _
  have := c.valid
  have h : c.toNat < 0x110000 := by
    rcases this with h | h
    · have : c.val.toNat < 0xd800 := h
      show c.val.toNat < _
      omega
    · exact h.2
  exact h
theorem Tm.mono {k k' L L' : Nat} {d : D} (h : Tm k L d) (hk : k ≤ k') (hL : L ≤ L') : Tm k' L' d := ⟨h.lay, Nat.le_trans h.dep hk, h.sh, Nat.le_trans h.len hL, h.ok⟩
theorem Tm.int {i : Int} {k : Nat} (hk : 0 < k) (hk2 : k ≤ 18) (h : i.natAbs < 10 ^ k) : Tm 0 (k + 1) (.int i) := by
  refine ⟨rfl, Nat.le_refl _, ?_, ?_, ok_str _⟩
  · simp only [PyData.showable, decide_eq_true_eq]
    have h2 : i.natAbs < 2 ^ 64 := Nat.lt_of_lt_of_le h (Nat.le_trans (Nat.pow_le_pow_right (by omega) hk2) (by decide))
    by_cases h0 : i.natAbs = 0
    · rw [h0]; decide
    · have := (Nat.log2_lt h0).mpr h2
      omega
  · rw [show (PyData.int i).shown = Str.ofString (toString i) from rfl, PySem.ofString_length]
    exact int_text_length_le10 hk h
theorem Tm.int1 {i : Int} (h : i.natAbs < 10 ^ 9) : Tm 0 10 (.int i) := Tm.int (by omega) (by omega) h
theorem Tm.bool {b : Bool} : Tm 0 5 (.bool b) := ⟨rfl, Nat.le_refl _, rfl, by cases b <;> decide, by cases b <;> exact ok_str _⟩
theorem Tm.none : Tm 0 4 .none := ⟨rfl, Nat.le_refl _, rfl, by decide, ok_str _⟩
theorem shownAll_len (ds : List D) : (PyData.shownAll ds).length = ds.length := by
  induction ds with
  | nil => rfl
  | cons d ds ih => simp [PyData.shownAll, ih]
theorem shownAll_mem {ds : List D} {t : Str} (h : t ∈ PyData.shownAll ds) : ∃ d ∈ ds, t = d.shown := by
  induction ds with
  | nil => simp [PyData.shownAll] at h
  | cons d ds ih =>
    simp only [PyData.shownAll, List.mem_cons] at h
    rcases h with h | h
    · exact ⟨d, by simp, h⟩
    · obtain ⟨d', h1, h2⟩ := ih h
      exact ⟨d', by simp [h1], h2⟩
theorem join_le {L : Nat} : ∀ {ts : List Str}, (∀ t ∈ ts, t.length ≤ L) → (Str.join ", " ts).length ≤ ts.length * (L + 2)
  | [], _ => by simp [Str.join]; rfl
  | [x], h => by
    show x.length ≤ _
    have := h x (by simp)
    simp
    omega
  | x :: y :: r, h => by
    have ih := join_le (ts := y :: r) fun t ht => h t (by simp at ht ⊢; right; exact ht)
    have := h x (by simp)
    show (x ++ ", " ++ Str.join ", " (y :: r)).length ≤ _
    rw [strLen_append, strLen_append]
    have e2 : ((", " : String) : Str).length = 2 := rfl
    rw [e2]
    simp only [List.length_cons, Nat.add_mul, Nat.one_mul] at ih ⊢
    omega
theorem textFrom_le {L : Nat} : ∀ (ts : List Str) (k : Nat) (acc : Str), (∀ t ∈ ts, t.length ≤ L) → (textFrom k acc ts).length ≤ acc.length + ts.length * (L + 2)
  | [], k, acc, _ => by simp [textFrom]
  | t :: r, k, acc, h => by
    have ih := textFrom_le r (k + 1) (acc ++ (if k > 0 then ", " else "" : String) ++ t) fun x hx => h x (by simp [hx])
    have := h t (by simp)
    have e : (acc ++ (if k > 0 then ", " else "" : String) ++ t).length ≤ acc.length + 2 + t.length := by
      rw [strLen_append, strLen_append]
      split <;> (show _ + _ + _ ≤ _ + _ + _) <;> first
        | exact Nat.le_refl _
        | (have : ((("" : String) : Str)).length = 0 := rfl; rw [this]; omega)
    show (textFrom (k + 1) (acc ++ (if k > 0 then ", " else "" : String) ++ t) r).length ≤ _
    simp only [List.length_cons, Nat.add_mul, Nat.one_mul]
    omega
theorem ok_join : ∀ {ts : List Str}, (∀ t ∈ ts, PyData.strOk t = true) → PyData.strOk (Str.join ", " ts) = true
  | [], _ => ok_str ""
  | [x], h => h x (by simp)
  | x :: y :: r, h => ok_app (ok_app (h x (by simp)) (ok_str ", ")) (ok_join (ts := y :: r) fun t ht => h t (by simp at ht ⊢; right; exact ht))
theorem ok_from : ∀ (ts : List Str) (k : Nat) (acc : Str), PyData.strOk acc = true → (∀ t ∈ ts, PyData.strOk t = true) → PyData.strOk (textFrom k acc ts) = true
  | [], _, _, h, _ => h
  | t :: r, k, acc, h, h2 => ok_from r (k + 1) _ (ok_app (ok_app h (by split <;> exact ok_str _)) (h2 t (by simp))) fun x hx => h2 x (by simp [hx])
section
variable {k L : Nat} {ds : List D}
theorem layAll (h : ∀ d ∈ ds, Tm k L d) : PyData.canLayAll0 ds = true := by
  induction ds with
  | nil => rfl
  | cons d ds ih => simp only [PyData.canLayAll0, Bool.and_eq_true]; exact ⟨(h d (by simp)).lay, ih fun x hx => h x (by simp [hx])⟩
theorem showAll (h : ∀ d ∈ ds, Tm k L d) : PyData.showableAll ds = true := by
  induction ds with
  | nil => rfl
  | cons d ds ih => simp only [PyData.showableAll, Bool.and_eq_true]; exact ⟨(h d (by simp)).sh, ih fun x hx => h x (by simp [hx])⟩
theorem depAll (h : ∀ d ∈ ds, Tm k L d) : PyData.depthAll ds ≤ k := by
  induction ds with
  | nil => exact Nat.zero_le _
  | cons d ds ih => simp only [PyData.depthAll]; exact Nat.max_le.mpr ⟨(h d (by simp)).dep, ih fun x hx => h x (by simp [hx])⟩
theorem Tm.tuple (h : ∀ d ∈ ds, Tm k L d) : Tm (k + 1) (ds.length * (L + 2) + 3) (.tuple ds) := by
  refine ⟨by simpa [PyData.canLay0] using layAll h, by simp only [PyData.depth]; have := depAll h; omega, by simpa [PyData.showable] using showAll h, ?_, ok_app (ok_app (ok_str "(") (ok_join fun t ht => by obtain ⟨d, h1, h2⟩ := shownAll_mem ht; rw [h2]; exact (h d h1).ok)) (by split <;> exact ok_str _)⟩
  have hj := join_le (L := L) (ts := PyData.shownAll ds) fun t ht => by
    obtain ⟨d, h1, h2⟩ := shownAll_mem ht
    rw [h2]; exact (h d h1).len
  rw [shownAll_len] at hj
  show (tupleText (PyData.shownAll ds)).length ≤ _
  unfold tupleText
  rw [strLen_append, strLen_append]
  have e1 : ((("(" : String) : Str)).length = 1 := rfl
  rw [e1]
  split
  · have : (((",)" : String) : Str)).length = 2 := rfl
    rw [this]; omega
  · have : (((")" : String) : Str)).length = 1 := rfl
    rw [this]; omega
theorem Tm.list (h : ∀ d ∈ ds, Tm k L d) : Tm (k + 1) (ds.length * (L + 2) + 3) (.list ds) := by
  refine ⟨by simpa [PyData.canLay0] using layAll h, by simp only [PyData.depth]; have := depAll h; omega, by simpa [PyData.showable] using showAll h, ?_, ok_app (ok_from _ _ _ (ok_str "[") fun t ht => by obtain ⟨d, h1, h2⟩ := shownAll_mem ht; rw [h2]; exact (h d h1).ok) (ok_str "]")⟩
  have hj := textFrom_le (L := L) (PyData.shownAll ds) 0 "[" fun t ht => by
    obtain ⟨d, h1, h2⟩ := shownAll_mem ht
    rw [h2]; exact (h d h1).len
  rw [shownAll_len] at hj
  show (listText (PyData.shownAll ds)).length ≤ _
  unfold listText
  rw [strLen_append]
  have e1 : ((("[" : String) : Str)).length = 1 := rfl
  have e2 : ((("]" : String) : Str)).length = 1 := rfl
  rw [e1] at hj
  rw [e2]; omega
end
theorem Tm.shaped {k L : Nat} {d : D} (h : Tm k L d) (hk : k ≤ 64) : SeqAt.shaped d = true := by
  unfold SeqAt.shaped
  rw [h.lay, Bool.true_and, decide_eq_true_eq]
  exact Nat.le_trans h.dep hk
theorem Tm.repr {k L : Nat} {d : D} {P : D → Prop} (h : Tm k L d) (hk : k ≤ 60) (hL : L ≤ 16777216) (hP : P (.str d.shown)) : reprW [d] P := ⟨⟨h.sh, Nat.le_trans h.len hL, Nat.le_trans h.dep hk⟩, hP⟩
theorem shaped_str {x : Str} (h : PyData.strOk x = true) : SeqAt.shaped (.str x) = true := by simp [SeqAt.shaped, PyData.canLay0, PyData.depth, h]
theorem ne_same {x : Str} {P : Bool → Prop} (hx : PyData.strOk x = true) (h : P false) : notB (eqW (.str x) (.str x)) P := ⟨shaped_str hx, shaped_str hx, by
  have e : PyData.eqv (.str x) (.str x) = true := by simp [PyData.eqv]
  show P (!PyData.eqv (.str x) (.str x))
  rw [e]; exact h⟩
theorem eq_same {x : Str} {P : Bool → Prop} (hx : PyData.strOk x = true) (h : P true) : eqW (.str x) (.str x) P := ⟨shaped_str hx, shaped_str hx, by
  have e : PyData.eqv (.str x) (.str x) = true := by simp [PyData.eqv]
  rw [e]; exact h⟩
/-! rows of bits -/
abbrev Rw := GF.Row
def bit (b : Bool) : D := .int (if b then 1 else 0)
def rowD (r : Rw) : D := .tuple (r.map bit)
theorem tm_bit (b : Bool) : Tm 0 2 (bit b) := Tm.int (k := 1) (by omega) (by omega) (by cases b <;> decide)
theorem tm_row {n : Nat} {r : Rw} (h : r.length ≤ n) : Tm 1 (n * 4 + 3) (rowD r) := by
  have q := Tm.tuple (k := 0) (L := 2) (ds := r.map bit) fun d hd => by
    obtain ⟨b, _, rfl⟩ := List.mem_map.mp hd
    exact tm_bit b
  rw [List.length_map] at q
  exact q.mono (Nat.le_refl _) (by omega)
theorem eqv_bit (a b : Bool) : PyData.eqv (bit a) (bit b) = (a == b) := by cases a <;> cases b <;> rfl
theorem eq_bit {a b : Bool} {P : Bool → Prop} (h : P (a == b)) : eqW (bit a) (bit b) P := ⟨(tm_bit a).shaped (by omega), (tm_bit b).shaped (by omega), by rw [eqv_bit]; exact h⟩
theorem eq_one {a : Bool} {P : Bool → Prop} (h : P a) : eqW (bit a) (.int 1) P := by
  have := eq_bit (a := a) (b := true) (P := P) (by cases a <;> exact h)
  exact this
theorem eqv_bits : ∀ {a b : Rw}, PyData.eqvAll (a.map bit) (b.map bit) = decide (a = b)
  | [], [] => rfl
  | [], _ :: _ => by simp [PyData.eqvAll]
  | _ :: _, [] => by simp [PyData.eqvAll]
  | x :: a, y :: b => by
    simp only [List.map_cons, PyData.eqvAll, eqv_bit, eqv_bits]
    cases x <;> cases y <;> simp
theorem eq_row {a b : Rw} {P : Bool → Prop} (h : P (decide (a = b))) : eqW (rowD a) (rowD b) P :=
  ⟨(tm_row (Nat.le_refl _)).shaped (by omega), (tm_row (Nat.le_refl _)).shaped (by omega), by show P (PyData.eqvAll (a.map bit) (b.map bit)); rw [eqv_bits]; exact h⟩
theorem row_at {r : Rw} {i : Nat} (h : i < r.length) : (r.map bit)[i]? = some (bit (GF.get r i)) := by
  unfold GF.get
  rw [List.getElem?_map, List.getD_eq_getElem?_getD, List.getElem?_eq_getElem h]
  rfl
theorem idx_row {r : Rw} {i : Nat} {P : D → Prop} (h : i < r.length) (hP : P (bit (GF.get r i))) : idxW (rowD r) (.int (i : Nat)) P := idx_tuple (row_at h) hP
theorem any_one : ∀ r : Rw, ((r.map bit).any fun y => PyData.eqv y (.int 1)) = decide (true ∈ r)
  | [] => rfl
  | b :: r => by
    rw [List.map_cons, List.any_cons, any_one r]
    cases b
    · have e : PyData.eqv (bit false) (.int 1) = false := rfl
      rw [e]; simp
    · have e : PyData.eqv (bit true) (.int 1) = true := rfl
      rw [e]; simp
theorem in_row {r : Rw} {P : Bool → Prop} (h : P (decide (true ∈ r))) : inW (.int 1) (rowD r) P := by
  refine ⟨by simp [SeqAt.shaped, PyData.canLay0, PyData.depth], layAll (k := 0) (L := 2) fun d hd => ?_, by rw [any_one]; exact h⟩
  obtain ⟨b, _, rfl⟩ := List.mem_map.mp hd
  exact tm_bit b
theorem ne_nil {k L : Nat} {ds : List D} {P : Bool → Prop} (ht : Tm k L (.list ds)) (hk : k ≤ 64) (h : P (!ds.isEmpty)) : notB (eqW (.list ds) (.list [])) P := by
  refine ⟨ht.shaped hk, by decide, ?_⟩
  have e : PyData.eqv (.list ds) (.list []) = ds.isEmpty := by cases ds <;> simp [PyData.eqv, PyData.eqvAll]
  rw [e]; exact h
theorem tm_rows {n : Nat} {rs : List Rw} (h : ∀ r ∈ rs, r.length = n) : Tm 2 (rs.length * (n * 4 + 5) + 3) (.list (rs.map rowD)) := by
  have q := Tm.list (k := 1) (L := n * 4 + 3) (ds := rs.map rowD) fun d hd => by
    obtain ⟨r, hr, rfl⟩ := List.mem_map.mp hd
    exact tm_row (Nat.le_of_eq (h r hr))
  rw [List.length_map] at q
  exact q
theorem tm_rowsT {n : Nat} {rs : List Rw} (h : ∀ r ∈ rs, r.length = n) : Tm 2 (rs.length * (n * 4 + 5) + 3) (.tuple (rs.map rowD)) := by
  have q := Tm.tuple (k := 1) (L := n * 4 + 3) (ds := rs.map rowD) fun d hd => by
    obtain ⟨r, hr, rfl⟩ := List.mem_map.mp hd
    exact tm_row (Nat.le_of_eq (h r hr))
  rw [List.length_map] at q
  exact q
/-! rows sorted -/
theorem lex_rows : ∀ {a b : Rw}, a.length = b.length → GF.Lt a b → lexLt PyProof.Rows.itemOrd (PySem.W.keyToksAll (a.map bit)) (PySem.W.keyToksAll (b.map bit)) = true
  | [], [], _, ⟨p, h1, h2, _⟩ => by simp [GF.get] at h2
  | x :: a, y :: b, hl, ⟨p, h1, h2, h3⟩ => by
    rw [List.map_cons, List.map_cons, PySem.W.keyToksAll, PySem.W.keyToksAll, lex_self]
    show lexLt PyProof.Rows.itemOrd ((Sum.inl (if x then 1 else 0)) :: PySem.W.keyToksAll (a.map bit)) ((Sum.inl (if y then 1 else 0)) :: PySem.W.keyToksAll (b.map bit)) = true
    cases p with
    | zero =>
      have e1 : x = false := by simpa [GF.get] using h1
      have e2 : y = true := by simpa [GF.get] using h2
      subst e1 e2
      rw [lex_diff (by decide)]
      decide
    | succ p =>
      have e0 : x = y := by have := h3 0 (by omega); simpa [GF.get] using this
      subst e0
      rw [lex_self]
      refine lex_rows (by simpa using hl) ⟨p, by simpa [GF.get] using h1, by simpa [GF.get] using h2, fun i hi => ?_⟩
      have := h3 (i + 1) (by omega)
      simpa [GF.get] using this
theorem alike_bits : ∀ a b : Rw, PySem.W.alikeAll (a.map bit) (b.map bit) = true
  | [], _ => by simp [PySem.W.alikeAll]
  | _ :: _, [] => by simp [PySem.W.alikeAll]
  | x :: a, y :: b => by
    rw [List.map_cons, List.map_cons, PySem.W.alikeAll, alike_bits a b]
    rfl
theorem sorted_uniq {α : Type} {le : α → α → Bool} : ∀ {L1 L2 : List α}, L1.Perm L2 → L1.Pairwise (fun a b => le a b = true) → L2.Pairwise (fun a b => le b a = false) → L1 = L2
  | [], L2, p, _, _ => (List.Perm.nil_eq p)
  | a :: A, [], p, _, _ => by have := p.length_eq; simp at this
  | a :: A, b :: B, p, h1, h2 => by
    obtain ⟨a1, a2⟩ := List.pairwise_cons.mp h1
    obtain ⟨b1, b2⟩ := List.pairwise_cons.mp h2
    have e : a = b := by
      rcases List.mem_cons.mp (p.subset (show a ∈ a :: A by simp)) with e | ha
      · exact e
      · rcases List.mem_cons.mp (p.symm.subset (show b ∈ b :: B by simp)) with e | hb
        · exact e.symm
        · have q1 := a1 b hb
          have q2 := b1 a ha
          rw [q1] at q2
          cases q2
    subst e
    rw [sorted_uniq (List.perm_cons a |>.mp p) a2 b2]
theorem sort_rows (rev : Bool) {n : Nat} {rows out : List Rw} (hn : 1 ≤ n) (hl : ∀ r ∈ rows, r.length = n) (hp : rows.Perm out) (ha : out.Pairwise fun a b => if rev = true then GF.Lt b a else GF.Lt a b) {P : D → Prop} (hP : P (.list (out.map rowD))) : sortW rev [.list (rows.map rowD)] P := by
  refine ⟨⟨fun d hd d' hd' => ?_, .inl fun d hd => ?_, fun d hd => ?_⟩, ?_⟩
  · obtain ⟨a, _, rfl⟩ := List.mem_map.mp hd
    obtain ⟨b, _, rfl⟩ := List.mem_map.mp hd'
    exact alike_bits a b
  · obtain ⟨a, h, rfl⟩ := List.mem_map.mp hd
    have := hl a h
    cases a with
    | nil => simp at this; omega
    | cons x a => exact ⟨_, _, rfl⟩
  · obtain ⟨a, h, rfl⟩ := List.mem_map.mp hd
    have := (tm_row (Nat.le_refl a.length)).dep
    omega
  · have hlo : ∀ r ∈ out, r.length = n := fun r hr => hl r (hp.symm.subset hr)
    have e : (rows.map rowD).mergeSort (PySem.W.dataLe rev id) = out.map rowD := by
      have tot := PySem.W.sortLe_total (listOrd PyProof.Rows.itemOrd) rev fun b : D => PySem.W.keyToks (id b)
      refine sorted_uniq ((List.mergeSort_perm _ _).trans (hp.map rowD)) (List.pairwise_mergeSort (fun a b c h1 h2 => tot.trans a b c h1 h2) (fun a b => by rw [Bool.or_eq_true]; exact tot.total a b) _) ?_
      refine List.pairwise_map.mpr (List.Pairwise.imp_of_mem (fun {a b} ha hb h => ?_) ha)
      have len : a.length = b.length := by rw [hlo a ha, hlo b hb]
      cases rev with
      | true =>
        have h : GF.Lt b a := h
        show (!lexLt PyProof.Rows.itemOrd (PySem.W.keyToksAll (b.map bit)) (PySem.W.keyToksAll (a.map bit))) = false
        rw [lex_rows len.symm h]; rfl
      | false =>
        have h : GF.Lt a b := by simpa using h
        show (!lexLt PyProof.Rows.itemOrd (PySem.W.keyToksAll (a.map bit)) (PySem.W.keyToksAll (b.map bit))) = false
        rw [lex_rows len h]; rfl
    rw [e]; exact hP
theorem asc_lt {n : Nat} {B : List Rw} (R : GF.Red n B) (ha : GF.Asc B) : B.Pairwise fun a b => GF.Lt b a := by
  refine List.Pairwise.imp_of_mem (fun {a b} hA hB h => ?_) ha
  refine ⟨GF.lead a, R.red a hA b hB (fun e => by rw [e] at h; omega), GF.get_lead (R.one a hA), fun i hi => ?_⟩
  rw [GF.get_before hi, GF.get_before (by omega)]
end Mi

set_option linter.all false
set_option maxRecDepth 100000
set_option maxHeartbeats 1000000
namespace GF
/-! ### what depends on the span alone -/
theorem told_of_sp {n : Nat} {rows rows' : List Row} (h : Len n rows) (h' : Len n rows') (e : SpEq n rows rows') : told n rows = told n rows' :=
  told_uniq h' (told_red h) (told_asc h) fun v => (told_sp h v).trans (e v)
def rank (n : Nat) (rows : List Row) : Nat := (told n rows).length
theorem nodup_len {α : Type} [DecidableEq α] {l l' : List α} (nd : l.Nodup) (hs : ∀ x ∈ l, x ∈ l') : l.length ≤ l'.length := by
  by_cases h : l'.length ≤ l.length
  · rw [(perm_of nd hs h).length_eq]; exact Nat.le_refl _
  · omega
def every (n : Nat) (rows : List Row) : List Row := (List.range (2 ^ rank n rows)).map (gB n (told n rows))
theorem every_nd {n : Nat} {rows : List Row} (h : Len n rows) : (every n rows).Nodup := by
  have R := told_red h
  have A := told_asc h
  refine nd_map (fun a ha b hb e => ?_) List.nodup_range
  have ha := List.mem_range.mp ha
  have hb := List.mem_range.mp hb
  rcases Nat.lt_trichotomy a b with q | q | q
  · have := gB_lt R A q hb
    rw [e] at this
    exact absurd this lt_irrefl
  · exact q
  · have := gB_lt R A q ha
    rw [e] at this
    exact absurd this lt_irrefl
theorem every_mem {n : Nat} {rows : List Row} (h : Len n rows) (v : Row) : v ∈ every n rows ↔ Sp n rows v := by
  have R := told_red h
  constructor
  · intro hv
    obtain ⟨m, _, rfl⟩ := List.mem_map.mp hv
    exact (told_sp h _).mp (gB_sp R.len m)
  · intro hv
    have hv' := (told_sp h v).mpr hv
    exact List.mem_map.mpr ⟨num (told n rows) v, List.mem_range.mpr (num_lt v _), R.num_row hv'⟩
theorem every_len (n : Nat) (rows : List Row) : (every n rows).length = 2 ^ rank n rows := by simp [every]
theorem rank_mono {n : Nat} {X Y : List Row} (hX : Len n X) (hY : Len n Y) (h : ∀ v, Sp n X v → Sp n Y v) : rank n X ≤ rank n Y := by
  have := nodup_len (every_nd hX) fun v hv => (every_mem hY v).mpr (h v ((every_mem hX v).mp hv))
  rw [every_len, every_len] at this
  exact (Nat.pow_le_pow_iff_right (by omega)).mp this
theorem sp_of_rank {n : Nat} {X Y : List Row} (hX : Len n X) (hY : Len n Y) (h : ∀ v, Sp n X v → Sp n Y v) (hr : rank n Y ≤ rank n X) : SpEq n X Y := by
  have p := perm_of (every_nd hX) (fun v hv => (every_mem hY v).mpr (h v ((every_mem hX v).mp hv))) (by rw [every_len, every_len]; exact Nat.pow_le_pow_right (by omega) hr)
  exact fun v => ⟨h v, fun hv => (every_mem hX v).mp (p.subset ((every_mem hY v).mpr hv))⟩
theorem rank_le {n : Nat} {X : List Row} (h : Len n X) : rank n X ≤ X.length := told_len h
theorem rank_perm {n : Nat} {X Y : List Row} (h : Len n X) (p : Y.Perm X) : rank n Y = rank n X := by unfold rank; rw [told_perm h p]
theorem rank_of_sp {n : Nat} {X Y : List Row} (h : Len n X) (h' : Len n Y) (e : SpEq n X Y) : rank n X = rank n Y := by unfold rank; rw [told_of_sp h h' e]
theorem len_app {n : Nat} {X Y : List Row} (h : Len n X) (h' : Len n Y) : Len n (X ++ Y) := fun x hx => (List.mem_append.mp hx).elim (h x) (h' x)
theorem len_one {n : Nat} {r : Row} (h : r.length = n) : Len n [r] := fun x hx => by rw [List.mem_singleton.mp hx]; exact h
theorem sp_app {n : Nat} {X : List Row} {r : Row} (h : Len n X) (hr : Sp n X r) : SpEq n X (X ++ [r]) := fun v =>
  ⟨Sp.perm fun b hb => List.mem_append_left _ hb, Sp.sub h fun b hb => (List.mem_append.mp hb).elim (Sp.mem h) fun z => by rw [List.mem_singleton.mp z]; exact hr⟩
theorem rank_app {n : Nat} {X : List Row} {r : Row} (h : Len n X) (hr : r.length = n) : rank n (X ++ [r]) ≤ rank n X + 1 := by
  have hT := (told_red h).len
  have e : SpEq n (X ++ [r]) (told n X ++ [r]) := fun v =>
    ⟨Sp.sub (len_app hT (len_one hr)) fun b hb => (List.mem_append.mp hb).elim (fun z => Sp.perm (fun _ q => List.mem_append_left _ q) ((told_sp h b).mpr (Sp.mem h z))) fun z => Sp.mem (len_app hT (len_one hr)) (List.mem_append_right _ z),
     Sp.sub (len_app h (len_one hr)) fun b hb => (List.mem_append.mp hb).elim (fun z => Sp.perm (fun _ q => List.mem_append_left _ q) ((told_sp h b).mp (Sp.mem hT z))) fun z => Sp.mem (len_app h (len_one hr)) (List.mem_append_right _ z)⟩
  rw [rank_of_sp (len_app h (len_one hr)) (len_app hT (len_one hr)) e]
  have := rank_le (len_app hT (len_one hr))
  simpa [rank] using this
theorem in_of_rank {n : Nat} {X : List Row} {r : Row} (h : Len n X) (hr : r.length = n) (hk : rank n (X ++ [r]) ≤ rank n X) : Sp n X r :=
  (sp_of_rank h (len_app h (len_one hr)) (fun v => Sp.perm fun b hb => List.mem_append_left _ hb) hk r).mpr (Sp.mem (len_app h (len_one hr)) (by simp))

/-! ### lots of rows, as rows of their own -/
def unit : Nat → Nat → Row
  | 0, _ => []
  | K + 1, 0 => true :: zer K
  | K + 1, i + 1 => false :: unit K i
theorem unit_len : ∀ K i, (unit K i).length = K
  | 0, _ => rfl
  | K + 1, 0 => by simp [unit, zer]
  | K + 1, i + 1 => by simp [unit, unit_len K i]
theorem get_cons0 (x : Bool) (c : Row) : get (x :: c) 0 = x := rfl
theorem get_cons1 (x : Bool) (c : Row) (j : Nat) : get (x :: c) (j + 1) = get c j := by simp [get]
theorem get_unit : ∀ {K i : Nat} (j : Nat), i < K → get (unit K i) j = decide (j = i)
  | K + 1, 0, 0, _ => rfl
  | K + 1, 0, j + 1, _ => by rw [unit, get_cons1, get_zer]; simp
  | K + 1, i + 1, 0, _ => by rw [unit, get_cons0]; simp
  | K + 1, i + 1, j + 1, h => by rw [unit, get_cons1, get_unit j (by omega)]; simp
def mk (n : Nat) : List Row → Row → Row
  | b :: B, x :: c => if x then xr (mk n B c) b else mk n B c
  | _, _ => zer n
theorem zer_len (n : Nat) : (zer n).length = n := by simp [zer]
theorem mk_len {n : Nat} : ∀ {B : List Row} {c : Row}, Len n B → (mk n B c).length = n
  | [], _, _ => by simp [mk, zer]
  | _ :: _, [], _ => by simp [mk, zer]
  | b :: B, x :: c, h => by
    have hB : Len n B := fun y hy => h y (by simp [hy])
    have := mk_len (c := c) hB
    unfold mk
    split
    · rw [xr_len (by rw [this, h b (by simp)])]; exact this
    · exact this
theorem mk_sp {n : Nat} : ∀ {B : List Row} {c : Row}, Len n B → Sp n B (mk n B c)
  | [], _, _ => by simp only [mk]; exact .zero
  | _ :: _, [], _ => by simp only [mk]; exact .zero
  | b :: B, x :: c, h => by
    have hB : Len n B := fun y hy => h y (by simp [hy])
    have := mk_sp (c := c) hB
    have : Sp n (b :: B) (mk n B c) := Sp.perm (fun y hy => by simp [hy]) this
    unfold mk
    split
    · exact .add (by simp) this
    · exact this
theorem mk_zer {n : Nat} : ∀ {B : List Row} {K : Nat}, mk n B (zer K) = zer n
  | [], _ => by simp [mk]
  | _ :: _, 0 => by simp [mk, zer]
  | b :: B, K + 1 => by
    have : mk n B (zer K) = zer n := mk_zer
    have e : zer (K + 1) = false :: zer K := rfl
    rw [e, mk]
    simpa using this
theorem mk_unit {n : Nat} : ∀ {B : List Row} {i : Nat} {b : Row}, Len n B → B[i]? = some b → mk n B (unit B.length i) = b
  | [], _, _, _, h => by simp at h
  | b :: B, 0, b', hB, h => by
    simp at h
    subst h
    have e : unit (b :: B).length 0 = true :: zer B.length := rfl
    rw [e, mk, if_pos rfl, mk_zer]
    exact zer_xr (hB b (by simp))
  | b :: B, i + 1, b', hB, h => by
    have hB' : Len n B := fun y hy => hB y (by simp [hy])
    have e : unit (b :: B).length (i + 1) = false :: unit B.length i := rfl
    rw [e, mk]
    have := mk_unit hB' (i := i) (b := b') (by simpa using h)
    simpa using this
theorem mk_xr {n : Nat} : ∀ {B : List Row} {c c' : Row}, Len n B → c.length = B.length → c'.length = B.length → mk n B (xr c c') = xr (mk n B c) (mk n B c')
  | [], c, c', _, _, _ => by
    simp only [mk]
    exact (xr_zer (zer_len n)).symm
  | b :: B, [], _, _, h, _ => by simp at h
  | b :: B, _ :: _, [], _, _, h => by simp at h
  | b :: B, x :: c, y :: c', hB, h, h' => by
    have hB' : Len n B := fun y hy => hB y (by simp [hy])
    have hb : b.length = n := hB b (by simp)
    have ih := mk_xr (n := n) (c := c) (c' := c') hB' (by simpa using h) (by simpa using h')
    have l1 := mk_len (c := c) hB'
    have l2 := mk_len (c := c') hB'
    have e : xr (x :: c) (y :: c') = xor x y :: xr c c' := rfl
    rw [e]
    simp only [mk]
    rw [ih]
    have l3 : (xr (mk n B c) (mk n B c')).length = n := by rw [xr_len (by rw [l1, l2]), l1]
    cases x <;> cases y <;> simp only [Bool.xor_false, Bool.false_xor, Bool.xor_true, Bool.not_true, Bool.not_false, Bool.xor_self, if_true, if_false, Bool.false_eq_true]
    · rw [xr_assoc (by rw [l1, l2]) (by rw [l2, hb])]
    · rw [xr_assoc (by rw [l1, l2]) (by rw [l2, hb]), xr_assoc (by rw [l1, hb]) (by rw [hb, l2]), xr_comm (a := b) (by rw [hb, l2])]
    · rw [xr_assoc (b := b) (by rw [l1, hb]) (by rw [hb, xr_len (by rw [l2, hb]), l2]), xr_comm (a := b) (b := xr _ b) (by rw [hb, xr_len (by rw [l2, hb]), l2]), xr_xr (by rw [l2, hb])]
/-- a lot with j: its row is row j and one of the others -/
theorem mk_at {n : Nat} : ∀ {B : List Row} {c : Row} {j : Nat} {b : Row}, Len n B → get c j = true → B[j]? = some b → ∃ u, Sp n (B.eraseIdx j) u ∧ mk n B c = xr u b
  | [], _, _, _, _, _, h => by simp at h
  | b :: B, [], j, _, _, h, _ => by simp [get] at h
  | b :: B, x :: c, 0, b', hB, h, hb => by
    simp at hb
    subst hb
    have hx : x = true := h
    subst hx
    have hB' : Len n B := fun y hy => hB y (by simp [hy])
    exact ⟨mk n B c, by simpa using mk_sp hB', by simp [mk]⟩
  | b :: B, x :: c, j + 1, b', hB, h, hb => by
    have hB' : Len n B := fun y hy => hB y (by simp [hy])
    have hbn : b.length = n := hB b (by simp)
    rw [get_cons1] at h
    obtain ⟨u, hu, e⟩ := mk_at (b := b') hB' h (by simpa using hb)
    have hb'n : b'.length = n := hB b' (by have := List.mem_of_getElem? hb; exact this)
    have hE : Len n (B.eraseIdx j) := fun y hy => hB' y ((List.eraseIdx_sublist B j).subset hy)
    have hu' : Sp n (b :: B.eraseIdx j) u := Sp.perm (fun y hy => by simp [hy]) hu
    have hul := hu.len hE
    rw [List.eraseIdx_cons_succ]
    cases x
    · exact ⟨u, hu', by simpa [mk] using e⟩
    · refine ⟨xr u b, .add (by simp) hu', ?_⟩
      simp only [mk, if_true]
      rw [e, xr_assoc (by rw [hul, hb'n]) (by rw [hb'n, hbn]), xr_comm (a := b') (by rw [hb'n, hbn]), ← xr_assoc (by rw [hul, hbn]) (by rw [hbn, hb'n])]
/-- all of a lot's rows in a span -/
theorem mk_in {n : Nat} {X : List Row} (hX : Len n X) : ∀ {B : List Row} {c : Row}, Len n B → (∀ (j : Nat) b, get c j = true → B[j]? = some b → Sp n X b) → Sp n X (mk n B c)
  | [], _, _, _ => by simp only [mk]; exact .zero
  | _ :: _, [], _, _ => by simp only [mk]; exact .zero
  | b :: B, x :: c, hB, h => by
    have hB' : Len n B := fun y hy => hB y (by simp [hy])
    have ih := mk_in hX (c := c) hB' fun j b' h1 h2 => h (j + 1) b' (by rw [get_cons1]; exact h1) (by simpa using h2)
    simp only [mk]
    cases x
    · simpa using ih
    · simp only [if_true]
      exact ih.xr hX (h 0 b rfl rfl)

/-! ### exchanges -/
theorem perm_at {α : Type} {A : List α} {i : Nat} {a : α} (h : A[i]? = some a) : (A.eraseIdx i ++ [a]).Perm A := by
  have hl := (List.getElem?_eq_some_iff.mp h).1
  have e : A = A.take i ++ a :: A.drop (i + 1) := by
    have e1 : A.drop i = a :: A.drop (i + 1) := by
      rw [List.drop_eq_getElem_cons hl]
      rw [(List.getElem?_eq_some_iff.mp h).2]
    rw [← e1, List.take_append_drop]
  have e2 : A.eraseIdx i = A.take i ++ A.drop (i + 1) := List.eraseIdx_eq_take_drop_succ ..
  rw [e2]
  conv => rhs; rw [e]
  rw [List.append_assoc]
  exact List.Perm.append_left _ List.perm_append_comm
theorem len_erase {n : Nat} {B : List Row} (h : Len n B) (j : Nat) : Len n (B.eraseIdx j) := fun y hy => h y ((List.eraseIdx_sublist B j).subset hy)
theorem exch1 {n : Nat} {B : List Row} {c : Row} {j : Nat} {b : Row} (hB : Len n B) (hi : rank n B = B.length) (hc : get c j = true) (hb : B[j]? = some b) : rank n (B.eraseIdx j ++ [mk n B c]) = B.length := by
  obtain ⟨u, hu, e⟩ := mk_at hB hc hb
  have hE := len_erase hB j
  have hm := mk_len (c := c) hB
  have hbn : b.length = n := hB b (List.mem_of_getElem? hb)
  have hl := len_app hE (len_one hm)
  refine Nat.le_antisymm ?_ ?_
  · refine Nat.le_trans (rank_le hl) ?_
    have := (List.getElem?_eq_some_iff.mp hb).1
    simp [List.length_eraseIdx, this]
    omega
  · rw [← hi]
    refine rank_mono hB hl fun v hv => Sp.sub hl (fun x hx => ?_) hv
    have hx' := (perm_at hb).symm.subset hx
    rcases List.mem_append.mp hx' with z | z
    · exact Sp.mem hl (List.mem_append_left _ z)
    · rw [List.mem_singleton.mp z]
      have hu' : Sp n (B.eraseIdx j ++ [mk n B c]) u := Sp.perm (fun y hy => List.mem_append_left _ hy) hu
      have : b = xr u (mk n B c) := by
        rw [e, ← xr_assoc (by rw [hu.len hE]) (by rw [hu.len hE, hbn]), xr_self, hu.len hE, zer_xr hbn]
      rw [this]
      exact hu'.xr hl (Sp.mem hl (by simp))
theorem exch2 {n : Nat} {A B : List Row} {c : Row} {i : Nat} (hA : Len n A) (hB : Len n B) (hi : rank n A = A.length) (hv : A[i]? = some (mk n B c)) :
    ∃ (j : Nat) (b : Row), get c j = true ∧ B[j]? = some b ∧ rank n (A.eraseIdx i ++ [b]) = A.length := by
  refine Classical.byContradiction fun no => ?_
  have hE := len_erase hA i
  have hm := mk_len (c := c) hB
  have hil := (List.getElem?_eq_some_iff.mp hv).1
  have el : (A.eraseIdx i).length + 1 = A.length := by simp [List.length_eraseIdx, hil]; omega
  have r1 : rank n A ≤ rank n (A.eraseIdx i) + 1 := by
    rw [← rank_perm hA (perm_at hv)]
    exact rank_app hE hm
  have all : Sp n (A.eraseIdx i) (mk n B c) := mk_in hE hB fun j b h1 h2 => by
    have hbn : b.length = n := hB b (List.mem_of_getElem? h2)
    refine in_of_rank hE hbn ?_
    have ne : rank n (A.eraseIdx i ++ [b]) ≠ A.length := fun e => no ⟨j, b, h1, h2, e⟩
    have le : rank n (A.eraseIdx i ++ [b]) ≤ A.length := by
      have := rank_le (len_app hE (len_one hbn))
      simp at this
      omega
    omega
  have e := rank_of_sp hE (len_app hE (len_one hm)) (sp_app hE all)
  rw [rank_perm hA (perm_at hv)] at e
  have := rank_le hE
  omega

theorem len_set {n : Nat} {B : List Row} (h : Len n B) {i : Nat} {r : Row} (hr : r.length = n) : Len n (B.set i r) := fun x hx => by
  rcases List.mem_or_eq_of_mem_set hx with z | z
  · exact h x z
  · rw [z]; exact hr
theorem set_sp {n : Nat} {B : List Row} {i j : Nat} {a b : Row} (hB : Len n B) (hij : i ≠ j) (ha : B[i]? = some a) (hb : B[j]? = some b) : SpEq n (B.set i (xr a b)) B := by
  have han : a.length = n := hB a (List.mem_of_getElem? ha)
  have hbn : b.length = n := hB b (List.mem_of_getElem? hb)
  have hx : (xr a b).length = n := by rw [xr_len (by rw [han, hbn])]; exact han
  have hS := len_set hB (i := i) hx
  have hi := (List.getElem?_eq_some_iff.mp ha).1
  have s1 : Sp n (B.set i (xr a b)) b := Sp.mem hS (List.mem_of_getElem? (i := j) (by rw [List.getElem?_set_ne hij]; exact hb))
  have s2 : Sp n (B.set i (xr a b)) (xr a b) := Sp.mem hS (List.mem_of_getElem? (i := i) (List.getElem?_set_self hi))
  refine fun v => ⟨Sp.sub hB fun x hx => ?_, Sp.sub hS fun x hx => ?_⟩
  · rcases List.mem_or_eq_of_mem_set hx with z | z
    · exact Sp.mem hB z
    · rw [z]
      exact (Sp.mem hB (List.mem_of_getElem? ha)).xr hB (Sp.mem hB (List.mem_of_getElem? hb))
  · obtain ⟨k, hk⟩ := List.mem_iff_getElem?.mp hx
    by_cases e : k = i
    · subst e
      rw [ha] at hk
      cases hk
      have := s2.xr hS s1
      rwa [xr_xr (by rw [han, hbn])] at this
    · exact Sp.mem hS (List.mem_of_getElem? (i := k) (by rw [List.getElem?_set_ne (Ne.symm e)]; exact hk))
/-! ### the lot that makes a row -/
def redP (found : List (Row × Row)) (p : Row × Row) : Row × Row := found.foldl (fun p q => if get p.1 (lead q.1) then (xr p.1 q.1, xr p.2 q.2) else p) p
def stepP (K : Nat) (found : List (Row × Row)) (x : Row × Nat) : List (Row × Row) :=
  let m := redP found (x.1, unit K x.2)
  if true ∈ m.1 then found ++ [m] else found
def foundP (rows : List Row) : List (Row × Row) := rows.zipIdx.foldl (stepP rows.length) []
def lotP (rows : List Row) (row : Row) : Row × Row := redP (foundP rows) (row, zer rows.length)
def lot (rows : List Row) (row : Row) : Option Row := if true ∈ (lotP rows row).1 then none else some (lotP rows row).2
structure PInv (n : Nat) (rows : List Row) (F : List (Row × Row)) : Prop where
  l1 : ∀ q ∈ F, q.1.length = n
  l2 : ∀ q ∈ F, q.2.length = rows.length
  mke : ∀ q ∈ F, q.1 = GF.mk n rows q.2
  one : ∀ q ∈ F, true ∈ q.1
  tri : F.Pairwise fun a b => get b.1 (lead a.1) = false
theorem redP_keep {n : Nat} {t : Nat} : ∀ {F : List (Row × Row)} {p : Row × Row}, (∀ q ∈ F, q.1.length = n) → p.1.length = n → (∀ q ∈ F, get q.1 t = false) → get (redP F p).1 t = get p.1 t
  | [], _, _, _, _ => rfl
  | q :: F, p, h1, h2, h3 => by
    have hq : q.1.length = n := h1 q (by simp)
    show get (redP F (if get p.1 (lead q.1) then (xr p.1 q.1, xr p.2 q.2) else p)).1 t = _
    split
    · rw [redP_keep (n := n) (fun x hx => h1 x (by simp [hx])) (by rw [xr_len (by rw [h2, hq])]; exact h2) fun x hx => h3 x (by simp [hx])]
      show get (xr p.1 q.1) t = _
      rw [get_xr _ (by rw [h2, hq]), h3 q (by simp), Bool.xor_false]
    · exact redP_keep (fun x hx => h1 x (by simp [hx])) h2 fun x hx => h3 x (by simp [hx])
theorem redP_ok {n : Nat} {rows : List Row} (hR : Len n rows) : ∀ {F : List (Row × Row)} {p : Row × Row}, PInv n rows F → p.1.length = n → p.2.length = rows.length →
    (redP F p).1.length = n ∧ (redP F p).2.length = rows.length ∧ (∀ q ∈ F, get (redP F p).1 (lead q.1) = false) ∧ xr (redP F p).1 (GF.mk n rows (redP F p).2) = xr p.1 (GF.mk n rows p.2) ∧ ∃ u, Sp n (F.map (·.1)) u ∧ (redP F p).1 = xr p.1 u
  | [], p, _, h1, h2 => ⟨h1, h2, fun q hq => by simp at hq, rfl, zer n, .zero, (xr_zer h1).symm⟩
  | q :: F, p, I, h1, h2 => by
    have I' : PInv n rows F := ⟨fun x hx => I.l1 x (by simp [hx]), fun x hx => I.l2 x (by simp [hx]), fun x hx => I.mke x (by simp [hx]), fun x hx => I.one x (by simp [hx]), (List.pairwise_cons.mp I.tri).2⟩
    have hq : q.1.length = n := I.l1 q (by simp)
    have hq2 : q.2.length = rows.length := I.l2 q (by simp)
    have tri := (List.pairwise_cons.mp I.tri).1
    have hF : Len n (F.map (·.1)) := fun x hx => by obtain ⟨y, hy, rfl⟩ := List.mem_map.mp hx; exact I'.l1 y hy
    have e : redP (q :: F) p = redP F (if get p.1 (lead q.1) then (xr p.1 q.1, xr p.2 q.2) else p) := rfl
    rw [e]
    by_cases hc : get p.1 (lead q.1) = true
    · rw [if_pos hc]
      have g1 : (xr p.1 q.1).length = n := by rw [xr_len (by rw [h1, hq])]; exact h1
      have g2 : (xr p.2 q.2).length = rows.length := by rw [xr_len (by rw [h2, hq2])]; exact h2
      obtain ⟨r1, r2, r3, r4, u, r5, r6⟩ := redP_ok hR (p := (xr p.1 q.1, xr p.2 q.2)) I' g1 g2
      refine ⟨r1, r2, fun x hx => ?_, ?_, xr u q.1, .add (by simp) (Sp.perm (fun y hy => by simp at hy ⊢; exact .inr hy) r5), ?_⟩
      · rcases List.mem_cons.mp hx with rfl | hx
        · rw [redP_keep (n := n) I'.l1 g1 fun y hy => tri y hy]
          show get (xr p.1 x.1) _ = _
          rw [get_xr _ (by rw [h1, hq]), hc, get_lead (I.one x (by simp))]; rfl
        · exact r3 x hx
      · rw [r4]
        show xr (xr p.1 q.1) (GF.mk n rows (xr p.2 q.2)) = _
        have lm := mk_len (c := p.2) hR
        rw [mk_xr hR h2 hq2, ← I.mke q (by simp), xr_comm (a := GF.mk n rows p.2) (by rw [lm, hq]), ← xr_assoc (a := xr p.1 q.1) (by rw [g1, hq]) (by rw [hq, lm]), xr_xr (by rw [h1, hq])]
      · rw [r6]
        show xr (xr p.1 q.1) u = _
        have hu := r5.len hF
        rw [xr_assoc (by rw [h1, hq]) (by rw [hq, hu]), xr_comm (a := q.1) (by rw [hq, hu])]
    · rw [if_neg hc]
      obtain ⟨r1, r2, r3, r4, u, r5, r6⟩ := redP_ok hR (p := p) I' h1 h2
      refine ⟨r1, r2, fun x hx => ?_, r4, u, Sp.perm (fun y hy => by simp at hy ⊢; exact .inr hy) r5, r6⟩
      rcases List.mem_cons.mp hx with rfl | hx
      · rw [redP_keep (n := n) I'.l1 h1 fun y hy => tri y hy]
        simpa using hc
      · exact r3 x hx
theorem Sp.bit {n t : Nat} {F : List Row} (hF : Len n F) (h : ∀ f ∈ F, get f t = false) {v : Row} (hv : Sp n F v) : get v t = false := by
  induction hv with
  | zero => exact get_zer _ _
  | @add b u hb hu ih => rw [get_xr _ (by rw [hu.len hF, hF b hb]), ih, h b hb]; rfl
theorem Sp.cons' {n : Nat} {f : Row} {F : List Row} (hF : Len n (f :: F)) {v : Row} (hv : Sp n (f :: F) v) : Sp n F v ∨ ∃ u, Sp n F u ∧ v = GF.xr u f := by
  have hF' : Len n F := fun y hy => hF y (by simp [hy])
  have hf : f.length = n := hF f (by simp)
  induction hv with
  | zero => exact .inl .zero
  | @add b u hb hu ih =>
    rcases List.mem_cons.mp hb with rfl | hb
    · rcases ih with ih | ⟨w, hw, rfl⟩
      · exact .inr ⟨u, ih, rfl⟩
      · rw [xr_xr (by rw [hw.len hF', hf])]
        exact .inl hw
    · have hbn := hF' b hb
      rcases ih with ih | ⟨w, hw, rfl⟩
      · exact .inl (.add hb ih)
      · refine .inr ⟨GF.xr w b, .add hb hw, ?_⟩
        have hw' := hw.len hF'
        rw [xr_assoc (by rw [hw', hf]) (by rw [hf, hbn]), xr_comm (a := f) (by rw [hf, hbn]), ← xr_assoc (by rw [hw', hbn]) (by rw [hbn, hf])]
theorem tri_zero {n : Nat} : ∀ {F : List Row}, Len n F → (∀ f ∈ F, true ∈ f) → F.Pairwise (fun a b => get b (lead a) = false) → ∀ {v : Row}, Sp n F v → (∀ f ∈ F, get v (lead f) = false) → v = zer n
  | [], _, _, _, v, hv, _ => by
    cases hv with
    | zero => rfl
    | add hb _ => simp at hb
  | f :: F, hF, h1, tri, v, hv, hz => by
    have hF' : Len n F := fun y hy => hF y (by simp [hy])
    have t := List.pairwise_cons.mp tri
    rcases hv.cons' hF with h | ⟨u, hu, rfl⟩
    · exact tri_zero hF' (fun x hx => h1 x (by simp [hx])) t.2 h fun x hx => hz x (by simp [hx])
    · have := hz f (by simp)
      rw [get_xr _ (by rw [hu.len hF', hF f (by simp)]), Sp.bit hF' t.1 hu, get_lead (h1 f (by simp))] at this
      cases this
theorem no_true {r : Row} (h : ¬ true ∈ r) : r = zer r.length := by
  refine ext (by simp [zer]) fun i => ?_
  rw [get_zer]
  cases e : get r i with
  | false => rfl
  | true => exact absurd (mem_of_get e) h
theorem zer_no (n : Nat) : ¬ true ∈ zer n := fun h => by
  have := get_lead h
  rw [get_zer] at this
  cases this
theorem PInv.step {n : Nat} {rows : List Row} (hR : Len n rows) {F : List (Row × Row)} (I : PInv n rows F) {i : Nat} {r : Row} (hr : rows[i]? = some r) :
    PInv n rows (stepP rows.length F (r, i)) ∧ (∀ q ∈ F, q ∈ stepP rows.length F (r, i)) ∧ Sp n ((stepP rows.length F (r, i)).map (·.1)) r := by
  have hrn : r.length = n := hR r (List.mem_of_getElem? hr)
  obtain ⟨r1, r2, r3, r4, u, r5, r6⟩ := redP_ok hR (p := (r, unit rows.length i)) I hrn (unit_len _ _)
  have hF : Len n (F.map (·.1)) := fun x hx => by obtain ⟨y, hy, rfl⟩ := List.mem_map.mp hx; exact I.l1 y hy
  have hu := r5.len hF
  have mk1 : (redP F (r, unit rows.length i)).1 = GF.mk n rows (redP F (r, unit rows.length i)).2 := by
    have lm := mk_len (c := (redP F (r, unit rows.length i)).2) hR
    have e := r4
    simp only [mk_unit hR hr] at e
    rw [xr_self, hrn] at e
    have : xr (xr (redP F (r, unit rows.length i)).1 (GF.mk n rows (redP F (r, unit rows.length i)).2)) (GF.mk n rows (redP F (r, unit rows.length i)).2) = xr (zer n) (GF.mk n rows (redP F (r, unit rows.length i)).2) := by rw [e]
    rw [xr_xr (by rw [r1, lm]), zer_xr lm] at this
    exact this
  have er : r = xr (redP F (r, unit rows.length i)).1 u := by
    rw [r6, xr_xr (by rw [hu]; exact hrn)]
  unfold stepP
  simp only
  split
  · rename_i ht
    have hN : Len n ((F ++ [redP F (r, unit rows.length i)]).map (·.1)) := by
      rw [List.map_append]
      exact len_app hF (len_one r1)
    refine ⟨⟨fun q hq => ?_, fun q hq => ?_, fun q hq => ?_, fun q hq => ?_, ?_⟩, fun q hq => List.mem_append_left _ hq, ?_⟩
    · rcases List.mem_append.mp hq with z | z
      · exact I.l1 q z
      · rw [List.mem_singleton.mp z]; exact r1
    · rcases List.mem_append.mp hq with z | z
      · exact I.l2 q z
      · rw [List.mem_singleton.mp z]; exact r2
    · rcases List.mem_append.mp hq with z | z
      · exact I.mke q z
      · rw [List.mem_singleton.mp z]; exact mk1
    · rcases List.mem_append.mp hq with z | z
      · exact I.one q z
      · rw [List.mem_singleton.mp z]; exact ht
    · refine List.pairwise_append.mpr ⟨I.tri, by simp, fun a ha b hb => ?_⟩
      rw [List.mem_singleton.mp hb]
      exact r3 a ha
    · have hu' : Sp n ((F ++ [redP F (r, unit rows.length i)]).map (·.1)) u := Sp.perm (fun y hy => by rw [List.map_append]; exact List.mem_append_left _ hy) r5
      have q1 : Sp n ((F ++ [redP F (r, unit rows.length i)]).map (·.1)) (redP F (r, unit rows.length i)).1 := Sp.mem hN (by simp)
      have q2 := q1.xr hN hu'
      rw [← er] at q2
      exact q2
  · rename_i ht
    refine ⟨I, fun q hq => hq, ?_⟩
    have z := no_true ht
    rw [r1] at z
    rw [z] at er
    rw [er, zer_xr hu]
    exact r5
theorem found_inv {n : Nat} {rows : List Row} (hR : Len n rows) : PInv n rows (foundP rows) ∧ ∀ r ∈ rows, Sp n ((foundP rows).map (·.1)) r := by
  have key : ∀ (xs : List Row) (k : Nat) (F : List (Row × Row)), (∀ i r, xs[i]? = some r → rows[k + i]? = some r) → PInv n rows F →
      PInv n rows ((xs.zipIdx k).foldl (stepP rows.length) F) ∧ (∀ q ∈ F, q ∈ (xs.zipIdx k).foldl (stepP rows.length) F) ∧ ∀ r ∈ xs, Sp n (((xs.zipIdx k).foldl (stepP rows.length) F).map (·.1)) r := by
    intro xs
    induction xs with
    | nil => intro k F _ I; exact ⟨I, fun q hq => hq, fun r hr => by simp at hr⟩
    | cons x xs ih =>
      intro k F hx I
      obtain ⟨I1, s1, p1⟩ := I.step hR (i := k) (r := x) (hx 0 x rfl)
      obtain ⟨I2, s2, p2⟩ := ih (k + 1) (stepP rows.length F (x, k)) (fun i r hr => by rw [show k + 1 + i = k + (i + 1) by omega]; exact hx (i + 1) r (by simpa using hr)) I1
      refine ⟨I2, fun q hq => s2 q (s1 q hq), fun r hr => ?_⟩
      rcases List.mem_cons.mp hr with rfl | hr
      · refine Sp.perm (fun b hb => ?_) p1
        obtain ⟨q, hq, rfl⟩ := List.mem_map.mp hb
        exact List.mem_map.mpr ⟨q, s2 q hq, rfl⟩
      · exact p2 r hr
  have := key rows 0 [] (fun i r h => by simpa using h) ⟨fun q hq => by simp at hq, fun q hq => by simp at hq, fun q hq => by simp at hq, fun q hq => by simp at hq, .nil⟩
  exact ⟨this.1, this.2.2⟩
theorem lotP_ok {n : Nat} {rows : List Row} (hR : Len n rows) {row : Row} (hr : row.length = n) : (lotP rows row).1.length = n ∧ (lotP rows row).2.length = rows.length ∧
    xr (lotP rows row).1 (mk n rows (lotP rows row).2) = row ∧ (Sp n rows row → (lotP rows row).1 = zer n) := by
  obtain ⟨I, hs⟩ := found_inv hR
  obtain ⟨r1, r2, r3, r4, u, r5, r6⟩ := redP_ok hR (p := (row, zer rows.length)) I hr (zer_len _)
  have hF : Len n ((foundP rows).map (·.1)) := fun x hx => by obtain ⟨y, hy, rfl⟩ := List.mem_map.mp hx; exact I.l1 y hy
  refine ⟨r1, r2, ?_, fun hv => ?_⟩
  · have := r4
    simp only [mk_zer] at this
    rw [xr_zer hr] at this
    exact this
  · have q1 : Sp n ((foundP rows).map (·.1)) row := Sp.sub hF hs hv
    have q2 : Sp n ((foundP rows).map (·.1)) (lotP rows row).1 := by
      show Sp n _ (redP (foundP rows) (row, zer rows.length)).1
      rw [r6]
      exact q1.xr hF r5
    refine tri_zero hF (fun f hf => ?_) ?_ q2 fun f hf => ?_
    · obtain ⟨q, hq, rfl⟩ := List.mem_map.mp hf
      exact I.one q hq
    · exact List.pairwise_map.mpr I.tri
    · obtain ⟨q, hq, rfl⟩ := List.mem_map.mp hf
      exact r3 q hq
theorem lot_some {n : Nat} {rows : List Row} (hR : Len n rows) {row c : Row} (hr : row.length = n) (h : lot rows row = some c) : c.length = rows.length ∧ mk n rows c = row := by
  obtain ⟨r1, r2, r3, _⟩ := lotP_ok hR hr
  unfold lot at h
  split at h
  · cases h
  · rename_i ht
    cases h
    refine ⟨r2, ?_⟩
    have z := no_true ht
    rw [r1] at z
    rw [z, zer_xr (mk_len hR)] at r3
    exact r3
theorem lot_ex {n : Nat} {rows : List Row} (hR : Len n rows) {row : Row} (hr : row.length = n) (h : Sp n rows row) : ∃ c, lot rows row = some c := by
  obtain ⟨r1, r2, r3, r4⟩ := lotP_ok hR hr
  refine ⟨(lotP rows row).2, ?_⟩
  unfold lot
  rw [if_neg]
  rw [r4 h]
  exact zer_no n
theorem lot_iff {n : Nat} {rows : List Row} (hR : Len n rows) {row : Row} (hr : row.length = n) : (lot rows row).isSome = true ↔ Sp n rows row :=
  ⟨fun h => by
    obtain ⟨c, e⟩ := Option.isSome_iff_exists.mp h
    obtain ⟨_, e2⟩ := lot_some hR hr e
    rw [← e2]
    exact mk_sp hR, fun h => by
    obtain ⟨c, e⟩ := lot_ex hR hr h
    rw [e]; rfl⟩
/-- the places of a lot -/
def ones (c : Row) : List Nat := (List.range c.length).filter fun j => get c j
theorem mem_ones {c : Row} {j : Nat} : j ∈ ones c ↔ get c j = true := by
  unfold ones
  rw [List.mem_filter, List.mem_range]
  refine ⟨fun h => h.2, fun h => ⟨?_, h⟩⟩
  refine Nat.lt_of_not_le fun q => ?_
  rw [get_out q] at h
  cases h
theorem ones_asc (c : Row) : (ones c).Pairwise (· < ·) := List.Pairwise.filter _ List.pairwise_lt_range
theorem asc_uniq : ∀ {a b : List Nat}, a.Pairwise (· < ·) → b.Pairwise (· < ·) → (∀ x, x ∈ a ↔ x ∈ b) → a = b
  | [], [], _, _, _ => rfl
  | [], y :: b, _, _, h => by have := (h y).mpr (by simp); simp at this
  | x :: a, [], _, _, h => by have := (h x).mp (by simp); simp at this
  | x :: a, y :: b, ha, hb, h => by
    have a1 := List.pairwise_cons.mp ha
    have b1 := List.pairwise_cons.mp hb
    have e : x = y := by
      have h1 := (h x).mp (by simp)
      have h2 := (h y).mpr (by simp)
      rcases List.mem_cons.mp h1 with q | q
      · exact q
      · rcases List.mem_cons.mp h2 with q2 | q2
        · exact q2.symm
        · have := b1.1 x q
          have := a1.1 y q2
          omega
    subst e
    rw [asc_uniq a1.2 b1.2 fun z => ?_]
    have hz := h z
    simp only [List.mem_cons] at hz
    constructor
    · intro q
      have := a1.1 z q
      rcases hz.mp (.inr q) with w | w
      · omega
      · exact w
    · intro q
      have := b1.1 z q
      rcases hz.mpr (.inr q) with w | w
      · omega
      · exact w
theorem ones_unit {K i : Nat} (h : i < K) : ones (unit K i) = [i] := asc_uniq (ones_asc _) (by simp) fun x => by rw [mem_ones, get_unit x h]; simp
theorem ones_zer (K : Nat) : ones (zer K) = [] := asc_uniq (ones_asc _) (by simp) fun x => by rw [mem_ones, get_zer]; simp
end GF

set_option Elab.async false
set_option linter.all false
set_option maxRecDepth 100000
set_option maxHeartbeats 4000000
namespace KC
open PySem PySem.Spec PyProof.Rows L2 Mi
-- sum_of(one, other)
def N_sum_of : List Str := ["one", "other", "k", "mark"]
def m_sum_of : MSs := (.cons (.ret (.blt .tuple (.cons (.comp [("k", 2), ("mark", 3)] (.seq (.cons (.name 2) (.cons (.name 3) .nil))) (.enum (.cons (.var 0) .nil)) .yes (.blt .int (.cons (.cmp .ne (.var 3) (.idx (.var 1) (.var 2))) .nil))) .nil))) .nil)
def F_sum_of : Fm := denF N_sum_of (denSs m_sum_of)
-- first_one(row)
def N_first_one : List Str := ["row"]
def m_first_one : MSs := (.cons (.ret (.index (.var 0) (.int 1))) .nil)
def F_first_one : Fm := denF N_first_one (denSs m_first_one)
-- told_rows(rows)
def N_told_rows : List Str := ["rows", "found", "row", "here", "one", "place"]
def m_told_rows : MSs := (.cons (.set 1 (.val (.lst .nil))) (.cons (.for' (.name 2) (.seq (.var 0)) (.cons (.set 3 (.val (.var 2))) (.cons (.for' (.name 4) (.seq (.var 1)) (.cons (.set 3 (.val (.ite (.cmp .eq (.idx (.var 3) (.call "first_one" 1 F_first_one (.cons (.var 4) .nil))) (.int 1)) (.call "sum_of" 2 F_sum_of (.cons (.var 3) (.cons (.var 4) .nil))) (.var 3)))) .nil)) (.cons (.ite (.cmp .inn (.int 1) (.var 3)) (.cons (.set 5 (.val (.call "first_one" 1 F_first_one (.cons (.var 3) .nil)))) (.cons (.set 1 (.val (.bin .add (.comp [("one", 4)] (.name 4) (.seq (.var 1)) .yes (.ite (.cmp .eq (.idx (.var 4) (.var 5)) (.int 1)) (.call "sum_of" 2 F_sum_of (.cons (.var 4) (.cons (.var 3) .nil))) (.var 4))) (.lst (.cons (.var 3) .nil))))) .nil)) .nil) .nil)))) (.cons (.ret (.blt .tuple (.cons (.sortR (.cons (.var 1) .nil)) .nil))) .nil)))
def F_told_rows : Fm := denF N_told_rows (denSs m_told_rows)
-- code_of_rows(n, rows)
def N_code_of_rows : List Str := ["n", "rows"]
def m_code_of_rows : MSs := (.cons (.ret (.tup (.cons (.var 0) (.cons (.call "told_rows" 1 F_told_rows (.cons (.var 1) .nil)) .nil)))) .nil)
def F_code_of_rows : Fm := denF N_code_of_rows (denSs m_code_of_rows)
-- leading_places(code)
def N_leading_places : List Str := ["code", "row"]
def m_leading_places : MSs := (.cons (.ret (.blt .tuple (.cons (.comp [("row", 1)] (.name 1) (.seq (.call "told_rows" 1 F_told_rows (.cons (.idx (.var 0) (.int 1)) .nil))) .yes (.call "first_one" 1 F_first_one (.cons (.var 1) .nil))) .nil))) .nil)
def F_leading_places : Fm := denF N_leading_places (denSs m_leading_places)
-- row_number(code, row)
def N_row_number : List Str := ["code", "row", "found", "place"]
def m_row_number : MSs := (.cons (.set 2 (.val (.int 0))) (.cons (.for' (.name 3) (.seq (.call "leading_places" 1 F_leading_places (.cons (.var 0) .nil))) (.cons (.set 2 (.val (.bin .add (.bin .mul (.int 2) (.var 2)) (.idx (.var 1) (.var 3))))) .nil)) (.cons (.ret (.var 2)) .nil)))
def F_row_number : Fm := denF N_row_number (denSs m_row_number)
-- sum_of_rows(n, rows)
def N_sum_of_rows : List Str := ["n", "rows", "found", "row"]
def m_sum_of_rows : MSs := (.cons (.set 2 (.val (.bin .mul (.tup (.cons (.int 0) .nil)) (.var 0)))) (.cons (.for' (.name 3) (.seq (.var 1)) (.cons (.set 2 (.val (.call "sum_of" 2 F_sum_of (.cons (.var 2) (.cons (.var 3) .nil))))) .nil)) (.cons (.ret (.var 2)) .nil)))
def F_sum_of_rows : Fm := denF N_sum_of_rows (denSs m_sum_of_rows)
-- numbered_row(code, number)
def N_numbered_row : List Str := ["code", "number", "base", "i", "row"]
def m_numbered_row : MSs := (.cons (.set 2 (.val (.call "told_rows" 1 F_told_rows (.cons (.idx (.var 0) (.int 1)) .nil)))) (.cons (.ret (.call "sum_of_rows" 2 F_sum_of_rows (.cons (.idx (.var 0) (.int 0)) (.cons (.comp [("i", 3), ("row", 4)] (.seq (.cons (.name 3) (.cons (.name 4) .nil))) (.enum (.cons (.var 2) .nil)) (.truth (.bin .band (.bin .shr (.var 1) (.bin .sub (.bin .sub (.blt .len (.cons (.var 2) .nil)) (.int 1)) (.var 3))) (.int 1))) (.var 4)) .nil)))) .nil))
def F_numbered_row : Fm := denF N_numbered_row (denSs m_numbered_row)
-- _law_pick(source, many)
def N__law_pick : List Str := ["source", "many", "left", "mixed"]
def m__law_pick : MSs := (.cons (.srcLoop 0 1) (.cons (.set 2 (.val (.srcE 0 .left))) (.cons (.ite (.bool (.or (.cmp .lt (.var 1) (.int 2)) (.or1 (.cmp .gt (.var 2) (.int 1))))) (.cons (.srcSet 0 .left (.bin .div (.var 2) (.blt .max2 (.cons (.int 1) (.cons (.var 1) .nil))))) (.cons (.ret (.bin .mod (.blt .int (.cons (.var 2) .nil)) (.blt .max2 (.cons (.int 1) (.cons (.var 1) .nil))))) .nil)) .nil) (.cons (.srcSet 0 .turn (.bin .add (.srcE 0 .turn) (.int 1))) (.cons (.set 3 (.val (.bin .mod (.blt .int (.cons (.bin .add (.srcE 0 .mixed) (.bin .mul (.srcE 0 .turn) (.int 104729))) .nil)) (.int 998244353)))) (.cons (.set 3 (.val (.bin .mod (.blt .int (.cons (.bin .add (.bin .mul (.var 3) (.var 3)) (.bin .mul (.srcE 0 .turn) (.int 17))) .nil)) (.int 2147483647)))) (.cons (.srcSet 0 .mixed (.var 3)) (.cons (.ret (.bin .mod (.blt .int (.cons (.bin .div (.var 3) (.int 16)) .nil)) (.var 1))) .nil))))))))
def F__law_pick : Fm := denF N__law_pick (denSs m__law_pick)
-- _law_of(source, some)
def N__law_of : List Str := ["source", "some"]
def m__law_of : MSs := (.cons (.ret (.idx (.var 1) (.call "_law_pick" 2 F__law_pick (.src 0 (.cons (.blt .len (.cons (.var 1) .nil)) .nil))))) .nil)
def F__law_of : Fm := denF N__law_of (denSs m__law_of)
-- _law_mixed(source, things)
def N__law_mixed : List Str := ["source", "things", "rest", "lap"]
def m__law_mixed : MSs := (.cons (.set 2 (.listN (.var 1))) (.cons (.mix 0 2 3 "_law_pick" F__law_pick) .nil))
def F__law_mixed : Fm := denF N__law_mixed (denSs m__law_mixed)
-- _law_sum(one, other)
def N__law_sum : List Str := ["one", "other", "a", "b"]
def m__law_sum : MSs := (.cons (.ret (.blt .tuple (.cons (.comp [("a", 2), ("b", 3)] (.seq (.cons (.name 2) (.cons (.name 3) .nil))) (.zip (.cons (.var 0) (.cons (.var 1) .nil))) .yes (.blt .int (.cons (.cmp .ne (.var 2) (.var 3)) .nil))) .nil))) .nil)
def F__law_sum : Fm := denF N__law_sum (denSs m__law_sum)
-- _law_told(n, rows)
def N__law_told : List Str := ["n", "rows", "p", "left", "found", "some", "head", "row"]
def m__law_told : MSs := (.cons (.par2 3 4 (.val (.blt .list (.cons (.var 1) .nil))) (.val (.lst .nil))) (.cons (.for' (.name 2) (.range1 (.cons (.var 0) .nil)) (.cons (.set 5 (.val (.comp [("row", 7)] (.name 7) (.seq (.var 3)) (.cmp .eq (.idx (.var 7) (.var 2)) (.int 1)) (.var 7)))) (.cons (.ite (.cmp .ne (.var 5) (.lst .nil)) (.cons (.set 6 (.val (.idx (.var 5) (.int 0)))) (.cons (.set 4 (.val (.bin .add (.comp [("row", 7)] (.name 7) (.seq (.var 4)) .yes (.ite (.cmp .eq (.idx (.var 7) (.var 2)) (.int 1)) (.call "_law_sum" 2 F__law_sum (.cons (.var 7) (.cons (.var 6) .nil))) (.var 7))) (.lst (.cons (.var 6) .nil))))) (.cons (.set 3 (.val (.comp [("row", 7)] (.name 7) (.seq (.var 3)) (.cmp .ne (.var 7) (.var 6)) (.ite (.cmp .eq (.idx (.var 7) (.var 2)) (.int 1)) (.call "_law_sum" 2 F__law_sum (.cons (.var 7) (.cons (.var 6) .nil))) (.var 7))))) .nil))) .nil) .nil))) (.cons (.ret (.blt .tuple (.cons (.var 4) .nil))) .nil)))
def F__law_told : Fm := denF N__law_told (denSs m__law_told)
-- _law_row(source, n)
def N__law_row : List Str := ["source", "n", "share", "p"]
def m__law_row : MSs := (.cons (.set 2 (.val (.call "_law_of" 2 F__law_of (.src 0 (.cons (.lst (.cons (.int 1) (.cons (.int 2) (.cons (.int 2) (.cons (.int 3) .nil))))) .nil))))) (.cons (.ret (.blt .tuple (.cons (.comp [("p", 3)] (.name 3) (.range1 (.cons (.var 1) .nil)) .yes (.blt .int (.cons (.cmp .lt (.call "_law_pick" 2 F__law_pick (.src 0 (.cons (.int 4) .nil))) (.var 2)) .nil))) .nil))) .nil))
def F__law_row : Fm := denF N__law_row (denSs m__law_row)
-- _law_base(source, n, k)
def N__law_base : List Str := ["source", "n", "k", "found", "lap", "p", "row", "q"]
def m__law_base : MSs := (.cons (.set 3 (.lstN .nil)) (.cons (.for' (.name 4) (.range1 (.cons (.bin .mul (.int 3) (.var 2)) .nil)) (.cons (.set 6 (.val (.call "_law_row" 2 F__law_row (.src 0 (.cons (.var 1) .nil))))) (.cons (.ite (.bool (.and (.cmp .lt (.blt .len (.cons (.lent 3) .nil)) (.var 2)) (.and1 (.cmp .gt (.blt .len (.cons (.call "_law_told" 2 F__law_told (.cons (.var 1) (.cons (.bin .add (.lent 3) (.lst (.cons (.var 6) .nil))) .nil))) .nil)) (.blt .len (.cons (.lent 3) .nil)))))) (.cons (.app 3 (.var 6)) .nil) .nil) .nil))) (.cons (.for' (.name 5) (.seq (.call "_law_mixed" 2 F__law_mixed (.src 0 (.cons (.listR1 (.var 1)) .nil)))) (.cons (.set 6 (.val (.blt .tuple (.cons (.comp [("q", 7)] (.name 7) (.range1 (.cons (.var 1) .nil)) .yes (.blt .int (.cons (.cmp .eq (.var 7) (.var 5)) .nil))) .nil)))) (.cons (.ite (.bool (.and (.cmp .lt (.blt .len (.cons (.lent 3) .nil)) (.var 2)) (.and1 (.cmp .gt (.blt .len (.cons (.call "_law_told" 2 F__law_told (.cons (.var 1) (.cons (.bin .add (.lent 3) (.lst (.cons (.var 6) .nil))) .nil))) .nil)) (.blt .len (.cons (.lent 3) .nil)))))) (.cons (.app 3 (.var 6)) .nil) .nil) .nil))) (.cons (.ite (.cmp .eq (.call "_law_pick" 2 F__law_pick (.src 0 (.cons (.int 4) .nil))) (.int 0)) (.cons (.frz 3 (.set 3 (.listN (.call "_law_told" 2 F__law_told (.cons (.var 1) (.cons (.var 3) .nil)))))) .nil) .nil) (.cons (.frz 3 (.ret (.blt .tuple (.cons (.call "_law_mixed" 2 F__law_mixed (.src 0 (.cons (.var 3) .nil))) .nil)))) .nil)))))
def F__law_base : Fm := denF N__law_base (denSs m__law_base)
-- _law_code(source, most)
def N__law_code : List Str := ["source", "most", "n"]
def m__law_code : MSs := (.cons (.set 2 (.val (.bin .add (.int 1) (.call "_law_pick" 2 F__law_pick (.src 0 (.cons (.var 1) .nil)))))) (.cons (.ret (.tup (.cons (.var 2) (.cons (.call "_law_base" 3 F__law_base (.src 0 (.cons (.var 2) (.cons (.call "_law_of" 2 F__law_of (.src 0 (.cons (.lst (.cons (.int 0) (.cons (.var 2) (.cons (.call "_law_pick" 2 F__law_pick (.src 0 (.cons (.bin .add (.var 2) (.int 1)) .nil))) (.cons (.call "_law_pick" 2 F__law_pick (.src 0 (.cons (.bin .add (.var 2) (.int 1)) .nil))) (.cons (.bin .div (.var 2) (.int 2)) .nil)))))) .nil))) .nil)))) .nil)))) .nil))
def F__law_code : Fm := denF N__law_code (denSs m__law_code)
-- _law_rows(code)
def N__law_rows : List Str := ["code", "found", "row", "one"]
def m__law_rows : MSs := (.cons (.set 1 (.val (.lst (.cons (.bin .mul (.tup (.cons (.int 0) .nil)) (.idx (.var 0) (.int 0))) .nil)))) (.cons (.for' (.name 2) (.seq (.idx (.var 0) (.int 1))) (.cons (.set 1 (.val (.bin .add (.var 1) (.comp [("one", 3)] (.name 3) (.seq (.var 1)) .yes (.call "_law_sum" 2 F__law_sum (.cons (.var 2) (.cons (.var 3) .nil))))))) .nil)) (.cons (.ret (.var 1)) .nil)))
def F__law_rows : Fm := denF N__law_rows (denSs m__law_rows)
-- _law_some_row(source, code)
def N__law_some_row : List Str := ["source", "code", "found", "row"]
def m__law_some_row : MSs := (.cons (.set 2 (.val (.bin .mul (.tup (.cons (.int 0) .nil)) (.idx (.var 1) (.int 0))))) (.cons (.for' (.name 3) (.seq (.idx (.var 1) (.int 1))) (.cons (.set 2 (.val (.ite (.cmp .eq (.call "_law_pick" 2 F__law_pick (.src 0 (.cons (.int 2) .nil))) (.int 0)) (.call "_law_sum" 2 F__law_sum (.cons (.var 2) (.cons (.var 3) .nil))) (.var 2)))) .nil)) (.cons (.ret (.var 2)) .nil)))
def F__law_some_row : Fm := denF N__law_some_row (denSs m__law_some_row)
-- _law_leading(base)
def N__law_leading : List Str := ["base", "row"]
def m__law_leading : MSs := (.cons (.ret (.blt .tuple (.cons (.comp [("row", 1)] (.name 1) (.seq (.var 0)) .yes (.index (.var 1) (.int 1))) .nil))) .nil)
def F__law_leading : Fm := denF N__law_leading (denSs m__law_leading)
end KC

set_option Elab.async false
set_option linter.all false
set_option maxRecDepth 100000
set_option maxHeartbeats 1000000
namespace KC
open PySem PySem.Spec PyProof.Rows L2 Mi

theorem sh_int (i : Int) : SeqAt.shaped (.int i) = true := by simp [SeqAt.shaped, PyData.canLay0, PyData.depth]
theorem eq_int {i j : Int} {P : Bool → Prop} (h : P (i == j)) : eqW (.int i) (.int j) P := ⟨sh_int i, sh_int j, h⟩
theorem ev_int {i j : Int} {P : D → Prop} (h : P (.bool (i == j))) : valB (eqW (.int i) (.int j)) P := ⟨sh_int i, sh_int j, h⟩
theorem ne_bit {a b : Bool} {P : D → Prop} (h : P (.bool (!(a == b)))) : valB (notB (eqW (bit a) (bit b))) P := eq_bit (P := fun c => P (.bool (!c))) h
theorem l_sum_of {a b : Rw} (h : a.length = b.length) {P : D → Prop} (hP : P (rowD (GF.xr a b))) : F_sum_of [.v (rowD a), .v (rowD b)] P := by
  unfold F_sum_of N_sum_of m_sum_of rowD
  (simp only [denF, startE, denSs, denS, seqS, denX, denE, denT, denW, denA, denC, denG, denGs, denI, denO, Bop.w, Cop.w, Bl.w, compF, bodyW, wipeE, setW, gSeqW, gConsW, gNilW, lenGs, enumW, itemsW, zipW, List.length_cons, List.length_nil, List.replicate, List.append, List.cons_append, List.nil_append, List.map_cons, List.map_nil, List.set, List.getElem?_cons_zero, List.getElem?_cons_succ, Option.some.injEq, Slot.v.injEq, Slot.own.injEq, exists_eq_left', true_and, and_true, reduceCtorEq, false_or, or_false, if_true, if_false, Bool.false_eq_true])
  have e0 : enumD 0 (a.map bit) = a.zipIdx.map fun p => PyData.tuple [.int (p.2 : Nat), bit p.1] := by rw [enumD_eq, List.zipIdx_map, List.map_map]; rfl
  rw [e0]
  refine mapW_all (α := Bool × Nat) _ (fun p => bit (xor p.1 (GF.get b p.2))) a.zipIdx (fun ⟨x, i⟩ hx k hk => ?_) ?_
  · have hi : i < a.length ∧ a[i]? = some x := by
      have := List.mem_zipIdx_iff_getElem?.mp hx
      exact ⟨(List.getElem?_eq_some_iff.mp this).1, this⟩
    show gSeqW _ _ _ _ _
    (simp only [denF, startE, denSs, denS, seqS, denX, denE, denT, denW, denA, denC, denG, denGs, denI, denO, Bop.w, Cop.w, Bl.w, compF, bodyW, wipeE, setW, gSeqW, gConsW, gNilW, lenGs, enumW, itemsW, zipW, List.length_cons, List.length_nil, List.replicate, List.append, List.cons_append, List.nil_append, List.map_cons, List.map_nil, List.set, List.getElem?_cons_zero, List.getElem?_cons_succ, Option.some.injEq, Slot.v.injEq, Slot.own.injEq, exists_eq_left', true_and, and_true, reduceCtorEq, false_or, or_false, if_true, if_false, Bool.false_eq_true])
    refine idx_row (r := b) (i := i) (by omega) (ne_bit ?_)
    show intW [.bool _] _
    show k (some (.int (if (!(x == GF.get b i)) = true then 1 else 0)))
    have e : (if (!(x == GF.get b i)) = true then (1 : Int) else 0) = if xor x (GF.get b i) then 1 else 0 := by cases x <;> cases GF.get b i <;> rfl
    rw [e]
    exact hk
  · show P (.tuple _)
    have e : (a.zipIdx.map fun p => bit (xor p.1 (GF.get b p.2))) = (GF.xr a b).map bit := by
      apply List.ext_getElem?
      intro i
      by_cases hi : i < a.length
      · rw [row_at (by rw [GF.xr_len h]; exact hi), GF.get_xr i h, List.getElem?_map, List.getElem?_zipIdx, List.getElem?_eq_getElem hi]
        simp [GF.get, hi]
      · rw [List.getElem?_eq_none (by simp; omega), List.getElem?_eq_none (by simp [GF.xr_len h]; omega)]
    rw [e]; exact hP
theorem l_law_sum {a b : Rw} (h : a.length = b.length) {P : D → Prop} (hP : P (rowD (GF.xr a b))) : F__law_sum [.v (rowD a), .v (rowD b)] P := by
  unfold F__law_sum N__law_sum m__law_sum rowD
  (simp only [denF, startE, denSs, denS, seqS, denX, denE, denT, denW, denA, denC, denG, denGs, denI, denO, Bop.w, Cop.w, Bl.w, compF, bodyW, wipeE, setW, gSeqW, gConsW, gNilW, lenGs, enumW, itemsW, zipW, List.length_cons, List.length_nil, List.replicate, List.append, List.cons_append, List.nil_append, List.map_cons, List.map_nil, List.set, List.getElem?_cons_zero, List.getElem?_cons_succ, Option.some.injEq, Slot.v.injEq, Slot.own.injEq, exists_eq_left', true_and, and_true, reduceCtorEq, false_or, or_false, if_true, if_false, Bool.false_eq_true])
  have e : pairs (a.map bit) (b.map bit) = (a.zip b).map fun p => PyData.tuple [bit p.1, bit p.2] := by
    simp [pairs, List.zip_map]
  rw [e]
  refine mapW_all (α := Bool × Bool) _ (fun p => bit (xor p.1 p.2)) (a.zip b) (fun ⟨x, y⟩ hx k hk => ?_) ?_
  · show gSeqW _ _ _ _ _
    (simp only [denF, startE, denSs, denS, seqS, denX, denE, denT, denW, denA, denC, denG, denGs, denI, denO, Bop.w, Cop.w, Bl.w, compF, bodyW, wipeE, setW, gSeqW, gConsW, gNilW, lenGs, enumW, itemsW, zipW, List.length_cons, List.length_nil, List.replicate, List.append, List.cons_append, List.nil_append, List.map_cons, List.map_nil, List.set, List.getElem?_cons_zero, List.getElem?_cons_succ, Option.some.injEq, Slot.v.injEq, Slot.own.injEq, exists_eq_left', true_and, and_true, reduceCtorEq, false_or, or_false, if_true, if_false, Bool.false_eq_true])
    refine ne_bit ?_
    show k (some (.int (if (!(x == y)) = true then 1 else 0)))
    have e : (if (!(x == y)) = true then (1 : Int) else 0) = if xor x y then 1 else 0 := by cases x <;> cases y <;> rfl
    rw [e]
    exact hk
  · show P (.tuple _)
    have e : ((a.zip b).map fun p => bit (xor p.1 p.2)) = (GF.xr a b).map bit := by
      unfold GF.xr
      rw [List.zip, List.map_zipWith, List.map_zipWith]
    rw [e]; exact hP
theorem index_row {r : Rw} (h : true ∈ r) {P : D → Prop} (hP : P (.int (GF.lead r : Nat))) : indexW (rowD r) (.int 1) P := by
  refine ⟨r.map fun b => if b then 1 else 0, 1, .inr (by unfold rowD; rw [List.map_map]; rfl), rfl, List.mem_map.mpr ⟨true, h, rfl⟩, ?_⟩
  have e : (r.map fun b => if b then (1 : Int) else 0).idxOf 1 = GF.lead r := by
    unfold GF.lead
    clear h hP
    induction r with
    | nil => rfl
    | cons b r ih =>
      rw [List.map_cons, List.idxOf_cons, List.idxOf_cons, ih]
      cases b <;> rfl
  rw [e]; exact hP
theorem l_first_one {r : Rw} (h : true ∈ r) {P : D → Prop} (hP : P (.int (GF.lead r : Nat))) : F_first_one [.v (rowD r)] P := by
  unfold F_first_one N_first_one m_first_one
  (simp only [denF, startE, denSs, denS, seqS, denX, denE, denT, denW, denA, denC, denG, denGs, denI, denO, Bop.w, Cop.w, Bl.w, compF, bodyW, wipeE, setW, gSeqW, gConsW, gNilW, lenGs, enumW, itemsW, zipW, List.length_cons, List.length_nil, List.replicate, List.append, List.cons_append, List.nil_append, List.map_cons, List.map_nil, List.set, List.getElem?_cons_zero, List.getElem?_cons_succ, Option.some.injEq, Slot.v.injEq, Slot.own.injEq, exists_eq_left', true_and, and_true, reduceCtorEq, false_or, or_false, if_true, if_false, Bool.false_eq_true])
  exact ⟨trivial, index_row h hP⟩
theorem one_cl {here one : Rw} {n : Nat} (h1 : here.length = n) (h2 : one.length = n) (ht : true ∈ one) {P : D → Prop} (hP : P (rowD (if GF.get here (GF.lead one) then GF.xr here one else here))) :
    iteW (fun P => F_first_one [.v (rowD one)] fun e => idxW (rowD here) e fun d => eqW d (.int 1) P) (F_sum_of [.v (rowD here), .v (rowD one)]) (fun P => P (rowD here)) P := by
  refine l_first_one ht (idx_row (by have := GF.lead_lt ht; omega) (eq_one ?_))
  cases z : GF.get here (GF.lead one) with
  | true => rw [z] at hP; exact l_sum_of (by omega) hP
  | false => rw [z] at hP; exact hP
theorem l_told_rows {n : Nat} {rows : List Rw} {ds : D} (hd : ds = .list (rows.map rowD) ∨ ds = .tuple (rows.map rowD)) (hn : 1 ≤ n) (h : GF.Len n rows) (hs : rows.length ≤ 1000) {P : D → Prop} (hP : P (.tuple ((GF.told n rows).map rowD))) : F_told_rows [.v ds] P := by
  unfold F_told_rows N_told_rows m_told_rows
  (simp only [denF, startE, denSs, denS, seqS, denX, denE, denT, denW, denA, denC, denG, denGs, denI, denO, Bop.w, Cop.w, Bl.w, compF, bodyW, wipeE, setW, gSeqW, gConsW, gNilW, lenGs, enumW, itemsW, zipW, List.length_cons, List.length_nil, List.replicate, List.append, List.cons_append, List.nil_append, List.map_cons, List.map_nil, List.set, List.getElem?_cons_zero, List.getElem?_cons_succ, Option.some.injEq, Slot.v.injEq, Slot.own.injEq, exists_eq_left', true_and, and_true, reduceCtorEq, false_or, or_false, if_true, if_false, Bool.false_eq_true])
  refine ⟨by omega, ?_⟩
  have go : ∀ Q : List D → Prop, Q (rows.map rowD) → itemsW ds Q := fun Q q => by rcases hd with rfl | rfl <;> exact q
  refine go _ ?_
  refine forS_ind rowD (fun rest env => ∃ done, rows = done ++ rest ∧ ∃ x2 x3 x4 x5, env = [.v ds, .v (.list ((done.foldl GF.stepR []).map rowD)), x2, x3, x4, x5]) ?st ?dn rows _ ⟨[], rfl, .no, .no, .no, .no, rfl⟩
  case dn =>
    rintro env ⟨done, e, x2, x3, x4, x5, rfl⟩
    rw [List.append_nil] at e
    subst e
    (simp only [denF, startE, denSs, denS, seqS, denX, denE, denT, denW, denA, denC, denG, denGs, denI, denO, Bop.w, Cop.w, Bl.w, compF, bodyW, wipeE, setW, gSeqW, gConsW, gNilW, lenGs, enumW, itemsW, zipW, List.length_cons, List.length_nil, List.replicate, List.append, List.cons_append, List.nil_append, List.map_cons, List.map_nil, List.set, List.getElem?_cons_zero, List.getElem?_cons_succ, Option.some.injEq, Slot.v.injEq, Slot.own.injEq, exists_eq_left', true_and, and_true, reduceCtorEq, false_or, or_false, if_true, if_false, Bool.false_eq_true])
    have R := (GF.found_ok h).1
    have hperm := GF.found_perm h
    have len : ∀ r ∈ GF.foundR rows, r.length = n := R.len
    exact sort_rows true hn len hperm (by simpa using asc_lt (GF.told_red h) (GF.told_asc h)) hP
  case st =>
    rintro row rest env ⟨done, e, x2, x3, x4, x5, rfl⟩ F hF
    have hrow : row.length = n := h row (by rw [e]; simp)
    have R := (GF.found_ok (n := n) (rows := done) fun r hr => h r (by rw [e]; simp [hr])).1
    have hRf : GF.Red n (done.foldl GF.stepR []) := R
    have hFl : (done.foldl GF.stepR []).length ≤ 1000 := by
      have q := (GF.found_perm (n := n) (rows := done) fun r hr => h r (by rw [e]; simp [hr])).length_eq
      have q2 := GF.told_len (n := n) (rows := done) fun r hr => h r (by rw [e]; simp [hr])
      have q3 : (done.foldl GF.stepR []).length = (GF.told n done).length := q
      rw [e] at hs
      simp at hs
      omega
    have next : GF.stepR (done.foldl GF.stepR []) row = (done ++ [row]).foldl GF.stepR [] := by rw [List.foldl_append]; rfl
    have fin : ∀ x2 x3 x4 x5, F [.v ds, .v (.list ((GF.stepR (done.foldl GF.stepR []) row).map rowD)), x2, x3, x4, x5] := fun x2 x3 x4 x5 => hF _ ⟨done ++ [row], by rw [e]; simp, x2, x3, x4, x5, by rw [← next]⟩
    generalize hfd : done.foldl GF.stepR [] = found at *
    (simp only [denF, startE, denSs, denS, seqS, denX, denE, denT, denW, denA, denC, denG, denGs, denI, denO, Bop.w, Cop.w, Bl.w, compF, bodyW, wipeE, setW, gSeqW, gConsW, gNilW, lenGs, enumW, itemsW, zipW, List.length_cons, List.length_nil, List.replicate, List.append, List.cons_append, List.nil_append, List.map_cons, List.map_nil, List.set, List.getElem?_cons_zero, List.getElem?_cons_succ, Option.some.injEq, Slot.v.injEq, Slot.own.injEq, exists_eq_left', true_and, and_true, reduceCtorEq, false_or, or_false, if_true, if_false, Bool.false_eq_true])
    refine forS_ind rowD (fun rest' env => ∃ done', found = done' ++ rest' ∧ ∃ x4, env = [.v ds, .v (.list (found.map rowD)), .v (rowD row), .v (rowD (GF.redBy done' row)), x4, x5]) ?s2 ?d2 found _ ⟨[], rfl, _, rfl⟩
    case s2 =>
      rintro one rest' env ⟨done', e', x4, rfl⟩ F' hF'
      have hone : one ∈ found := by rw [e']; simp
      (simp only [denF, startE, denSs, denS, seqS, denX, denE, denT, denW, denA, denC, denG, denGs, denI, denO, Bop.w, Cop.w, Bl.w, compF, bodyW, wipeE, setW, gSeqW, gConsW, gNilW, lenGs, enumW, itemsW, zipW, List.length_cons, List.length_nil, List.replicate, List.append, List.cons_append, List.nil_append, List.map_cons, List.map_nil, List.set, List.getElem?_cons_zero, List.getElem?_cons_succ, Option.some.injEq, Slot.v.injEq, Slot.own.injEq, exists_eq_left', true_and, and_true, reduceCtorEq, false_or, or_false, if_true, if_false, Bool.false_eq_true])
      refine one_cl (n := n) (GF.redBy_len (fun b hb => hRf.len b (by rw [e']; simp [hb])) hrow) (hRf.len one hone) (hRf.one one hone) ?_
      refine hF' _ ⟨done' ++ [one], by rw [e']; simp, .v (rowD one), ?_⟩
      rw [GF.redBy, GF.redBy, List.foldl_append]
      rfl
    case d2 =>
      rintro env ⟨done', e', x4, rfl⟩
      rw [List.append_nil] at e'
      subst e'
      have hl := GF.redBy_len hRf.len hrow
      (simp only [denF, startE, denSs, denS, seqS, denX, denE, denT, denW, denA, denC, denG, denGs, denI, denO, Bop.w, Cop.w, Bl.w, compF, bodyW, wipeE, setW, gSeqW, gConsW, gNilW, lenGs, enumW, itemsW, zipW, List.length_cons, List.length_nil, List.replicate, List.append, List.cons_append, List.nil_append, List.map_cons, List.map_nil, List.set, List.getElem?_cons_zero, List.getElem?_cons_succ, Option.some.injEq, Slot.v.injEq, Slot.own.injEq, exists_eq_left', true_and, and_true, reduceCtorEq, false_or, or_false, if_true, if_false, Bool.false_eq_true])
      refine in_row ?_
      by_cases ht : true ∈ GF.redBy found row
      · simp only [ht, decide_true, if_true]
        refine l_first_one ht ?_
        refine mapW_all (α := Rw) rowD (fun r => rowD (GF.cl (GF.lead (GF.redBy found row)) (GF.redBy found row) r)) found (fun r hr k hk => ?_) ?_
        · have hrl := hRf.len r hr
          (simp only [denF, startE, denSs, denS, seqS, denX, denE, denT, denW, denA, denC, denG, denGs, denI, denO, Bop.w, Cop.w, Bl.w, compF, bodyW, wipeE, setW, gSeqW, gConsW, gNilW, lenGs, enumW, itemsW, zipW, List.length_cons, List.length_nil, List.replicate, List.append, List.cons_append, List.nil_append, List.map_cons, List.map_nil, List.set, List.getElem?_cons_zero, List.getElem?_cons_succ, Option.some.injEq, Slot.v.injEq, Slot.own.injEq, exists_eq_left', true_and, and_true, reduceCtorEq, false_or, or_false, if_true, if_false, Bool.false_eq_true])
          refine idx_row (by have := GF.lead_lt ht; omega) (eq_one ?_)
          unfold GF.cl at hk
          cases z : GF.get r (GF.lead (GF.redBy found row)) with
          | true => rw [z] at hk; exact l_sum_of (by omega) hk
          | false => rw [z] at hk; exact hk
        · refine ⟨by omega, by simp; omega, ?_⟩
          have e2 : found.map (fun r => rowD (GF.cl (GF.lead (GF.redBy found row)) (GF.redBy found row) r)) ++ [rowD (GF.redBy found row)] = (GF.stepR found row).map rowD := by
            rw [GF.stepR, if_pos ht, List.map_append, List.map_map]
            rfl
          rw [e2]
          exact fin _ _ _ _
      · simp only [ht, decide_false, Bool.false_eq_true, if_false]
        have e2 : GF.stepR found row = found := by rw [GF.stepR, if_neg ht]
        rw [e2] at fin
        exact fin _ _ _ _

theorem l_code_of_rows {n : Nat} {rows : List Rw} {ds : D} (hd : ds = .list (rows.map rowD) ∨ ds = .tuple (rows.map rowD)) (hn : 1 ≤ n) (h : GF.Len n rows) (hs : rows.length ≤ 1000) {P : D → Prop} (hP : P (.tuple [.int (n : Nat), .tuple ((GF.told n rows).map rowD)])) : F_code_of_rows [.v (.int (n : Nat)), .v ds] P := by
  unfold F_code_of_rows N_code_of_rows m_code_of_rows
  (simp only [denF, startE, denSs, denS, seqS, denX, denE, denT, denW, denA, denC, denG, denGs, denI, denO, Bop.w, Cop.w, Bl.w, compF, bodyW, wipeE, setW, gSeqW, gConsW, gNilW, lenGs, enumW, itemsW, zipW, List.length_cons, List.length_nil, List.replicate, List.append, List.cons_append, List.nil_append, List.map_cons, List.map_nil, List.set, List.getElem?_cons_zero, List.getElem?_cons_succ, Option.some.injEq, Slot.v.injEq, Slot.own.injEq, exists_eq_left', true_and, and_true, reduceCtorEq, false_or, or_false, if_true, if_false, Bool.false_eq_true])
  refine l_told_rows hd hn h hs ?_
  exact ⟨by omega, hP⟩
def codeD (n : Nat) (rows : List Rw) : D := .tuple [.int (n : Nat), .tuple (rows.map rowD)]
theorem code_0 {n : Nat} {rows : List Rw} {P : D → Prop} (h : P (.int (n : Nat))) : idxW (codeD n rows) (.int 0) P := ⟨_, rfl, h⟩
theorem code_1 {n : Nat} {rows : List Rw} {P : D → Prop} (h : P (.tuple (rows.map rowD))) : idxW (codeD n rows) (.int 1) P := ⟨_, rfl, h⟩
theorem l_leading_places {n : Nat} {rows : List Rw} (hn : 1 ≤ n) (h : GF.Len n rows) (hs : rows.length ≤ 1000) {P : D → Prop} (hP : P (.tuple ((GF.told n rows).map fun r => .int (GF.lead r : Nat)))) : F_leading_places [.v (codeD n rows)] P := by
  unfold F_leading_places N_leading_places m_leading_places
  (simp only [denF, startE, denSs, denS, seqS, denX, denE, denT, denW, denA, denC, denG, denGs, denI, denO, Bop.w, Cop.w, Bl.w, compF, bodyW, wipeE, setW, gSeqW, gConsW, gNilW, lenGs, enumW, itemsW, zipW, List.length_cons, List.length_nil, List.replicate, List.append, List.cons_append, List.nil_append, List.map_cons, List.map_nil, List.set, List.getElem?_cons_zero, List.getElem?_cons_succ, Option.some.injEq, Slot.v.injEq, Slot.own.injEq, exists_eq_left', true_and, and_true, reduceCtorEq, false_or, or_false, if_true, if_false, Bool.false_eq_true])
  refine code_1 (l_told_rows (.inr rfl) hn h hs ?_)
  refine mapW_all (α := Rw) rowD (fun r => .int (GF.lead r : Nat)) _ (fun r hr k hk => ?_) hP
  (simp only [denF, startE, denSs, denS, seqS, denX, denE, denT, denW, denA, denC, denG, denGs, denI, denO, Bop.w, Cop.w, Bl.w, compF, bodyW, wipeE, setW, gSeqW, gConsW, gNilW, lenGs, enumW, itemsW, zipW, List.length_cons, List.length_nil, List.replicate, List.append, List.cons_append, List.nil_append, List.map_cons, List.map_nil, List.set, List.getElem?_cons_zero, List.getElem?_cons_succ, Option.some.injEq, Slot.v.injEq, Slot.own.injEq, exists_eq_left', true_and, and_true, reduceCtorEq, false_or, or_false, if_true, if_false, Bool.false_eq_true])
  exact l_first_one ((GF.told_red h).one r hr) hk
theorem l_row_number {n : Nat} {rows : List Rw} {v : Rw} (hn : 1 ≤ n) (h : GF.Len n rows) (hs : rows.length ≤ 1000) (hv : v.length = n) {P : D → Prop} (hP : P (.int (GF.num (GF.told n rows) v : Nat))) : F_row_number [.v (codeD n rows), .v (rowD v)] P := by
  unfold F_row_number N_row_number m_row_number
  (simp only [denF, startE, denSs, denS, seqS, denX, denE, denT, denW, denA, denC, denG, denGs, denI, denO, Bop.w, Cop.w, Bl.w, compF, bodyW, wipeE, setW, gSeqW, gConsW, gNilW, lenGs, enumW, itemsW, zipW, List.length_cons, List.length_nil, List.replicate, List.append, List.cons_append, List.nil_append, List.map_cons, List.map_nil, List.set, List.getElem?_cons_zero, List.getElem?_cons_succ, Option.some.injEq, Slot.v.injEq, Slot.own.injEq, exists_eq_left', true_and, and_true, reduceCtorEq, false_or, or_false, if_true, if_false, Bool.false_eq_true])
  refine l_leading_places hn h hs ?_
  refine forS_ind (α := Rw) (fun r => .int (GF.lead r : Nat)) (fun rest env => ∃ done, GF.told n rows = done ++ rest ∧ ∃ x3, env = [.v (codeD n rows), .v (rowD v), .v (.int (GF.num done v : Nat)), x3]) ?st ?dn _ _ ⟨[], rfl, .no, rfl⟩
  case dn =>
    rintro env ⟨done, e, x3, rfl⟩
    rw [List.append_nil] at e
    (simp only [denF, startE, denSs, denS, seqS, denX, denE, denT, denW, denA, denC, denG, denGs, denI, denO, Bop.w, Cop.w, Bl.w, compF, bodyW, wipeE, setW, gSeqW, gConsW, gNilW, lenGs, enumW, itemsW, zipW, List.length_cons, List.length_nil, List.replicate, List.append, List.cons_append, List.nil_append, List.map_cons, List.map_nil, List.set, List.getElem?_cons_zero, List.getElem?_cons_succ, Option.some.injEq, Slot.v.injEq, Slot.own.injEq, exists_eq_left', true_and, and_true, reduceCtorEq, false_or, or_false, if_true, if_false, Bool.false_eq_true])
    rw [e] at hP
    exact hP
  case st =>
    rintro r rest env ⟨done, e, x3, rfl⟩ F hF
    have hr : r ∈ GF.told n rows := by rw [e]; simp
    have R := GF.told_red h
    have hl : GF.lead r < n := by
      have := GF.lead_lt (R.one r hr)
      rw [R.len r hr] at this
      exact this
    (simp only [denF, startE, denSs, denS, seqS, denX, denE, denT, denW, denA, denC, denG, denGs, denI, denO, Bop.w, Cop.w, Bl.w, compF, bodyW, wipeE, setW, gSeqW, gConsW, gNilW, lenGs, enumW, itemsW, zipW, List.length_cons, List.length_nil, List.replicate, List.append, List.cons_append, List.nil_append, List.map_cons, List.map_nil, List.set, List.getElem?_cons_zero, List.getElem?_cons_succ, Option.some.injEq, Slot.v.injEq, Slot.own.injEq, exists_eq_left', true_and, and_true, reduceCtorEq, false_or, or_false, if_true, if_false, Bool.false_eq_true])
    refine ⟨.inl (by decide), idx_row (by omega) ?_⟩
    refine hF _ ⟨done ++ [r], by rw [e]; simp, .v (.int (GF.lead r : Nat)), ?_⟩
    have e2 : (2 : Int) * (GF.num done v : Nat) + (if GF.get v (GF.lead r) then 1 else 0) = (GF.num (done ++ [r]) v : Nat) := by
      unfold GF.num GF.numF
      rw [List.foldl_append]
      simp only [List.foldl_cons, List.foldl_nil]
      cases GF.get v (GF.lead r) <;> simp
    rw [← e2]
theorem l_sum_of_rows {n : Nat} {rows : List Rw} {ds : D} (hd : ds = .list (rows.map rowD) ∨ ds = .tuple (rows.map rowD)) (hn : 1 ≤ n) (hn2 : n ≤ 1000) (h : GF.Len n rows) {P : D → Prop} (hP : P (rowD (GF.sumR n rows))) : F_sum_of_rows [.v (.int (n : Nat)), .v ds] P := by
  unfold F_sum_of_rows N_sum_of_rows m_sum_of_rows
  (simp only [denF, startE, denSs, denS, seqS, denX, denE, denT, denW, denA, denC, denG, denGs, denI, denO, Bop.w, Cop.w, Bl.w, compF, bodyW, wipeE, setW, gSeqW, gConsW, gNilW, lenGs, enumW, itemsW, zipW, List.length_cons, List.length_nil, List.replicate, List.append, List.cons_append, List.nil_append, List.map_cons, List.map_nil, List.set, List.getElem?_cons_zero, List.getElem?_cons_succ, Option.some.injEq, Slot.v.injEq, Slot.own.injEq, exists_eq_left', true_and, and_true, reduceCtorEq, false_or, or_false, if_true, if_false, Bool.false_eq_true])
  refine ⟨by omega, ⟨by omega, by omega, by simp, by simp⟩, ?_⟩
  have e0 : PyData.tuple (List.replicate (n : Int).toNat [PyData.int 0]).flatten = rowD (GF.zer n) := by
    unfold rowD GF.zer
    rw [Int.toNat_natCast, List.map_replicate, List.flatten_replicate_singleton]
    rfl
  show itemsW ds _
  rw [e0]
  have go : ∀ Q : List D → Prop, Q (rows.map rowD) → itemsW ds Q := fun Q q => by rcases hd with rfl | rfl <;> exact q
  refine go _ ?_
  refine forS_ind (α := Rw) rowD (fun rest env => ∃ done, rows = done ++ rest ∧ ∃ x3, env = [.v (.int (n : Nat)), .v ds, .v (rowD (GF.sumR n done)), x3]) ?st ?dn _ _ ⟨[], rfl, .no, rfl⟩
  case dn =>
    rintro env ⟨done, e, x3, rfl⟩
    rw [List.append_nil] at e
    subst e
    (simp only [denF, startE, denSs, denS, seqS, denX, denE, denT, denW, denA, denC, denG, denGs, denI, denO, Bop.w, Cop.w, Bl.w, compF, bodyW, wipeE, setW, gSeqW, gConsW, gNilW, lenGs, enumW, itemsW, zipW, List.length_cons, List.length_nil, List.replicate, List.append, List.cons_append, List.nil_append, List.map_cons, List.map_nil, List.set, List.getElem?_cons_zero, List.getElem?_cons_succ, Option.some.injEq, Slot.v.injEq, Slot.own.injEq, exists_eq_left', true_and, and_true, reduceCtorEq, false_or, or_false, if_true, if_false, Bool.false_eq_true])
    exact hP
  case st =>
    rintro r rest env ⟨done, e, x3, rfl⟩ F hF
    (simp only [denF, startE, denSs, denS, seqS, denX, denE, denT, denW, denA, denC, denG, denGs, denI, denO, Bop.w, Cop.w, Bl.w, compF, bodyW, wipeE, setW, gSeqW, gConsW, gNilW, lenGs, enumW, itemsW, zipW, List.length_cons, List.length_nil, List.replicate, List.append, List.cons_append, List.nil_append, List.map_cons, List.map_nil, List.set, List.getElem?_cons_zero, List.getElem?_cons_succ, Option.some.injEq, Slot.v.injEq, Slot.own.injEq, exists_eq_left', true_and, and_true, reduceCtorEq, false_or, or_false, if_true, if_false, Bool.false_eq_true])
    have hr := h r (by rw [e]; simp)
    have hd : GF.Len n done := fun x hx => h x (by rw [e]; simp [hx])
    refine l_sum_of (by rw [GF.sumR_len hd, hr]) ?_
    refine hF _ ⟨done ++ [r], by rw [e]; simp, .v (rowD r), ?_⟩
    rw [GF.sumR, GF.sumR, List.foldl_append]
    rfl

theorem pick_idx (m : Nat) : ∀ (B : List Rw) (k L : Nat), L = k + B.length → (B.zipIdx k).filterMap (fun p => if m.testBit (L - 1 - p.2) then some (rowD p.1) else none) = (GF.pickB B m).map rowD
  | [], _, _, _ => rfl
  | b :: B, k, L, h => by
    rw [List.zipIdx_cons, List.filterMap_cons, pick_idx m B (k + 1) L (by rw [h, List.length_cons]; omega), GF.pickB]
    have e : L - 1 - k = B.length := by rw [h, List.length_cons]; omega
    rw [e]
    cases m.testBit B.length <;> rfl
theorem l_numbered_row {n m : Nat} {rows : List Rw} (hn : 1 ≤ n) (hn2 : n ≤ 1000) (h : GF.Len n rows) (hs : rows.length ≤ 1000) {P : D → Prop} (hP : P (rowD (GF.gB n (GF.told n rows) m))) : F_numbered_row [.v (codeD n rows), .v (.int (m : Nat))] P := by
  unfold F_numbered_row N_numbered_row m_numbered_row
  (simp only [denF, startE, denSs, denS, seqS, denX, denE, denT, denW, denA, denC, denG, denGs, denI, denO, Bop.w, Cop.w, Bl.w, compF, bodyW, wipeE, setW, gSeqW, gConsW, gNilW, lenGs, enumW, itemsW, zipW, List.length_cons, List.length_nil, List.replicate, List.append, List.cons_append, List.nil_append, List.map_cons, List.map_nil, List.set, List.getElem?_cons_zero, List.getElem?_cons_succ, Option.some.injEq, Slot.v.injEq, Slot.own.injEq, exists_eq_left', true_and, and_true, reduceCtorEq, false_or, or_false, if_true, if_false, Bool.false_eq_true])
  refine code_1 (l_told_rows (.inr rfl) hn h hs ?_)
  refine code_0 ?_
  show mapW (enumD 0 ((GF.told n rows).map rowD)) _ _
  have e0 : enumD 0 ((GF.told n rows).map rowD) = (GF.told n rows).zipIdx.map fun p => PyData.tuple [.int (p.2 : Nat), rowD p.1] := by rw [enumD_eq, List.zipIdx_map, List.map_map]; rfl
  rw [e0]
  refine mapW_of (α := Rw × Nat) _ (fun p => if m.testBit ((GF.told n rows).length - 1 - p.2) then some (rowD p.1) else none) _ (fun ⟨r, i⟩ hx k hk => ?_) ?_
  · have hi : i < (GF.told n rows).length := (List.getElem?_eq_some_iff.mp (List.mem_zipIdx_iff_getElem?.mp hx)).1
    show gSeqW _ _ _ _ _
    (simp only [denF, startE, denSs, denS, seqS, denX, denE, denT, denW, denA, denC, denG, denGs, denI, denO, Bop.w, Cop.w, Bl.w, compF, bodyW, wipeE, setW, gSeqW, gConsW, gNilW, lenGs, enumW, itemsW, zipW, List.length_cons, List.length_nil, List.replicate, List.append, List.cons_append, List.nil_append, List.map_cons, List.map_nil, List.set, List.getElem?_cons_zero, List.getElem?_cons_succ, Option.some.injEq, Slot.v.injEq, Slot.own.injEq, exists_eq_left', true_and, and_true, reduceCtorEq, false_or, or_false, if_true, if_false, Bool.false_eq_true])
    have hlen : ((GF.told n rows).map rowD).length = (GF.told n rows).length := List.length_map ..
    generalize hL : (GF.told n rows).length = L at *
    simp only [lenW]
    rw [hlen]
    have e1 : ((L : Int) - 1 - (i : Nat)).toNat = L - 1 - i := by omega
    have e2 : (m : Int) / 2 ^ (L - 1 - i) = ((m / 2 ^ (L - 1 - i) : Nat) : Int) := by simp
    show 0 ≤ (L : Int) - 1 - (i : Nat) ∧ (if (Builtin.bitAnd ((m : Int) / 2 ^ ((L : Int) - 1 - (i : Nat)).toNat) 1 != 0) = true then k (some (rowD r)) else k none)
    refine ⟨by omega, ?_⟩
    rw [e1, e2, PyProof.Rows.bitAnd_m1]
    have ht := Nat.testBit_eq_decide_div_mod_eq (x := m) (i := L - 1 - i)
    have hk : k (if m.testBit (L - 1 - i) = true then some (rowD r) else none) := hk
    rw [ht] at hk
    rcases Nat.mod_two_eq_zero_or_one (m / 2 ^ (L - 1 - i)) with z | z
    · have e3 : (((m / 2 ^ (L - 1 - i) : Nat) : Int) % 2) = 0 := by omega
      rw [z] at hk
      rw [e3]
      exact hk
    · have e3 : (((m / 2 ^ (L - 1 - i) : Nat) : Int) % 2) = 1 := by omega
      rw [z] at hk
      rw [e3]
      exact hk
  · rw [pick_idx m _ 0 _ (by simp)]
    exact l_sum_of_rows (.inl rfl) hn hn2 (fun r hr => (GF.told_red h).len r (GF.pick_mem hr)) hP

theorem max_one {m : Int} (h : 1 ≤ m) {P : D → Prop} (hP : P (.int m)) : max2W [.int 1, .int m] P := by
  show P (.int (if m > 1 then m else 1))
  by_cases e : m > 1
  · rw [if_pos e]; exact hP
  · rw [if_neg e]
    have : m = 1 := by omega
    subst this; exact hP
theorem fmod_rng {i m : Int} (h : 1 ≤ m) : 0 ≤ i.fmod m ∧ i.fmod m < m := ⟨Int.fmod_nonneg_of_pos i (by omega), Int.fmod_lt_of_pos i (by omega)⟩
theorem l_pick : PickOk F__law_pick := by
  intro m P hm hm2 hP
  unfold F__law_pick N__law_pick m__law_pick
  (simp only [denF, startE, denSs, denS, seqS, denX, denE, denT, denW, denA, denC, denG, denGs, denI, denO, Bop.w, Cop.w, Bl.w, compF, bodyW, wipeE, setW, gSeqW, gConsW, gNilW, lenGs, enumW, itemsW, zipW, List.length_cons, List.length_nil, List.replicate, List.append, List.cons_append, List.nil_append, List.map_cons, List.map_nil, List.set, List.getElem?_cons_zero, List.getElem?_cons_succ, Option.some.injEq, Slot.v.injEq, Slot.own.injEq, exists_eq_left', true_and, and_true, reduceCtorEq, false_or, or_false, if_true, if_false, Bool.false_eq_true])
  simp only [srcLoopS, srcW, srcSetS]
  (simp only [denF, startE, denSs, denS, seqS, denX, denE, denT, denW, denA, denC, denG, denGs, denI, denO, Bop.w, Cop.w, Bl.w, compF, bodyW, wipeE, setW, gSeqW, gConsW, gNilW, lenGs, enumW, itemsW, zipW, List.length_cons, List.length_nil, List.replicate, List.append, List.cons_append, List.nil_append, List.map_cons, List.map_nil, List.set, List.getElem?_cons_zero, List.getElem?_cons_succ, Option.some.injEq, Slot.v.injEq, Slot.own.injEq, exists_eq_left', true_and, and_true, reduceCtorEq, false_or, or_false, if_true, if_false, Bool.false_eq_true])
  refine ⟨⟨m, rfl⟩, fun left => ?_⟩
  have fin : ∀ i : Int, modW (.int i) (.int m) P := fun i => ⟨by omega, hP _ (fmod_rng hm).1 (fmod_rng hm).2⟩
  have hlog : m.natAbs.log2 < 9000 := by
    have h0 : m.natAbs ≠ 0 := by omega
    have := (Nat.log2_lt (k := 30) h0).mpr (by omega)
    omega
  have tail : ∀ n : Int, addW (.int n) (.int 1) fun d => (∃ n, d = PyData.int n) ∧ ∀ (n n_1 : Int), mulW (PyData.int n_1) (PyData.int 104729) fun e => addW (PyData.int n) e fun d => intW [d] fun d => modW d (PyData.int 998244353) fun d =>
      mulW d d fun d => ∀ (n : Int), mulW (PyData.int n) (PyData.int 17) fun e => addW d e fun d => intW [d] fun d => modW d (PyData.int 2147483647) fun d => (∃ n, d = PyData.int n) ∧ divW d (PyData.int 16) fun d => intW [d] fun d => modW d (PyData.int m) P := fun n => by
    refine ⟨⟨_, rfl⟩, fun a b => ⟨.inr (.inl (by decide)), ⟨by decide, ?_⟩⟩⟩
    have r := fmod_rng (i := a + b * 104729) (m := 998244353) (by decide)
    refine ⟨.inl (by omega), fun c => ⟨.inr (.inl (by decide)), ⟨by decide, ⟨_, rfl⟩, ⟨by decide, by decide⟩, fin _⟩⟩⟩
  simp only [orT, ltW, gtW]
  by_cases c1 : m < 2
  · simp only [c1, decide_true, if_true]
    exact max_one hm ⟨⟨by omega, hlog⟩, ⟨_, rfl⟩, (max_one hm (P := fun e => modW (.int left) e P) (fin _) : max2W _ _)⟩
  · simp only [c1, decide_false, Bool.false_eq_true, if_false]
    by_cases c2 : 1 < left
    · simp only [c2, decide_true, if_true]
      exact max_one hm ⟨⟨by omega, hlog⟩, ⟨_, rfl⟩, (max_one hm (P := fun e => modW (.int left) e P) (fin _) : max2W _ _)⟩
    · simp only [c2, decide_false, Bool.false_eq_true, if_false]
      exact tail

theorem l_law_of {ds : List D} {P : D → Prop} (h0 : ds ≠ []) (h1 : ds.length ≤ 16777216) (hP : ∀ d ∈ ds, P d) : F__law_of [.src, .v (.list ds)] P := by
  unfold F__law_of N__law_of m__law_of
  (simp only [denF, startE, denSs, denS, seqS, denX, denE, denT, denW, denA, denC, denG, denGs, denI, denO, Bop.w, Cop.w, Bl.w, compF, bodyW, wipeE, setW, gSeqW, gConsW, gNilW, lenGs, enumW, itemsW, zipW, List.length_cons, List.length_nil, List.replicate, List.append, List.cons_append, List.nil_append, List.map_cons, List.map_nil, List.set, List.getElem?_cons_zero, List.getElem?_cons_succ, Option.some.injEq, Slot.v.injEq, Slot.own.injEq, exists_eq_left', true_and, and_true, reduceCtorEq, false_or, or_false, if_true, if_false, Bool.false_eq_true])
  have hl : 0 < ds.length := List.length_pos_iff.mpr h0
  show F__law_pick [.src, .v (.int (ds.length : Nat))] _
  refine l_pick _ _ (by omega) (by omega) fun r r0 r1 => ?_
  have hr : r.toNat < ds.length := by omega
  have e : r = ((r.toNat : Nat) : Int) := by omega
  rw [e]
  exact idx_list (List.getElem?_eq_getElem hr) (hP _ (List.getElem_mem hr))
theorem l_mixed {ds : List D} {d : D} {P : D → Prop} (hd : d = .list ds ∨ d = .tuple ds) (h1 : ds.length ≤ 16777216) (hP : ∀ es : List D, es.Perm ds → P (.list es)) : F__law_mixed [.src, .v d] P := by
  unfold F__law_mixed N__law_mixed m__law_mixed
  (simp only [denF, startE, denSs, denS, seqS, denX, denE, denT, denW, denA, denC, denG, denGs, denI, denO, Bop.w, Cop.w, Bl.w, compF, bodyW, wipeE, setW, gSeqW, gConsW, gNilW, lenGs, enumW, itemsW, zipW, List.length_cons, List.length_nil, List.replicate, List.append, List.cons_append, List.nil_append, List.map_cons, List.map_nil, List.set, List.getElem?_cons_zero, List.getElem?_cons_succ, Option.some.injEq, Slot.v.injEq, Slot.own.injEq, exists_eq_left', true_and, and_true, reduceCtorEq, false_or, or_false, if_true, if_false, Bool.false_eq_true])
  have key : mixS 0 2 F__law_pick [.src, .v d, .own ds, .no] { nx := fun _ => P .none, rt := P, bk := fun _ => False, ct := fun _ => False } := ⟨ds, rfl, rfl, l_pick, h1, hP⟩
  rcases hd with rfl | rfl <;> exact key
theorem l_row {n : Nat} (hn : n ≤ 1000) {P : D → Prop} (hP : ∀ r : Rw, r.length = n → P (rowD r)) : F__law_row [.src, .v (.int (n : Nat))] P := by
  unfold F__law_row N__law_row m__law_row
  (simp only [denF, startE, denSs, denS, seqS, denX, denE, denT, denW, denA, denC, denG, denGs, denI, denO, Bop.w, Cop.w, Bl.w, compF, bodyW, wipeE, setW, gSeqW, gConsW, gNilW, lenGs, enumW, itemsW, zipW, List.length_cons, List.length_nil, List.replicate, List.append, List.cons_append, List.nil_append, List.map_cons, List.map_nil, List.set, List.getElem?_cons_zero, List.getElem?_cons_succ, Option.some.injEq, Slot.v.injEq, Slot.own.injEq, exists_eq_left', true_and, and_true, reduceCtorEq, false_or, or_false, if_true, if_false, Bool.false_eq_true])
  refine ⟨by omega, l_law_of (by simp) (by simp) fun d hd => ?_⟩
  have hd' : ∃ i : Int, d = .int i := by
    simp at hd
    rcases hd with rfl | rfl | rfl <;> exact ⟨_, rfl⟩
  obtain ⟨sh, rfl⟩ := hd'
  refine ⟨⟨by omega, by omega⟩, ?_⟩
  rw [Int.toNat_natCast, rangeD0]
  refine mapW_rel (α := Nat) (R := fun _ y => ∃ b, y = bit b) _ _ (fun i hi k hk => ?_) fun ys hl hys => ?_
  · (simp only [denF, startE, denSs, denS, seqS, denX, denE, denT, denW, denA, denC, denG, denGs, denI, denO, Bop.w, Cop.w, Bl.w, compF, bodyW, wipeE, setW, gSeqW, gConsW, gNilW, lenGs, enumW, itemsW, zipW, List.length_cons, List.length_nil, List.replicate, List.append, List.cons_append, List.nil_append, List.map_cons, List.map_nil, List.set, List.getElem?_cons_zero, List.getElem?_cons_succ, Option.some.injEq, Slot.v.injEq, Slot.own.injEq, exists_eq_left', true_and, and_true, reduceCtorEq, false_or, or_false, if_true, if_false, Bool.false_eq_true])
    refine l_pick _ _ (by omega) (by omega) fun r r0 r1 => ?_
    show k (some (.int (if decide (r < sh) = true then 1 else 0)))
    exact hk _ ⟨decide (r < sh), rfl⟩
  · have : ∃ r : Rw, r.length = n ∧ ys = r.map bit := by
      have key : ∀ (xs : List Nat) (ys : List D), ys.length = xs.length → (∀ (i : Nat) x y, xs[i]? = some x → ys[i]? = some y → ∃ b, y = bit b) → ∃ r : Rw, r.length = xs.length ∧ ys = r.map bit := by
        intro xs
        induction xs with
        | nil => intro ys hl _; exact ⟨[], rfl, List.eq_nil_of_length_eq_zero (by simpa using hl)⟩
        | cons x xs ih =>
          intro ys hl h
          cases ys with
          | nil => simp at hl
          | cons y ys =>
            obtain ⟨b, hb⟩ := h 0 x y rfl rfl
            obtain ⟨r, h1, h2⟩ := ih ys (by simpa using hl) fun i x y e1 e2 => h (i + 1) x y (by simpa using e1) (by simpa using e2)
            exact ⟨b :: r, by simp [h1], by rw [hb, h2]; rfl⟩
      have := key _ ys hl hys
      simpa using this
    obtain ⟨r, h1, rfl⟩ := this
    exact hP r h1
theorem l_leading {B : List Rw} (h : ∀ b ∈ B, true ∈ b) {P : D → Prop} (hP : P (.tuple (B.map fun r => .int (GF.lead r : Nat)))) : F__law_leading [.v (.tuple (B.map rowD))] P := by
  unfold F__law_leading N__law_leading m__law_leading
  (simp only [denF, startE, denSs, denS, seqS, denX, denE, denT, denW, denA, denC, denG, denGs, denI, denO, Bop.w, Cop.w, Bl.w, compF, bodyW, wipeE, setW, gSeqW, gConsW, gNilW, lenGs, enumW, itemsW, zipW, List.length_cons, List.length_nil, List.replicate, List.append, List.cons_append, List.nil_append, List.map_cons, List.map_nil, List.set, List.getElem?_cons_zero, List.getElem?_cons_succ, Option.some.injEq, Slot.v.injEq, Slot.own.injEq, exists_eq_left', true_and, and_true, reduceCtorEq, false_or, or_false, if_true, if_false, Bool.false_eq_true])
  refine mapW_all (α := Rw) rowD (fun r => .int (GF.lead r : Nat)) _ (fun r hr k hk => ?_) hP
  (simp only [denF, startE, denSs, denS, seqS, denX, denE, denT, denW, denA, denC, denG, denGs, denI, denO, Bop.w, Cop.w, Bl.w, compF, bodyW, wipeE, setW, gSeqW, gConsW, gNilW, lenGs, enumW, itemsW, zipW, List.length_cons, List.length_nil, List.replicate, List.append, List.cons_append, List.nil_append, List.map_cons, List.map_nil, List.set, List.getElem?_cons_zero, List.getElem?_cons_succ, Option.some.injEq, Slot.v.injEq, Slot.own.injEq, exists_eq_left', true_and, and_true, reduceCtorEq, false_or, or_false, if_true, if_false, Bool.false_eq_true])
  exact ⟨trivial, index_row (h r hr) hk⟩

theorem cl_law {row head : Rw} {p n : Nat} (h1 : row.length = n) (h2 : head.length = n) (hp : p < n) {P : D → Prop} (hP : P (rowD (GF.cl p head row))) :
    iteW (fun P => idxW (rowD row) (.int (p : Nat)) fun d => eqW d (.int 1) P) (F__law_sum [.v (rowD row), .v (rowD head)]) (fun P => P (rowD row)) P := by
  refine idx_row (by omega) (eq_one ?_)
  unfold GF.cl at hP
  cases z : GF.get row p with
  | true => rw [z] at hP; exact l_law_sum (by omega) hP
  | false => rw [z] at hP; exact hP
theorem l_told {n : Nat} {rows : List Rw} {ds : D} (hd : ds = .list (rows.map rowD) ∨ ds = .tuple (rows.map rowD)) (hn : n ≤ 1000) (h : GF.Len n rows) (hs : rows.length ≤ 1000) {P : D → Prop} (hP : P (.tuple ((GF.told n rows).map rowD))) : F__law_told [.v (.int (n : Nat)), .v ds] P := by
  unfold F__law_told N__law_told m__law_told
  (simp only [denF, startE, denSs, denS, seqS, denX, denE, denT, denW, denA, denC, denG, denGs, denI, denO, Bop.w, Cop.w, Bl.w, compF, bodyW, wipeE, setW, gSeqW, gConsW, gNilW, lenGs, enumW, itemsW, zipW, List.length_cons, List.length_nil, List.replicate, List.append, List.cons_append, List.nil_append, List.map_cons, List.map_nil, List.set, List.getElem?_cons_zero, List.getElem?_cons_succ, Option.some.injEq, Slot.v.injEq, Slot.own.injEq, exists_eq_left', true_and, and_true, reduceCtorEq, false_or, or_false, if_true, if_false, Bool.false_eq_true])
  have go : ∀ Q : D → Prop, Q (.list (rows.map rowD)) → listW [ds] Q := fun Q q => by rcases hd with rfl | rfl <;> exact q
  refine go _ ⟨by omega, ⟨by omega, by omega⟩, ?_⟩
  rw [Int.toNat_natCast, rangeD0]
  refine forS_ind (α := Nat) (fun i => .int (i : Nat)) (fun rest env => ∃ done s, List.range n = done ++ rest ∧ done.foldl (fun s p => GF.stepT p s) (rows, []) = s ∧ GF.Len n s.1 ∧ GF.Len n s.2 ∧ s.1.length + s.2.length ≤ 1000 ∧
    ∃ x2 x5 x6, env = [.v (.int (n : Nat)), .v ds, x2, .v (.list (s.1.map rowD)), .v (.list (s.2.map rowD)), x5, x6, .no]) ?st ?dn _ _ ⟨[], _, rfl, rfl, h, fun _ hb => by simp at hb, by simpa using hs, .no, .no, .no, rfl⟩
  case dn =>
    rintro env ⟨done, s, e, es, _, _, _, x2, x5, x6, rfl⟩
    rw [List.append_nil] at e
    (simp only [denF, startE, denSs, denS, seqS, denX, denE, denT, denW, denA, denC, denG, denGs, denI, denO, Bop.w, Cop.w, Bl.w, compF, bodyW, wipeE, setW, gSeqW, gConsW, gNilW, lenGs, enumW, itemsW, zipW, List.length_cons, List.length_nil, List.replicate, List.append, List.cons_append, List.nil_append, List.map_cons, List.map_nil, List.set, List.getElem?_cons_zero, List.getElem?_cons_succ, Option.some.injEq, Slot.v.injEq, Slot.own.injEq, exists_eq_left', true_and, and_true, reduceCtorEq, false_or, or_false, if_true, if_false, Bool.false_eq_true])
    have : GF.told n rows = s.2 := by unfold GF.told GF.toldS; rw [e, es]
    rw [this] at hP
    exact hP
  case st =>
    rintro p rest env ⟨done, s, e, es, l1, l2, hc, x2, x5, x6, rfl⟩ F hF
    have hp : p < n := List.mem_range.mp (by rw [e]; simp)
    obtain ⟨q1, q2, q3⟩ := GF.stepT_len (p := p) l1 l2
    have next : (done ++ [p]).foldl (fun s p => GF.stepT p s) (rows, []) = GF.stepT p s := by rw [List.foldl_append, es]; rfl
    have fin : ∀ x2 x5 x6, F [.v (.int (n : Nat)), .v ds, x2, .v (.list ((GF.stepT p s).1.map rowD)), .v (.list ((GF.stepT p s).2.map rowD)), x5, x6, .no] := fun x2 x5 x6 => hF _ ⟨done ++ [p], _, by rw [e]; simp, next, q1, q2, by omega, x2, x5, x6, rfl⟩
    (simp only [denF, startE, denSs, denS, seqS, denX, denE, denT, denW, denA, denC, denG, denGs, denI, denO, Bop.w, Cop.w, Bl.w, compF, bodyW, wipeE, setW, gSeqW, gConsW, gNilW, lenGs, enumW, itemsW, zipW, List.length_cons, List.length_nil, List.replicate, List.append, List.cons_append, List.nil_append, List.map_cons, List.map_nil, List.set, List.getElem?_cons_zero, List.getElem?_cons_succ, Option.some.injEq, Slot.v.injEq, Slot.own.injEq, exists_eq_left', true_and, and_true, reduceCtorEq, false_or, or_false, if_true, if_false, Bool.false_eq_true])
    refine mapW_of (α := Rw) rowD (fun r => if GF.get r p then some (rowD r) else none) s.1 (fun r hr k hk => ?_) ?_
    · (simp only [denF, startE, denSs, denS, seqS, denX, denE, denT, denW, denA, denC, denG, denGs, denI, denO, Bop.w, Cop.w, Bl.w, compF, bodyW, wipeE, setW, gSeqW, gConsW, gNilW, lenGs, enumW, itemsW, zipW, List.length_cons, List.length_nil, List.replicate, List.append, List.cons_append, List.nil_append, List.map_cons, List.map_nil, List.set, List.getElem?_cons_zero, List.getElem?_cons_succ, Option.some.injEq, Slot.v.injEq, Slot.own.injEq, exists_eq_left', true_and, and_true, reduceCtorEq, false_or, or_false, if_true, if_false, Bool.false_eq_true])
      refine idx_row (by rw [l1 r hr]; exact hp) (eq_one ?_)
      cases z : GF.get r p <;> rw [z] at hk <;> exact hk
    · have ef : (s.1.filterMap fun r => if GF.get r p then some (rowD r) else none) = (s.1.filter fun r => GF.get r p).map rowD := by
        induction s.1 with
        | nil => rfl
        | cons a l ih =>
          rw [List.filterMap_cons, List.filter_cons]
          cases z : GF.get a p <;> simp [ih]
      rw [ef]
      have lf : ∀ r ∈ s.1.filter fun r => GF.get r p, r.length = n := fun r hr => l1 r (List.mem_filter.mp hr).1
      refine ⟨by omega, ne_nil (tm_rows lf) (by omega) ?_⟩
      unfold GF.stepT at fin
      cases hfl : s.1.filter fun r => GF.get r p with
      | nil =>
        rw [hfl] at fin
        exact fin _ _ _
      | cons head tl =>
        rw [hfl] at fin
        have hh : head ∈ s.1 := (List.mem_filter.mp (show head ∈ s.1.filter fun r => GF.get r p by rw [hfl]; simp)).1
        have hl := l1 head hh
        simp only [List.map_cons, List.isEmpty_cons, Bool.not_false, if_true]
        refine ⟨rowD head, (atI_at (i := 0) rfl : atI _ ((0 : Nat) : Int) = _), ?_⟩
        refine mapW_all (α := Rw) rowD (fun r => rowD (GF.cl p head r)) s.2 (fun r hr k hk => ?_) ?_
        · (simp only [denF, startE, denSs, denS, seqS, denX, denE, denT, denW, denA, denC, denG, denGs, denI, denO, Bop.w, Cop.w, Bl.w, compF, bodyW, wipeE, setW, gSeqW, gConsW, gNilW, lenGs, enumW, itemsW, zipW, List.length_cons, List.length_nil, List.replicate, List.append, List.cons_append, List.nil_append, List.map_cons, List.map_nil, List.set, List.getElem?_cons_zero, List.getElem?_cons_succ, Option.some.injEq, Slot.v.injEq, Slot.own.injEq, exists_eq_left', true_and, and_true, reduceCtorEq, false_or, or_false, if_true, if_false, Bool.false_eq_true])
          exact cl_law (l2 r hr) hl hp hk
        · refine ⟨by omega, by simp; omega, ?_⟩
          refine mapW_of (α := Rw) rowD (fun r => if r ≠ head then some (rowD (GF.cl p head r)) else none) s.1 (fun r hr k hk => ?_) ?_
          · (simp only [denF, startE, denSs, denS, seqS, denX, denE, denT, denW, denA, denC, denG, denGs, denI, denO, Bop.w, Cop.w, Bl.w, compF, bodyW, wipeE, setW, gSeqW, gConsW, gNilW, lenGs, enumW, itemsW, zipW, List.length_cons, List.length_nil, List.replicate, List.append, List.cons_append, List.nil_append, List.map_cons, List.map_nil, List.set, List.getElem?_cons_zero, List.getElem?_cons_succ, Option.some.injEq, Slot.v.injEq, Slot.own.injEq, exists_eq_left', true_and, and_true, reduceCtorEq, false_or, or_false, if_true, if_false, Bool.false_eq_true])
            refine eq_row (P := fun b => if (!b) = true then _ else _) ?_
            by_cases z : r = head
            · simp only [z, decide_true, Bool.not_true, Bool.false_eq_true, if_false]
              simpa [z] using hk
            · simp only [z, decide_false, Bool.not_false, if_true]
              exact cl_law (l1 r hr) hl hp (by simpa [z] using hk)
          · have e1 : (s.1.filterMap fun r => if r ≠ head then some (rowD (GF.cl p head r)) else none) = ((s.1.filter fun row => decide (row ≠ head)).map (GF.cl p head)).map rowD := by
              induction s.1 with
              | nil => rfl
              | cons a l ih =>
                rw [List.filterMap_cons, List.filter_cons, ih]
                by_cases z : a = head <;> simp [z]
            have e2 : s.2.map (fun r => rowD (GF.cl p head r)) ++ [rowD head] = (s.2.map (GF.cl p head) ++ [head]).map rowD := by simp
            rw [e1, e2]
            exact fin _ _ _

theorem zeros {n : Nat} (hn : 1 ≤ n) (hn2 : n ≤ 1000) {P : D → Prop} (hP : P (rowD (GF.zer n))) : mulW (.tuple [.int 0]) (.int (n : Nat)) P := by
  refine ⟨⟨by omega, by omega, by simp, by simp⟩, ?_⟩
  have e0 : PyData.tuple (List.replicate (n : Int).toNat [PyData.int 0]).flatten = rowD (GF.zer n) := by
    unfold rowD GF.zer
    rw [Int.toNat_natCast, List.map_replicate, List.flatten_replicate_singleton]
    rfl
  rw [e0]; exact hP
theorem l_rows {n : Nat} {rows : List Rw} (hn : 1 ≤ n) (hn2 : n ≤ 1000) (h : GF.Len n rows) (hk : rows.length ≤ 12) {P : D → Prop} (hP : P (.list ((GF.allSums n rows).map rowD))) : F__law_rows [.v (codeD n rows)] P := by
  unfold F__law_rows N__law_rows m__law_rows
  (simp only [denF, startE, denSs, denS, seqS, denX, denE, denT, denW, denA, denC, denG, denGs, denI, denO, Bop.w, Cop.w, Bl.w, compF, bodyW, wipeE, setW, gSeqW, gConsW, gNilW, lenGs, enumW, itemsW, zipW, List.length_cons, List.length_nil, List.replicate, List.append, List.cons_append, List.nil_append, List.map_cons, List.map_nil, List.set, List.getElem?_cons_zero, List.getElem?_cons_succ, Option.some.injEq, Slot.v.injEq, Slot.own.injEq, exists_eq_left', true_and, and_true, reduceCtorEq, false_or, or_false, if_true, if_false, Bool.false_eq_true])
  refine ⟨by omega, code_0 (zeros hn hn2 ⟨by omega, code_1 ?_⟩)⟩
  show forS _ _ (rows.map rowD) _ _
  refine forS_ind (α := Rw) rowD (fun rest env => ∃ done, rows = done ++ rest ∧ GF.Len n (GF.allSums n done) ∧ ∃ x2, env = [.v (codeD n rows), .v (.list ((GF.allSums n done).map rowD)), x2, .no]) ?st ?dn _ _ ⟨[], rfl, fun r hr => ?_, .no, rfl⟩
  case dn =>
    rintro env ⟨done, e, _, x2, rfl⟩
    rw [List.append_nil] at e
    subst e
    (simp only [denF, startE, denSs, denS, seqS, denX, denE, denT, denW, denA, denC, denG, denGs, denI, denO, Bop.w, Cop.w, Bl.w, compF, bodyW, wipeE, setW, gSeqW, gConsW, gNilW, lenGs, enumW, itemsW, zipW, List.length_cons, List.length_nil, List.replicate, List.append, List.cons_append, List.nil_append, List.map_cons, List.map_nil, List.set, List.getElem?_cons_zero, List.getElem?_cons_succ, Option.some.injEq, Slot.v.injEq, Slot.own.injEq, exists_eq_left', true_and, and_true, reduceCtorEq, false_or, or_false, if_true, if_false, Bool.false_eq_true])
    exact hP
  case st =>
    rintro r rest env ⟨done, e, hl, x2, rfl⟩ F hF
    have hr : r.length = n := h r (by rw [e]; simp)
    have hd : done.length ≤ 11 := by have := congrArg List.length e; simp at this; omega
    have hsz : (GF.allSums n done).length ≤ 2 ^ 11 := by rw [GF.allSums_len]; exact Nat.pow_le_pow_right (by omega) hd
    have next : GF.allSums n (done ++ [r]) = GF.allSums n done ++ (GF.allSums n done).map (GF.xr r) := by
      unfold GF.allSums
      rw [List.foldl_append]
      rfl
    (simp only [denF, startE, denSs, denS, seqS, denX, denE, denT, denW, denA, denC, denG, denGs, denI, denO, Bop.w, Cop.w, Bl.w, compF, bodyW, wipeE, setW, gSeqW, gConsW, gNilW, lenGs, enumW, itemsW, zipW, List.length_cons, List.length_nil, List.replicate, List.append, List.cons_append, List.nil_append, List.map_cons, List.map_nil, List.set, List.getElem?_cons_zero, List.getElem?_cons_succ, Option.some.injEq, Slot.v.injEq, Slot.own.injEq, exists_eq_left', true_and, and_true, reduceCtorEq, false_or, or_false, if_true, if_false, Bool.false_eq_true])
    refine mapW_all (α := Rw) rowD (fun o => rowD (GF.xr r o)) (GF.allSums n done) (fun o ho k hk => ?_) ?_
    · (simp only [denF, startE, denSs, denS, seqS, denX, denE, denT, denW, denA, denC, denG, denGs, denI, denO, Bop.w, Cop.w, Bl.w, compF, bodyW, wipeE, setW, gSeqW, gConsW, gNilW, lenGs, enumW, itemsW, zipW, List.length_cons, List.length_nil, List.replicate, List.append, List.cons_append, List.nil_append, List.map_cons, List.map_nil, List.set, List.getElem?_cons_zero, List.getElem?_cons_succ, Option.some.injEq, Slot.v.injEq, Slot.own.injEq, exists_eq_left', true_and, and_true, reduceCtorEq, false_or, or_false, if_true, if_false, Bool.false_eq_true])
      exact l_law_sum (by rw [hr, hl o ho]) hk
    · refine ⟨by simp; omega, ?_⟩
      refine hF _ ⟨done ++ [r], by rw [e]; simp, fun x hx => ?_, .v (rowD r), ?_⟩
      · rw [next] at hx
        rcases List.mem_append.mp hx with hx | hx
        · exact hl x hx
        · obtain ⟨y, hy, rfl⟩ := List.mem_map.mp hx
          rw [GF.xr_len (by rw [hr, hl y hy]), hr]
      · rw [next, List.map_append, List.map_map]
        rfl
  · simp [GF.allSums] at hr
    rw [hr]; simp [GF.zer]
theorem l_some_row {n : Nat} {rows : List Rw} (hn : 1 ≤ n) (hn2 : n ≤ 1000) (h : GF.Len n rows) {P : D → Prop} (hP : ∀ v, GF.Sp n rows v → P (rowD v)) : F__law_some_row [.src, .v (codeD n rows)] P := by
  unfold F__law_some_row N__law_some_row m__law_some_row
  (simp only [denF, startE, denSs, denS, seqS, denX, denE, denT, denW, denA, denC, denG, denGs, denI, denO, Bop.w, Cop.w, Bl.w, compF, bodyW, wipeE, setW, gSeqW, gConsW, gNilW, lenGs, enumW, itemsW, zipW, List.length_cons, List.length_nil, List.replicate, List.append, List.cons_append, List.nil_append, List.map_cons, List.map_nil, List.set, List.getElem?_cons_zero, List.getElem?_cons_succ, Option.some.injEq, Slot.v.injEq, Slot.own.injEq, exists_eq_left', true_and, and_true, reduceCtorEq, false_or, or_false, if_true, if_false, Bool.false_eq_true])
  refine ⟨by omega, code_0 (zeros hn hn2 (code_1 ?_))⟩
  show forS _ _ (rows.map rowD) _ _
  refine forS_ind (α := Rw) rowD (fun rest env => (∀ r ∈ rest, r ∈ rows) ∧ ∃ v, GF.Sp n rows v ∧ ∃ x3, env = [.src, .v (codeD n rows), .v (rowD v), x3]) ?st ?dn _ _ ⟨fun _ hr => hr, _, .zero, .no, rfl⟩
  case dn =>
    rintro env ⟨_, v, hv, x3, rfl⟩
    (simp only [denF, startE, denSs, denS, seqS, denX, denE, denT, denW, denA, denC, denG, denGs, denI, denO, Bop.w, Cop.w, Bl.w, compF, bodyW, wipeE, setW, gSeqW, gConsW, gNilW, lenGs, enumW, itemsW, zipW, List.length_cons, List.length_nil, List.replicate, List.append, List.cons_append, List.nil_append, List.map_cons, List.map_nil, List.set, List.getElem?_cons_zero, List.getElem?_cons_succ, Option.some.injEq, Slot.v.injEq, Slot.own.injEq, exists_eq_left', true_and, and_true, reduceCtorEq, false_or, or_false, if_true, if_false, Bool.false_eq_true])
    exact hP v hv
  case st =>
    rintro r rest env ⟨hm, v, hv, x3, rfl⟩ F hF
    have hr := hm r (by simp)
    have hm' : ∀ x ∈ rest, x ∈ rows := fun x hx => hm x (by simp [hx])
    (simp only [denF, startE, denSs, denS, seqS, denX, denE, denT, denW, denA, denC, denG, denGs, denI, denO, Bop.w, Cop.w, Bl.w, compF, bodyW, wipeE, setW, gSeqW, gConsW, gNilW, lenGs, enumW, itemsW, zipW, List.length_cons, List.length_nil, List.replicate, List.append, List.cons_append, List.nil_append, List.map_cons, List.map_nil, List.set, List.getElem?_cons_zero, List.getElem?_cons_succ, Option.some.injEq, Slot.v.injEq, Slot.own.injEq, exists_eq_left', true_and, and_true, reduceCtorEq, false_or, or_false, if_true, if_false, Bool.false_eq_true])
    refine l_pick _ _ (by omega) (by omega) fun i i0 i1 => ?_
    refine ⟨by simp [SeqAt.shaped, PyData.canLay0, PyData.depth], by simp [SeqAt.shaped, PyData.canLay0, PyData.depth], ?_⟩
    by_cases z : i = 0
    · subst z
      show F__law_sum _ _
      refine l_law_sum (by rw [hv.len h, h r hr]) ?_
      exact hF _ ⟨hm', _, .add hr hv, .v (rowD r), rfl⟩
    · have e : PyData.eqv (.int i) (.int 0) = false := by simp [PyData.eqv, z]
      rw [e]
      exact hF _ ⟨hm', v, hv, .v (rowD r), rfl⟩

theorem perm_map {α β : Type} {f : α → β} : ∀ {l : List α} {es : List β}, es.Perm (l.map f) → ∃ rs : List α, es = rs.map f ∧ rs.Perm l := by
  intro l es h
  obtain ⟨rs, h1, h2⟩ : ∃ rs : List α, rs.Perm l ∧ rs.map f = es := by
    generalize hm : l.map f = m at h
    induction h generalizing l with
    | nil => exact ⟨[], by cases l <;> simp_all, rfl⟩
    | @cons x a b h ih =>
      cases l with
      | nil => simp at hm
      | cons y l =>
        simp at hm
        obtain ⟨rs, h1, h2⟩ := ih hm.2
        exact ⟨y :: rs, h1.cons y, by simp [h2, hm.1]⟩
    | swap x y a =>
      match l, hm with
      | p :: q :: l, hm =>
        simp at hm
        exact ⟨q :: p :: l, List.Perm.swap p q l, by simp [hm]⟩
    | trans _ _ ih1 ih2 =>
      obtain ⟨r2, h1, h2⟩ := ih2 hm
      obtain ⟨r1, h3, h4⟩ := ih1 h2
      exact ⟨r1, h3.trans h1, h4⟩
  exact ⟨rs, h2.symm, h1⟩
theorem nd_ok {n : Nat} {rows : List Rw} {r : Rw} (h : GF.Len n rows) (hr : r.length = n) : GF.Len n (rows ++ [r]) := fun x hx => (List.mem_append.mp hx).elim (h x) fun z => by rw [List.mem_singleton.mp z]; exact hr
/-- rows of rank their number -/
def Ind (n : Nat) (rows : List Rw) : Prop := GF.Len n rows ∧ (GF.told n rows).length = rows.length
theorem l_base {n k : Nat} (hn : 1 ≤ n) (hn2 : n ≤ 1000) (hk : k ≤ 900) {P : D → Prop} (hP : ∀ rows, Ind n rows → rows.length ≤ k → P (.tuple (rows.map rowD))) : F__law_base [.src, .v (.int (n : Nat)), .v (.int (k : Nat))] P := by
  unfold F__law_base N__law_base m__law_base
  (simp only [denF, startE, denSs, denS, seqS, denX, denE, denT, denW, denA, denC, denG, denGs, denI, denO, Bop.w, Cop.w, Bl.w, compF, bodyW, wipeE, setW, gSeqW, gConsW, gNilW, lenGs, enumW, itemsW, zipW, List.length_cons, List.length_nil, List.replicate, List.append, List.cons_append, List.nil_append, List.map_cons, List.map_nil, List.set, List.getElem?_cons_zero, List.getElem?_cons_succ, Option.some.injEq, Slot.v.injEq, Slot.own.injEq, exists_eq_left', true_and, and_true, reduceCtorEq, false_or, or_false, if_true, if_false, Bool.false_eq_true])
  refine ⟨by omega, .inl (by decide), ⟨by omega, by omega⟩, ?_⟩
  have e3 : (3 * (k : Int)).toNat = 3 * k := by omega
  rw [e3, rangeD0]
  -- what both loops do with a row
  have step : ∀ (found : List Rw) (row : Rw) (x4 x5 x7 : Mi.Slot) (E : EndsM), Ind n found → found.length ≤ k → row.length = n →
      (∀ f2, Ind n f2 → f2.length ≤ k → E.nx [.src, .v (.int (n : Nat)), .v (.int (k : Nat)), .own (f2.map rowD), x4, x5, .v (rowD row), x7]) →
      andT (fun P => lenW [.list (found.map rowD)] fun d => ltW d (.int (k : Nat)) P) (fun P => 0 + 1 ≤ 16777216 ∧ addW (.list (found.map rowD)) (.list [rowD row]) fun d => F__law_told [.v (.int (n : Nat)), .v d] fun d => lenW [d] fun d => lenW [.list (found.map rowD)] fun e => gtW d e P) fun b =>
        if b = true then appS 3 (fun env P => ∃ d, env[6]? = some (.v d) ∧ P d) [.src, .v (.int (n : Nat)), .v (.int (k : Nat)), .own (found.map rowD), x4, x5, .v (rowD row), x7] E else E.nx [.src, .v (.int (n : Nat)), .v (.int (k : Nat)), .own (found.map rowD), x4, x5, .v (rowD row), x7] := by
    intro found row x4 x5 x7 E hi hfk hr hF
    simp only [andT, ltW, lenW, List.length_map]
    by_cases c1 : (found.length : Int) < (k : Nat)
    · simp only [c1, decide_true, if_true]
      refine ⟨by omega, by simp; omega, ?_⟩
      refine l_told (rows := found ++ [row]) (.inl (by simp)) hn2 (nd_ok hi.1 hr) (by simp; omega) ?_
      simp only [lenW, gtW, List.length_map]
      by_cases c2 : (found.length : Int) < ((GF.told n (found ++ [row])).length : Nat)
      · simp only [c2, decide_true, if_true]
        refine ⟨_, rfl, rowD row, rfl, by simp; omega, ?_⟩
        have := hF (found ++ [row]) ⟨nd_ok hi.1 hr, GF.ind_sub (nd_ok hi.1 hr) hi.2 (by omega)⟩ (by simp; omega)
        rw [List.map_append] at this
        exact this
      · simp only [c2, decide_false, Bool.false_eq_true, if_false]
        exact hF found hi hfk
    · simp only [c1, decide_false, Bool.false_eq_true, if_false]
      exact hF found hi hfk
  refine forS_ind (α := Nat) (fun i => .int (i : Nat)) (fun rest env => ∃ found, Ind n found ∧ found.length ≤ k ∧ ∃ x4 x5 x6 x7, env = [.src, .v (.int (n : Nat)), .v (.int (k : Nat)), .own (found.map rowD), x4, x5, x6, x7]) ?st ?dn _ _ ⟨[], ⟨fun _ h => by simp at h, by have := GF.told_len (n := n) (rows := []) (fun _ h => by simp at h); simpa using this⟩, by simp, .no, .no, .no, .no, rfl⟩
  case st =>
    rintro i rest env ⟨found, hi, hfk, x4, x5, x6, x7, rfl⟩ F hF
    (simp only [denF, startE, denSs, denS, seqS, denX, denE, denT, denW, denA, denC, denG, denGs, denI, denO, Bop.w, Cop.w, Bl.w, compF, bodyW, wipeE, setW, gSeqW, gConsW, gNilW, lenGs, enumW, itemsW, zipW, List.length_cons, List.length_nil, List.replicate, List.append, List.cons_append, List.nil_append, List.map_cons, List.map_nil, List.set, List.getElem?_cons_zero, List.getElem?_cons_succ, Option.some.injEq, Slot.v.injEq, Slot.own.injEq, exists_eq_left', true_and, and_true, reduceCtorEq, false_or, or_false, if_true, if_false, Bool.false_eq_true])
    refine l_row hn2 fun row hr => ?_
    exact step found row _ _ _ _ hi hfk hr fun f2 h1 h2 => hF _ ⟨f2, h1, h2, _, _, _, _, rfl⟩
  case dn =>
    rintro env ⟨found, hi, hfk, x4, x5, x6, x7, rfl⟩
    (simp only [denF, startE, denSs, denS, seqS, denX, denE, denT, denW, denA, denC, denG, denGs, denI, denO, Bop.w, Cop.w, Bl.w, compF, bodyW, wipeE, setW, gSeqW, gConsW, gNilW, lenGs, enumW, itemsW, zipW, List.length_cons, List.length_nil, List.replicate, List.append, List.cons_append, List.nil_append, List.map_cons, List.map_nil, List.set, List.getElem?_cons_zero, List.getElem?_cons_succ, Option.some.injEq, Slot.v.injEq, Slot.own.injEq, exists_eq_left', true_and, and_true, reduceCtorEq, false_or, or_false, if_true, if_false, Bool.false_eq_true])
    refine ⟨⟨by omega, by omega⟩, ?_⟩
    rw [Int.toNat_natCast, rangeD0]
    refine l_mixed (.inl rfl) (by simp; omega) fun es hes => ?_
    have hes' : ∃ ps : List Nat, es = ps.map fun i => PyData.int (i : Nat) := by
      have : ∀ d ∈ es, ∃ i : Nat, d = PyData.int (i : Nat) := fun d hd => by
        obtain ⟨i, _, e⟩ := List.mem_map.mp (hes.subset hd)
        exact ⟨i, e.symm⟩
      clear hes
      induction es with
      | nil => exact ⟨[], rfl⟩
      | cons e es ih =>
        obtain ⟨i, hi⟩ := this e (by simp)
        obtain ⟨ps, hp⟩ := ih fun d hd => this d (by simp [hd])
        exact ⟨i :: ps, by rw [hi, hp]; rfl⟩
    obtain ⟨ps, rfl⟩ := hes'
    show forS _ _ (ps.map fun i => PyData.int (i : Nat)) _ _
    refine forS_ind (α := Nat) (fun i => .int (i : Nat)) (fun rest env => ∃ found, Ind n found ∧ found.length ≤ k ∧ ∃ x4 x5 x6 x7, env = [.src, .v (.int (n : Nat)), .v (.int (k : Nat)), .own (found.map rowD), x4, x5, x6, x7]) ?st2 ?dn2 _ _ ⟨found, hi, hfk, _, _, _, _, rfl⟩
    case st2 =>
      rintro i rest env ⟨found, hi, hfk, x4, x5, x6, x7, rfl⟩ F hF
      (simp only [denF, startE, denSs, denS, seqS, denX, denE, denT, denW, denA, denC, denG, denGs, denI, denO, Bop.w, Cop.w, Bl.w, compF, bodyW, wipeE, setW, gSeqW, gConsW, gNilW, lenGs, enumW, itemsW, zipW, List.length_cons, List.length_nil, List.replicate, List.append, List.cons_append, List.nil_append, List.map_cons, List.map_nil, List.set, List.getElem?_cons_zero, List.getElem?_cons_succ, Option.some.injEq, Slot.v.injEq, Slot.own.injEq, exists_eq_left', true_and, and_true, reduceCtorEq, false_or, or_false, if_true, if_false, Bool.false_eq_true])
      refine ⟨⟨by omega, by omega⟩, ?_⟩
      rw [Int.toNat_natCast, rangeD0]
      refine mapW_all (α := Nat) (fun j => .int (j : Nat)) (fun j => bit (j == i)) _ (fun j hj k hk => ?_) ?_
      · (simp only [denF, startE, denSs, denS, seqS, denX, denE, denT, denW, denA, denC, denG, denGs, denI, denO, Bop.w, Cop.w, Bl.w, compF, bodyW, wipeE, setW, gSeqW, gConsW, gNilW, lenGs, enumW, itemsW, zipW, List.length_cons, List.length_nil, List.replicate, List.append, List.cons_append, List.nil_append, List.map_cons, List.map_nil, List.set, List.getElem?_cons_zero, List.getElem?_cons_succ, Option.some.injEq, Slot.v.injEq, Slot.own.injEq, exists_eq_left', true_and, and_true, reduceCtorEq, false_or, or_false, if_true, if_false, Bool.false_eq_true])
        refine ev_int ?_
        show k (some (.int (if (((j : Nat) : Int) == ((i : Nat) : Int)) = true then 1 else 0)))
        have e : (((j : Nat) : Int) == ((i : Nat) : Int)) = (j == i) := by rw [Bool.eq_iff_iff, beq_iff_eq, beq_iff_eq]; omega
        rw [e] at *
        exact hk
      · have e : (List.range n).map (fun j => bit (j == i)) = ((List.range n).map fun j => j == i).map bit := by rw [List.map_map]; rfl
        show _
        rw [e]
        exact step found ((List.range n).map fun j => j == i) _ _ _ _ hi hfk (by simp) fun f2 h1 h2 => hF _ ⟨f2, h1, h2, _, _, _, _, rfl⟩
    case dn2 =>
      rintro env ⟨found, hi, hfk, x4, x5, x6, x7, rfl⟩
      (simp only [denF, startE, denSs, denS, seqS, denX, denE, denT, denW, denA, denC, denG, denGs, denI, denO, Bop.w, Cop.w, Bl.w, compF, bodyW, wipeE, setW, gSeqW, gConsW, gNilW, lenGs, enumW, itemsW, zipW, List.length_cons, List.length_nil, List.replicate, List.append, List.cons_append, List.nil_append, List.map_cons, List.map_nil, List.set, List.getElem?_cons_zero, List.getElem?_cons_succ, Option.some.injEq, Slot.v.injEq, Slot.own.injEq, exists_eq_left', true_and, and_true, reduceCtorEq, false_or, or_false, if_true, if_false, Bool.false_eq_true])
      have fin : ∀ f2, Ind n f2 → f2.length ≤ k → F__law_mixed [.src, .v (.list (f2.map rowD))] fun d => tupleW [d] P := fun f2 h1 h2 => by
        refine l_mixed (.inl rfl) (by simp; omega) fun es hes => ?_
        have : ∃ rs : List Rw, es = rs.map rowD ∧ rs.Perm f2 := perm_map hes
        obtain ⟨rs, rfl, hp⟩ := this
        exact hP rs ⟨fun r hr => h1.1 r (hp.subset hr), by rw [GF.told_perm h1.1 hp, h1.2, hp.length_eq]⟩ (by rw [hp.length_eq]; exact h2)
      refine l_pick _ _ (by omega) (by omega) fun i i0 i1 => eq_int ?_
      by_cases z : i = 0
      · subst z
        show F__law_told _ _
        refine l_told (.inl rfl) hn2 hi.1 (by omega) ?_
        exact fin _ ⟨(GF.told_red hi.1).len, by rw [GF.told_told hi.1]⟩ (by rw [hi.2]; exact hfk)
      · have e : ((i : Int) == 0) = false := by simp [z]
        rw [e]
        exact fin _ hi hfk

theorem l_code {m : Nat} (hm : 1 ≤ m) (hm2 : m ≤ 900) {P : D → Prop} (hP : ∀ n rows, 1 ≤ n → n ≤ m → Ind n rows → rows.length ≤ n → P (codeD n rows)) : F__law_code [.src, .v (.int (m : Nat))] P := by
  unfold F__law_code N__law_code m__law_code
  (simp only [denF, startE, denSs, denS, seqS, denX, denE, denT, denW, denA, denC, denG, denGs, denI, denO, Bop.w, Cop.w, Bl.w, compF, bodyW, wipeE, setW, gSeqW, gConsW, gNilW, lenGs, enumW, itemsW, zipW, List.length_cons, List.length_nil, List.replicate, List.append, List.cons_append, List.nil_append, List.map_cons, List.map_nil, List.set, List.getElem?_cons_zero, List.getElem?_cons_succ, Option.some.injEq, Slot.v.injEq, Slot.own.injEq, exists_eq_left', true_and, and_true, reduceCtorEq, false_or, or_false, if_true, if_false, Bool.false_eq_true])
  refine l_pick _ _ (by omega) (by omega) fun r r0 r1 => ?_
  obtain ⟨n, hn⟩ : ∃ n : Nat, 1 + r = (n : Int) := ⟨(1 + r).toNat, by omega⟩
  show _
  simp only [addW]
  rw [hn]
  refine l_pick _ _ (by omega) (by omega) fun a a0 a1 => l_pick _ _ (by omega) (by omega) fun b b0 b1 => ⟨⟨by decide, by decide⟩, by omega, ?_⟩
  refine l_law_of (by simp) (by simp) fun d hd => ?_
  have hd' : ∃ k : Nat, d = .int (k : Nat) ∧ k ≤ n := by
    have h2 : (n : Int).fdiv 2 = ((n / 2 : Nat) : Int) := by
      rw [Int.fdiv_eq_ediv_of_nonneg _ (by omega)]; rfl
    rw [h2] at hd
    simp only [List.mem_cons, List.not_mem_nil, or_false] at hd
    rcases hd with rfl | rfl | rfl | rfl | rfl
    · exact ⟨0, rfl, by omega⟩
    · exact ⟨n, rfl, by omega⟩
    · exact ⟨a.toNat, by congr 1; omega, by omega⟩
    · exact ⟨b.toNat, by congr 1; omega, by omega⟩
    · exact ⟨n / 2, rfl, by omega⟩
  obtain ⟨k, rfl, hk⟩ := hd'
  refine l_base (by omega) (by omega) (by omega) fun rows hi hl => ⟨by omega, hP n rows (by omega) (by omega) hi (by omega)⟩
theorem tm_code {n : Nat} {rows : List Rw} (hn : n ≤ 1000) (h : GF.Len n rows) (hl : rows.length ≤ 1000) : Tm 3 10000000 (codeD n rows) := by
  have q := Tm.tuple (k := 2) (L := 4010000) (ds := [.int (n : Nat), .tuple (rows.map rowD)]) fun d hd => by
    simp only [List.mem_cons, List.not_mem_nil, or_false] at hd
    rcases hd with rfl | rfl
    · exact (Tm.int1 (by omega)).mono (by omega) (by omega)
    · refine (tm_rowsT (n := n) h).mono (by omega) ?_
      have : rows.length * (n * 4 + 5) ≤ 1000 * 4005 := Nat.mul_le_mul hl (by omega)
      omega
  exact q.mono (by omega) (by simp)
end KC

set_option Elab.async false
set_option linter.all false
set_option maxRecDepth 100000
set_option maxHeartbeats 4000000
namespace KC
open PySem PySem.Spec PyProof.Rows L2 Mi
-- reduced(pair, found)
def N_reduced : List Str := ["pair", "found", "row", "numbers", "one", "others", "i"]
def m_reduced : MSs := (.cons (.asg (.seq (.cons (.name 2) (.cons (.name 3) .nil))) (.var 0)) (.cons (.forB 1 (.seq (.cons (.name 4) (.cons (.name 5) .nil))) (.cons (.ite (.cmp .eq (.idx (.var 2) (.call "first_one" 1 F_first_one (.cons (.var 4) .nil))) (.int 1)) (.cons (.set 2 (.val (.call "sum_of" 2 F_sum_of (.cons (.var 2) (.cons (.var 4) .nil))))) (.cons (.set 3 (.val (.blt .tuple (.cons (.blt .sorted (.cons (.comp [("i", 6)] (.name 6) (.seq (.tup (.star (.var 3) (.star (.var 5) .nil)))) (.cmp .ne (.cmp .inn (.var 6) (.var 3)) (.cmp .inn (.var 6) (.var 5))) (.var 6)) .nil)) .nil)))) .nil)) .nil) .nil)) (.cons (.ret (.tup (.cons (.var 2) (.cons (.var 3) .nil)))) .nil)))
def F_reduced : Fm := denF N_reduced (denSs m_reduced)
-- lot_that_makes(rows, row)
def N_lot_that_makes : List Str := ["rows", "row", "found", "here", "i", "one", "made"]
def m_lot_that_makes : MSs := (.cons (.set 2 (.lstN .nil)) (.cons (.for' (.seq (.cons (.name 4) (.cons (.name 5) .nil))) (.enum (.cons (.var 0) .nil)) (.cons (.set 6 (.val (.call "reduced" 2 F_reduced (.cons (.tup (.cons (.var 5) (.cons (.tup (.cons (.var 4) .nil)) .nil))) (.lent (.lent 2) .nil))))) (.cons (.ite (.cmp .inn (.int 1) (.idx (.var 6) (.int 0))) (.cons (.app 2 (.var 6)) .nil) .nil) .nil))) (.cons (.set 3 (.val (.call "reduced" 2 F_reduced (.cons (.tup (.cons (.var 1) (.cons (.tup .nil) .nil))) (.lent (.lent 2) .nil))))) (.cons (.ret (.ite (.cmp .inn (.int 1) (.idx (.var 3) (.int 0))) .non (.idx (.var 3) (.int 1)))) .nil))))
def F_lot_that_makes : Fm := denF N_lot_that_makes (denSs m_lot_that_makes)
-- is_integer(value)
def N_is_integer : List Str := ["value"]
def m_is_integer : MSs := (.cons (.ret (.and (.isi .int (.var 0)) (.and (.not (.isi .bool (.var 0))) (.one (.cmp .ge (.var 0) (.int 0)))))) .nil)
def F_is_integer : Fm := denF N_is_integer (denSs m_is_integer)
-- _law_number(value)
def N__law_number : List Str := ["value"]
def m__law_number : MSs := (.cons (.ret (.and (.isi .int (.var 0)) (.one (.not (.isi .bool (.var 0)))))) .nil)
def F__law_number : Fm := denF N__law_number (denSs m__law_number)
end KC

set_option Elab.async false
set_option linter.all false
set_option maxRecDepth 100000
set_option maxHeartbeats 1000000
namespace KC
open PySem PySem.Spec PyProof.Rows L2 Mi

/-! ### lists of numbers -/
def nat (j : Nat) : D := .int (j : Nat)
def natsD (xs : List Nat) : D := .tuple (xs.map nat)
theorem tm_nat {j : Nat} (h : j < 1000000000) : Tm 0 10 (nat j) := Tm.int1 (by show ((j : Nat) : Int).natAbs < _; omega)
theorem tm_nats {xs : List Nat} (h : ∀ x ∈ xs, x < 1000000000) : Tm 1 (xs.length * 12 + 3) (natsD xs) := by
  have q := Tm.tuple (k := 0) (L := 10) (ds := xs.map nat) fun d hd => by
    obtain ⟨j, hj, rfl⟩ := List.mem_map.mp hd
    exact tm_nat (h j hj)
  rw [List.length_map] at q
  exact q
theorem eqv_int (i j : Int) : PyData.eqv (.int i) (.int j) = (i == j) := by simp [PyData.eqv]
theorem any_nat (j : Nat) : ∀ xs : List Nat, ((xs.map nat).any fun y => PyData.eqv y (nat j)) = decide (j ∈ xs)
  | [] => by simp
  | x :: xs => by
    rw [List.map_cons, List.any_cons, any_nat j xs]
    have e : PyData.eqv (nat x) (nat j) = decide (j = x) := by
      unfold nat
      rw [eqv_int]
      by_cases h : j = x
      · subst h; simp
      · have : ¬ ((x : Int) = (j : Int)) := by omega
        simp [h, this]
    rw [e]
    by_cases h : j = x <;> simp [h]
theorem in_nats {j : Nat} {xs : List Nat} (hx : ∀ x ∈ xs, x < 1000000000) {P : Bool → Prop} (h : P (decide (j ∈ xs))) : inW (nat j) (natsD xs) P := by
  refine ⟨sh_int _, layAll (k := 0) (L := 10) fun d hd => ?_, by rw [any_nat]; exact h⟩
  obtain ⟨b, hb, rfl⟩ := List.mem_map.mp hd
  exact tm_nat (hx b hb)
theorem sort_nats {xs out : List Nat} (hp : xs.Perm out) (ha : out.Pairwise (· < ·)) {P : D → Prop} (hP : P (.list (out.map nat))) : sortW false [.list (xs.map nat)] P := by
  refine ⟨⟨fun d hd d' hd' => ?_, .inr fun d hd => ?_, fun d hd => ?_⟩, ?_⟩
  · obtain ⟨a, _, rfl⟩ := List.mem_map.mp hd
    obtain ⟨b, _, rfl⟩ := List.mem_map.mp hd'
    rfl
  · obtain ⟨a, h, rfl⟩ := List.mem_map.mp hd
    exact ⟨fun z => (nomatch z), fun xs z => (nomatch z)⟩
  · obtain ⟨a, h, rfl⟩ := List.mem_map.mp hd
    exact Nat.zero_le _
  · have e : (xs.map nat).mergeSort (PySem.W.dataLe false id) = out.map nat := by
      have tot := PySem.W.sortLe_total (listOrd PyProof.Rows.itemOrd) false fun b : D => PySem.W.keyToks (id b)
      refine sorted_uniq ((List.mergeSort_perm _ _).trans (hp.map nat)) (List.pairwise_mergeSort (fun a b c h1 h2 => tot.trans a b c h1 h2) (fun a b => by rw [Bool.or_eq_true]; exact tot.total a b) _) ?_
      refine List.pairwise_map.mpr (ha.imp fun {a b} h => ?_)
      show (!lexLt PyProof.Rows.itemOrd [Sum.inl ((a : Nat) : Int)] [Sum.inl ((b : Nat) : Int)]) = false
      rw [lex_diff (by simp; omega)]
      show (!decide ((a : Int) < (b : Int))) = false
      simp
      exact h
    rw [e]; exact hP
theorem ev_bool {a b : Bool} {P : Bool → Prop} (h : P (a == b)) : eqW (.bool a) (.bool b) P := by
  refine ⟨Tm.bool.shaped (by omega), Tm.bool.shaped (by omega), ?_⟩
  have e : PyData.eqv (.bool a) (.bool b) = (a == b) := by cases a <;> cases b <;> rfl
  rw [e]; exact h
end KC

set_option Elab.async false
set_option linter.all false
set_option maxRecDepth 100000
set_option maxHeartbeats 1000000
namespace KC
open PySem PySem.Spec PyProof.Rows L2 Mi

/-! ### the lot that makes a row -/
def pairD (p : Rw × Rw) : D := .tuple [rowD p.1, natsD (GF.ones p.2)]
theorem ones_lt {c : Rw} {K : Nat} (h : c.length = K) (hK : K ≤ 1000) : ∀ x ∈ GF.ones c, x < 1000000000 := fun x hx => by
  have := GF.mem_ones.mp hx
  have q : x < c.length := Nat.lt_of_not_le fun q => by rw [GF.get_out q] at this; cases this
  omega
theorem ones_xr {a b : Rw} (h : a.length = b.length) : ((GF.ones a ++ GF.ones b).filter fun i => GF.get a i != GF.get b i).Perm (GF.ones (GF.xr a b)) := by
  have nd : ∀ c : Rw, (GF.ones c).Nodup := fun c => (GF.ones_asc c).imp fun h e => by omega
  refine (List.perm_ext_iff_of_nodup ?_ (nd _)).mpr fun x => ?_
  · rw [List.filter_append]
    refine List.nodup_append.mpr ⟨(nd a).filter _, (nd b).filter _, fun x hx y hy e => ?_⟩
    subst e
    have h1 := List.mem_filter.mp hx
    have h2 := List.mem_filter.mp hy
    rw [GF.mem_ones.mp h1.1, GF.mem_ones.mp h2.1] at h1
    simp at h1
  · rw [List.mem_filter, List.mem_append, GF.mem_ones, GF.mem_ones, GF.mem_ones, GF.get_xr x h]
    cases GF.get a x <;> cases GF.get b x <;> simp
theorem fm_if {α β : Type} (p : α → Bool) (f : α → β) : ∀ xs : List α, xs.filterMap (fun x => if p x = true then some (f x) else none) = (xs.filter p).map f
  | [] => rfl
  | x :: xs => by
    rw [List.filterMap_cons, List.filter_cons, fm_if p f xs]
    cases p x <;> simp
theorem ones_len (c : Rw) : (GF.ones c).length ≤ c.length := by
  have := List.length_filter_le (fun j => GF.get c j) (List.range c.length)
  rw [List.length_range] at this
  exact this
theorem l_reduced {n K : Nat} {found : List (Rw × Rw)} {p : Rw × Rw} (hK : K ≤ 1000) (h1 : ∀ q ∈ found, q.1.length = n) (h2 : ∀ q ∈ found, q.2.length = K) (h3 : ∀ q ∈ found, true ∈ q.1) (hp1 : p.1.length = n) (hp2 : p.2.length = K)
    {P : D → Prop} (hP : P (pairD (GF.redP found p))) : F_reduced [.v (pairD p), .bor (found.map pairD)] P := by
  unfold F_reduced N_reduced m_reduced
  (simp only [denF, startE, denSs, denS, seqS, denX, denE, denT, denW, denA, denC, denG, denGs, denI, denO, Bop.w, Cop.w, Bl.w, compF, bodyW, wipeE, setW, gSeqW, gConsW, gNilW, lenGs, enumW, itemsW, zipW, List.length_cons, List.length_nil, List.replicate, List.append, List.cons_append, List.nil_append, List.map_cons, List.map_nil, List.set, List.getElem?_cons_zero, List.getElem?_cons_succ, Option.some.injEq, Slot.v.injEq, Slot.own.injEq, exists_eq_left', true_and, and_true, reduceCtorEq, false_or, or_false, if_true, if_false, Bool.false_eq_true])
  have ep : pairD p = .tuple [rowD p.1, natsD (GF.ones p.2)] := rfl
  rw [ep]
  refine ⟨rfl, rfl, _, rfl, ?_⟩
  refine forS_ind pairD (fun rest env => ∃ done, found = done ++ rest ∧ (GF.redP done p).1.length = n ∧ (GF.redP done p).2.length = K ∧ ∃ x4 x5 x6, env = [.v (.tuple [rowD p.1, natsD (GF.ones p.2)]), .bor (found.map pairD), .v (rowD (GF.redP done p).1), .v (natsD (GF.ones (GF.redP done p).2)), x4, x5, x6]) ?st ?dn found _ ⟨[], rfl, hp1, hp2, .no, .no, .no, rfl⟩
  case dn =>
    rintro env ⟨done, e, l1, l2, x4, x5, x6, rfl⟩
    rw [List.append_nil] at e
    subst e
    (simp only [denF, startE, denSs, denS, seqS, denX, denE, denT, denW, denA, denC, denG, denGs, denI, denO, Bop.w, Cop.w, Bl.w, compF, bodyW, wipeE, setW, gSeqW, gConsW, gNilW, lenGs, enumW, itemsW, zipW, List.length_cons, List.length_nil, List.replicate, List.append, List.cons_append, List.nil_append, List.map_cons, List.map_nil, List.set, List.getElem?_cons_zero, List.getElem?_cons_succ, Option.some.injEq, Slot.v.injEq, Slot.own.injEq, exists_eq_left', true_and, and_true, reduceCtorEq, false_or, or_false, if_true, if_false, Bool.false_eq_true])
    exact ⟨by decide, hP⟩
  case st =>
    rintro one rest env ⟨done, e, l1, l2, x4, x5, x6, rfl⟩ F hF
    have hone : one ∈ found := by rw [e]; simp
    have o1 := h1 one hone
    have o2 := h2 one hone
    have o3 := h3 one hone
    have step : GF.redP (done ++ [one]) p = (if GF.get (GF.redP done p).1 (GF.lead one.1) then (GF.xr (GF.redP done p).1 one.1, GF.xr (GF.redP done p).2 one.2) else GF.redP done p) := by
      unfold GF.redP; rw [List.foldl_append]; rfl
    generalize hq : GF.redP done p = q at *
    have eo : pairD one = .tuple [rowD one.1, natsD (GF.ones one.2)] := rfl
    rw [eo]
    (simp only [denF, startE, denSs, denS, seqS, denX, denE, denT, denW, denA, denC, denG, denGs, denI, denO, Bop.w, Cop.w, Bl.w, compF, bodyW, wipeE, setW, gSeqW, gConsW, gNilW, lenGs, enumW, itemsW, zipW, List.length_cons, List.length_nil, List.replicate, List.append, List.cons_append, List.nil_append, List.map_cons, List.map_nil, List.set, List.getElem?_cons_zero, List.getElem?_cons_succ, Option.some.injEq, Slot.v.injEq, Slot.own.injEq, exists_eq_left', true_and, and_true, reduceCtorEq, false_or, or_false, if_true, if_false, Bool.false_eq_true])
    refine l_first_one o3 ?_
    refine idx_row (by have := GF.lead_lt o3; omega) (eq_one ?_)
    cases z : GF.get q.1 (GF.lead one.1) with
    | false =>
      rw [z] at step
      simp only [Bool.false_eq_true, if_false] at step ⊢
      exact hF _ ⟨done ++ [one], by rw [e]; simp, by rw [step]; exact l1, by rw [step]; exact l2, _, _, _, by rw [step]⟩
    | true =>
      rw [z] at step
      simp only [if_true] at step ⊢
      refine l_sum_of (by rw [l1, o1]) ?_
      have b1 := ones_lt l2 hK
      have b2 := ones_lt o2 hK
      have c1 := ones_len q.2
      have c2 := ones_len one.2
      have eL : (GF.ones q.2).map nat ++ ((GF.ones one.2).map nat ++ []) = (GF.ones q.2 ++ GF.ones one.2).map nat := by simp
      show (List.map nat _ ++ (List.map nat _ ++ [])).length ≤ _ ∧ mapW (List.map nat _ ++ (List.map nat _ ++ [])) _ _
      rw [eL]
      refine ⟨by rw [List.length_map, List.length_append]; omega, ?_⟩
      refine mapW_of nat (fun i => if GF.get q.2 i != GF.get one.2 i then some (nat i) else none) _ (fun i hi k hk => ?_) ?_
      · (simp only [denF, startE, denSs, denS, seqS, denX, denE, denT, denW, denA, denC, denG, denGs, denI, denO, Bop.w, Cop.w, Bl.w, compF, bodyW, wipeE, setW, gSeqW, gConsW, gNilW, lenGs, enumW, itemsW, zipW, List.length_cons, List.length_nil, List.replicate, List.append, List.cons_append, List.nil_append, List.map_cons, List.map_nil, List.set, List.getElem?_cons_zero, List.getElem?_cons_succ, Option.some.injEq, Slot.v.injEq, Slot.own.injEq, exists_eq_left', true_and, and_true, reduceCtorEq, false_or, or_false, if_true, if_false, Bool.false_eq_true])
        refine in_nats b1 ?_
        refine in_nats b2 ?_
        refine ev_bool ?_
        have d1 : decide (i ∈ GF.ones q.2) = GF.get q.2 i := by rw [Bool.eq_iff_iff]; simp [GF.mem_ones]
        have d2 : decide (i ∈ GF.ones one.2) = GF.get one.2 i := by rw [Bool.eq_iff_iff]; simp [GF.mem_ones]
        rw [d1, d2]
        have hk : k (if (GF.get q.2 i != GF.get one.2 i) = true then some (nat i) else none) := hk
        revert hk
        cases GF.get q.2 i <;> cases GF.get one.2 i <;> exact fun h => h
      · rw [fm_if]
        refine sort_nats (ones_xr (by rw [l2, o2])) (GF.ones_asc _) ?_
        exact hF _ ⟨done ++ [one], by rw [e]; simp, by rw [step]; exact (GF.xr_len (by rw [l1, o1])).trans l1, by rw [step]; exact (GF.xr_len (by rw [l2, o2])).trans l2, _, _, _, by rw [step]; rfl⟩
theorem one_row {r : Rw} {P : Bool → Prop} (h : P (decide (true ∈ r))) : inW (.int 1) (rowD r) P := in_row h
def lotD : Option Rw → D
  | none => .none
  | some c => natsD (GF.ones c)
theorem l_lot {n : Nat} {rows : List Rw} {row : Rw} {ds : D} (hd : ds = .list (rows.map rowD) ∨ ds = .tuple (rows.map rowD)) (h : GF.Len n rows) (hs : rows.length ≤ 1000) (hr : row.length = n) {P : D → Prop} (hP : P (lotD (GF.lot rows row))) : F_lot_that_makes [.v ds, .v (rowD row)] P := by
  unfold F_lot_that_makes N_lot_that_makes m_lot_that_makes
  (simp only [denF, startE, denSs, denS, seqS, denX, denE, denT, denW, denA, denC, denG, denGs, denI, denO, Bop.w, Cop.w, Bl.w, compF, bodyW, wipeE, setW, gSeqW, gConsW, gNilW, lenGs, enumW, itemsW, zipW, List.length_cons, List.length_nil, List.replicate, List.append, List.cons_append, List.nil_append, List.map_cons, List.map_nil, List.set, List.getElem?_cons_zero, List.getElem?_cons_succ, Option.some.injEq, Slot.v.injEq, Slot.own.injEq, exists_eq_left', true_and, and_true, reduceCtorEq, false_or, or_false, if_true, if_false, Bool.false_eq_true])
  refine ⟨by decide, ?_⟩
  have go : ∀ Q : List D → Prop, Q (rows.map rowD) → itemsW ds Q := fun Q q => by rcases hd with rfl | rfl <;> exact q
  refine go _ ?_
  have e0 : enumD 0 (rows.map rowD) = rows.zipIdx.map fun p => PyData.tuple [.int (p.2 : Nat), rowD p.1] := by rw [enumD_eq, List.zipIdx_map, List.map_map]; rfl
  rw [e0]
  obtain ⟨I, _⟩ := GF.found_inv h
  refine forS_ind (α := Rw × Nat) _ (fun rest env => ∃ done, rows.zipIdx = done ++ rest ∧ GF.PInv n rows (done.foldl (GF.stepP rows.length) []) ∧ (done.foldl (GF.stepP rows.length) []).length ≤ done.length ∧ ∃ x3 x4 x5 x6, env = [.v ds, .v (rowD row), .own ((done.foldl (GF.stepP rows.length) []).map pairD), x3, x4, x5, x6]) ?st ?dn rows.zipIdx _
    ⟨[], rfl, ⟨fun q hq => by simp at hq, fun q hq => by simp at hq, fun q hq => by simp at hq, fun q hq => by simp at hq, .nil⟩, Nat.le_refl _, .no, .no, .no, .no, rfl⟩
  case dn =>
    rintro env ⟨done, e, I, _, x3, x4, x5, x6, rfl⟩
    rw [List.append_nil] at e
    subst e
    (simp only [denF, startE, denSs, denS, seqS, denX, denE, denT, denW, denA, denC, denG, denGs, denI, denO, Bop.w, Cop.w, Bl.w, compF, bodyW, wipeE, setW, gSeqW, gConsW, gNilW, lenGs, enumW, itemsW, zipW, List.length_cons, List.length_nil, List.replicate, List.append, List.cons_append, List.nil_append, List.map_cons, List.map_nil, List.set, List.getElem?_cons_zero, List.getElem?_cons_succ, Option.some.injEq, Slot.v.injEq, Slot.own.injEq, exists_eq_left', true_and, and_true, reduceCtorEq, false_or, or_false, if_true, if_false, Bool.false_eq_true])
    refine ⟨by decide, by decide, ?_⟩
    have e1 : GF.ones (GF.zer rows.length) = [] := GF.ones_zer _
    have e2 : (PyData.tuple [rowD row, .tuple []]) = pairD (row, GF.zer rows.length) := by unfold pairD; rw [e1]; rfl
    rw [e2]
    refine l_reduced (n := n) (K := rows.length) (p := (row, GF.zer rows.length)) hs I.l1 I.l2 I.one hr (GF.zer_len _) ?_
    have el : GF.redP (rows.zipIdx.foldl (GF.stepP rows.length) []) (row, GF.zer rows.length) = GF.lotP rows row := rfl
    rw [el]
    refine ⟨_, rfl, ?_⟩
    refine one_row ?_
    by_cases ht : true ∈ (GF.lotP rows row).1
    · have : GF.lot rows row = none := if_pos ht
      rw [this] at hP
      simp only [ht, decide_true, if_true]
      exact hP
    · have : GF.lot rows row = some (GF.lotP rows row).2 := if_neg ht
      rw [this] at hP
      simp only [ht, decide_false, Bool.false_eq_true, if_false]
      exact ⟨_, rfl, hP⟩
  case st =>
    rintro ⟨one, i⟩ rest env ⟨done, e, I, hlen, x3, x4, x5, x6, rfl⟩ F hF
    have hx : rows[i]? = some one := List.mem_zipIdx_iff_getElem?.mp (show (one, i) ∈ rows.zipIdx by rw [e]; simp)
    have hi := (List.getElem?_eq_some_iff.mp hx).1
    have hdl : done.length + (rest.length + 1) = rows.length := by
      have := congrArg List.length e
      simp at this
      omega
    obtain ⟨I2, _, _⟩ := I.step h hx
    have step : (done ++ [(one, i)]).foldl (GF.stepP rows.length) [] = GF.stepP rows.length (done.foldl (GF.stepP rows.length) []) (one, i) := by rw [List.foldl_append]; rfl
    generalize hf : done.foldl (GF.stepP rows.length) [] = found at *
    show gSeqW _ _ _ _ _
    (simp only [denF, startE, denSs, denS, seqS, denX, denE, denT, denW, denA, denC, denG, denGs, denI, denO, Bop.w, Cop.w, Bl.w, compF, bodyW, wipeE, setW, gSeqW, gConsW, gNilW, lenGs, enumW, itemsW, zipW, List.length_cons, List.length_nil, List.replicate, List.append, List.cons_append, List.nil_append, List.map_cons, List.map_nil, List.set, List.getElem?_cons_zero, List.getElem?_cons_succ, Option.some.injEq, Slot.v.injEq, Slot.own.injEq, exists_eq_left', true_and, and_true, reduceCtorEq, false_or, or_false, if_true, if_false, Bool.false_eq_true])
    refine ⟨by decide, by decide, ?_⟩
    have e1 : GF.ones (GF.unit rows.length i) = [i] := GF.ones_unit hi
    have e2 : (PyData.tuple [rowD one, .tuple [.int (i : Nat)]]) = pairD (one, GF.unit rows.length i) := by unfold pairD; rw [e1]; rfl
    rw [e2]
    refine l_reduced (n := n) (K := rows.length) (p := (one, GF.unit rows.length i)) hs I.l1 I.l2 I.one (h one (List.mem_of_getElem? hx)) (GF.unit_len _ _) ?_
    show idxW (pairD _) (.int 0) _
    refine ⟨_, rfl, one_row ?_⟩
    by_cases ht : true ∈ (GF.redP found (one, GF.unit rows.length i)).1
    · have es : GF.stepP rows.length found (one, i) = found ++ [GF.redP found (one, GF.unit rows.length i)] := if_pos ht
      simp only [ht, decide_true, if_true]
      refine ⟨_, rfl, _, rfl, by rw [List.length_map]; omega, ?_⟩
      refine hF _ ⟨done ++ [(one, i)], by rw [e]; simp, by rw [step]; exact I2, by rw [step, es]; simp; omega, _, _, _, _, by rw [step, es, List.map_append]; rfl⟩
    · have es : GF.stepP rows.length found (one, i) = found := if_neg ht
      simp only [ht, decide_false, Bool.false_eq_true, if_false]
      exact hF _ ⟨done ++ [(one, i)], by rw [e]; simp, by rw [step]; exact I2, by rw [step, es]; simp; omega, _, _, _, _, by rw [step, es]⟩
end KC

set_option Elab.async false
set_option linter.all false
set_option maxRecDepth 100000
set_option maxHeartbeats 4000000
namespace KC
open PySem PySem.Spec PyProof.Rows L2 Mi
-- are_even(one, other)
def N_are_even : List Str := ["one", "other", "a", "b"]
def m_are_even : MSs := (.cons (.ret (.cmp .eq (.bin .mod (.blt .sum (.cons (.comp [("a", 2), ("b", 3)] (.seq (.cons (.name 2) (.cons (.name 3) .nil))) (.zipS (.cons (.var 0) (.cons (.var 1) .nil))) .yes (.bin .mul (.var 2) (.var 3))) .nil)) (.int 2)) (.int 0))) .nil)
def F_are_even : Fm := denF N_are_even (denSs m_are_even)
-- free_base(code)
def N_free_base : List Str := ["code", "place", "n", "base", "leads", "found", "ones", "row", "lead", "p"]
def m_free_base : MSs := (.cons (.par2 2 3 (.val (.idx (.var 0) (.int 0))) (.val (.call "told_rows" 1 F_told_rows (.cons (.idx (.var 0) (.int 1)) .nil)))) (.cons (.par2 4 5 (.val (.comp [("row", 7)] (.name 7) (.seq (.var 3)) .yes (.call "first_one" 1 F_first_one (.cons (.var 7) .nil)))) (.lstN .nil)) (.cons (.for' (.name 1) (.range1 (.cons (.var 2) .nil)) (.cons (.ite (.cmp .nin (.var 1) (.var 4)) (.cons (.set 6 (.val (.bin .add (.lst (.cons (.var 1) .nil)) (.comp [("lead", 8), ("row", 7)] (.seq (.cons (.name 8) (.cons (.name 7) .nil))) (.zipS (.cons (.var 4) (.cons (.var 3) .nil))) (.cmp .eq (.idx (.var 7) (.var 1)) (.int 1)) (.var 8))))) (.cons (.app 5 (.blt .tuple (.cons (.comp [("p", 9)] (.name 9) (.range1 (.cons (.var 2) .nil)) .yes (.blt .int (.cons (.cmp .inn (.var 9) (.var 6)) .nil))) .nil))) .nil)) .nil) .nil)) (.cons (.ret (.blt .tuple (.cons (.lent 5) .nil))) .nil))))
def F_free_base : Fm := denF N_free_base (denSs m_free_base)
-- has_row(code, row)
def N_has_row : List Str := ["code", "row", "other"]
def m_has_row : MSs := (.cons (.ret (.blt .all (.cons (.comp [("other", 2)] (.name 2) (.seq (.call "free_base" 1 F_free_base (.cons (.var 0) .nil))) .yes (.call "are_even" 2 F_are_even (.cons (.var 1) (.cons (.var 2) .nil)))) .nil))) .nil)
def F_has_row : Fm := denF N_has_row (denSs m_has_row)
-- is_row(n, value)
def N_is_row : List Str := ["n", "value", "mark"]
def m_is_row : MSs := (.cons (.ret (.and (.isi .tuple (.var 1)) (.and (.cmp .eq (.blt .len (.cons (.var 1) .nil)) (.var 0)) (.one (.blt .all (.cons (.comp [("mark", 2)] (.name 2) (.seq (.var 1)) .yes (.and (.call "is_integer" 1 F_is_integer (.cons (.var 2) .nil)) (.one (.cmp .lt (.var 2) (.int 2))))) .nil)))))) .nil)
def F_is_row : Fm := denF N_is_row (denSs m_is_row)
-- is_worded(value, words)
def N_is_worded : List Str := ["value", "words"]
def m_is_worded : MSs := (.cons (.ret (.and (.isi .tuple (.var 0)) (.and (.cmp .eq (.blt .len (.cons (.var 0) .nil)) (.int 2)) (.and (.isi .str (.idx (.var 0) (.int 0))) (.one (.cmp .inn (.idx (.var 0) (.int 0)) (.var 1))))))) .nil)
def F_is_worded : Fm := denF N_is_worded (denSs m_is_worded)
-- first_odd(base, row)
def N_first_odd : List Str := ["base", "row", "some", "i", "one"]
def m_first_odd : MSs := (.cons (.set 2 (.val (.comp [("i", 3), ("one", 4)] (.seq (.cons (.name 3) (.cons (.name 4) .nil))) (.enum (.cons (.var 0) .nil)) (.not (.truth (.call "are_even" 2 F_are_even (.cons (.var 4) (.cons (.var 1) .nil))))) (.var 3)))) (.cons (.ret (.ite (.truth (.var 2)) (.idx (.var 2) (.int 0)) .non)) .nil))
def F_first_odd : Fm := denF N_first_odd (denSs m_first_odd)
-- _law_is_odd(one, other)
def N__law_is_odd : List Str := ["one", "other", "a", "b"]
def m__law_is_odd : MSs := (.cons (.ret (.cmp .eq (.bin .mod (.blt .int (.cons (.blt .sum (.cons (.comp [("a", 2), ("b", 3)] (.seq (.cons (.name 2) (.cons (.name 3) .nil))) (.zip (.cons (.var 0) (.cons (.var 1) .nil))) .yes (.bin .mul (.var 2) (.var 3))) .nil)) .nil)) (.int 2)) (.int 1))) .nil)
def F__law_is_odd : Fm := denF N__law_is_odd (denSs m__law_is_odd)
-- _law_free(n, rows)
def N__law_free : List Str := ["n", "rows", "leading", "p", "base", "found", "ones", "row", "q"]
def m__law_free : MSs := (.cons (.par2 4 5 (.val (.call "_law_told" 2 F__law_told (.cons (.var 0) (.cons (.var 1) .nil)))) (.lstN .nil)) (.cons (.set 2 (.val (.call "_law_leading" 1 F__law_leading (.cons (.var 4) .nil)))) (.cons (.for' (.name 3) (.seq (.comp [("p", 3)] (.name 3) (.range1 (.cons (.var 0) .nil)) (.cmp .nin (.var 3) (.var 2)) (.var 3))) (.cons (.set 6 (.val (.bin .add (.lst (.cons (.var 3) .nil)) (.comp [("row", 7)] (.name 7) (.seq (.var 4)) (.cmp .eq (.idx (.var 7) (.var 3)) (.int 1)) (.index (.var 7) (.int 1)))))) (.cons (.app 5 (.blt .tuple (.cons (.comp [("q", 8)] (.name 8) (.range1 (.cons (.var 0) .nil)) .yes (.blt .int (.cons (.cmp .inn (.var 8) (.var 6)) .nil))) .nil))) .nil))) (.cons (.ret (.blt .tuple (.cons (.lent 5) .nil))) .nil))))
def F__law_free : Fm := denF N__law_free (denSs m__law_free)
-- _law_other(code)
def N__law_other : List Str := ["code"]
def m__law_other : MSs := (.cons (.ret (.tup (.cons (.idx (.var 0) (.int 0)) (.cons (.call "_law_told" 2 F__law_told (.cons (.idx (.var 0) (.int 0)) (.cons (.call "_law_free" 2 F__law_free (.cons (.idx (.var 0) (.int 0)) (.cons (.idx (.var 0) (.int 1)) .nil))) .nil))) .nil)))) .nil)
def F__law_other : Fm := denF N__law_other (denSs m__law_other)
-- _law_has(code, row)
def N__law_has : List Str := ["code", "row"]
def m__law_has : MSs := (.cons (.ret (.cmp .eq (.blt .len (.cons (.call "_law_told" 2 F__law_told (.cons (.idx (.var 0) (.int 0)) (.cons (.bin .add (.blt .list (.cons (.idx (.var 0) (.int 1)) .nil)) (.lst (.cons (.var 1) .nil))) .nil))) .nil)) (.blt .len (.cons (.idx (.var 0) (.int 1)) .nil)))) .nil)
def F__law_has : Fm := denF N__law_has (denSs m__law_has)
-- _law_are_below(value, most)
def N__law_are_below : List Str := ["value", "most", "one"]
def m__law_are_below : MSs := (.cons (.ret (.and (.isi .tuple (.var 0)) (.one (.cmp .eq (.comp [("one", 2)] (.name 2) (.seq (.var 0)) (.bool (.or (.not (.truth (.call "_law_number" 1 F__law_number (.cons (.var 2) .nil)))) (.or1 (.not (.chain .le .lt (.int 0) (.var 2) (.var 1)))))) (.int 1)) (.lst .nil))))) .nil)
def F__law_are_below : Fm := denF N__law_are_below (denSs m__law_are_below)
-- _law_is_row(n, value)
def N__law_is_row : List Str := ["n", "value"]
def m__law_is_row : MSs := (.cons (.ret (.and (.call "_law_are_below" 2 F__law_are_below (.cons (.var 1) (.cons (.int 2) .nil))) (.one (.cmp .eq (.blt .len (.cons (.var 1) .nil)) (.var 0))))) .nil)
def F__law_is_row : Fm := denF N__law_is_row (denSs m__law_is_row)
-- _law_bent(source, value)
def N__law_bent : List Str := ["source", "value", "odd", "some", "k", "way"]
def m__law_bent (φ : Fm) : MSs := (.cons (.set 2 (.val (.lst (.cons .non (.cons (.int 0) (.cons (.int 1) (.cons (.int 2) (.cons (.bl true) (.cons (.neg (.int 1)) (.cons (.int 9) (.cons (.str "a") (.cons (.str "in") (.cons (.str "out") (.cons (.str "row") (.cons (.str "none") (.cons (.tup .nil) (.cons (.tup (.cons (.int 0) .nil)) (.cons (.tup (.cons (.int 1) (.cons (.int 0) .nil))) (.cons (.tup (.cons (.int 0) (.cons (.int 1) .nil))) (.cons (.lst .nil) (.cons .dct0 (.cons (.tup (.cons (.tup (.cons (.int 0) (.cons (.int 1) .nil))) .nil)) .nil)))))))))))))))))))))) (.cons (.ite (.bool (.or (.not (.truth (.isi .tuple (.var 1)))) (.or (.cmp .eq0 (.var 1) (.tup .nil)) (.or1 (.cmp .eq (.call "_law_pick" 2 F__law_pick (.src 0 (.cons (.int 4) .nil))) (.int 0)))))) (.cons (.set 3 (.val (.lst (.cons (.call "_law_of" 2 F__law_of (.src 0 (.cons (.var 2) .nil))) .nil)))) (.cons (.ite (.truth (.isi .tuple (.var 1))) (.cons (.set 3 (.val (.bin .add (.var 3) (.lst (.cons (.slice (.var 1) (.some (.int 1)) .none) (.cons (.slice (.var 1) .none (.some (.neg (.int 1)))) (.cons (.bin .add (.var 1) (.slice (.var 1) .none (.some (.int 1)))) (.cons (.blt .list (.cons (.var 1) .nil)) (.cons (.rev (.var 1)) (.cons (.bin .add (.var 1) (.tup (.cons (.int 0) .nil))) .nil)))))))))) .nil) .nil) (.cons (.ret (.call "_law_of" 2 F__law_of (.src 0 (.cons (.var 3) .nil)))) .nil))) .nil) (.cons (.par2 4 5 (.val (.call "_law_pick" 2 F__law_pick (.src 0 (.cons (.blt .len (.cons (.var 1) .nil)) .nil)))) (.val (.call "_law_pick" 2 F__law_pick (.src 0 (.cons (.int 6) .nil))))) (.cons (.ite (.bool (.and (.cmp .lt (.var 5) (.int 2)) (.and1 (.truth (.call "_law_number" 1 F__law_number (.cons (.idx (.var 1) (.var 4)) .nil)))))) (.cons (.ret (.bin .add (.bin .add (.slice (.var 1) .none (.some (.var 4))) (.tup (.cons (.call "_law_of" 2 F__law_of (.src 0 (.cons (.lst (.cons (.bin .sub (.int 1) (.idx (.var 1) (.var 4))) (.cons (.bin .add (.idx (.var 1) (.var 4)) (.int 1)) (.cons (.bin .sub (.idx (.var 1) (.var 4)) (.int 1)) .nil)))) .nil))) .nil))) (.slice (.var 1) (.some (.bin .add (.var 4) (.int 1))) .none))) .nil) .nil) (.cons (.ite (.cmp .eq (.var 5) (.int 2)) (.cons (.ret (.bin .add (.slice (.var 1) .none (.some (.var 4))) (.slice (.var 1) (.some (.bin .add (.var 4) (.int 1))) .none))) .nil) .nil) (.cons (.ret (.bin .add (.bin .add (.slice (.var 1) .none (.some (.var 4))) (.tup (.cons (.call "_law_bent" 2 φ (.src 0 (.cons (.idx (.var 1) (.var 4)) .nil))) .nil))) (.slice (.var 1) (.some (.bin .add (.var 4) (.int 1))) .none))) .nil))))))
def R__law_bent : Nat → Fm
  | 0 => fun _ _ => False
  | j + 1 => denF N__law_bent (denSs (m__law_bent (R__law_bent j)))
def F__law_bent : Fm := R__law_bent 12
end KC

set_option Elab.async false
set_option linter.all false
set_option maxRecDepth 100000
set_option maxHeartbeats 1000000
namespace KC
open PySem PySem.Spec PyProof.Rows L2 Mi

/-! ### values of any shape -/
def okS (x : Str) : Prop := PyData.strOk x = true ∧ (PyData.shown (.str x)).length ≤ 30 ∧ PyData.strOk (PyData.shown (.str x)) = true
/-- ints up to c, texts that can be shown, empty dicts, nested up to k -/
inductive Vd (c : Nat) : Nat → D → Prop
  | non {k : Nat} : Vd c k .none
  | bl {k : Nat} (b : Bool) : Vd c k (.bool b)
  | int {k : Nat} {i : Int} (h : i.natAbs ≤ c) : Vd c k (.int i)
  | str {k : Nat} {x : Str} (h : okS x) : Vd c k (.str x)
  | dct {k : Nat} : Vd c (k + 1) (.dict [])
  | tup {k : Nat} {ds : List D} (h : ∀ d ∈ ds, Vd c k d) : Vd c (k + 1) (.tuple ds)
  | lst {k : Nat} {ds : List D} (h : ∀ d ∈ ds, Vd c k d) : Vd c (k + 1) (.list ds)
theorem Vd.mono {c c' : Nat} (hc : c ≤ c') {k : Nat} {d : D} (h : Vd c k d) : ∀ {k' : Nat}, k ≤ k' → Vd c' k' d := by
  induction h with
  | non => exact fun _ => .non
  | bl b => exact fun _ => .bl b
  | int h => exact fun _ => .int (Nat.le_trans h hc)
  | str h => exact fun _ => .str h
  | dct =>
    intro k' h
    obtain ⟨j, rfl⟩ : ∃ j, k' = j + 1 := ⟨k' - 1, by omega⟩
    exact .dct
  | tup _ ih =>
    intro k' h
    obtain ⟨j, rfl⟩ : ∃ j, k' = j + 1 := ⟨k' - 1, by omega⟩
    exact .tup fun d hd => ih d hd (by omega)
  | lst _ ih =>
    intro k' h
    obtain ⟨j, rfl⟩ : ∃ j, k' = j + 1 := ⟨k' - 1, by omega⟩
    exact .lst fun d hd => ih d hd (by omega)
/-- how long it is shown, at most -/
def Sz' (f : D → Nat) : List D → Nat
  | [] => 0
  | d :: ds => f d + 2 + Sz' f ds
mutual
def M : D → Nat
  | .none => 4
  | .bool _ => 5
  | .int _ => 12
  | .str _ => 30
  | .list xs => MA xs + 3
  | .tuple xs => MA xs + 3
  | .dict _ => 2
def MA : List D → Nat
  | [] => 0
  | d :: ds => M d + 2 + MA ds
end
theorem MA_app : ∀ (xs ys : List D), MA (xs ++ ys) = MA xs + MA ys
  | [], ys => by simp [MA]
  | x :: xs, ys => by simp only [List.cons_append, MA, MA_app xs ys]; omega
theorem MA_take (xs : List D) (i : Nat) : MA (xs.take i) + MA (xs.drop i) = MA xs := by rw [← MA_app, List.take_append_drop]
theorem MA_rev (xs : List D) : MA xs.reverse = MA xs := by
  induction xs with
  | nil => rfl
  | cons x xs ih => rw [List.reverse_cons, MA_app, ih]; simp only [MA]; omega
theorem MA_mem {xs : List D} {x : D} (h : x ∈ xs) : M x + 2 ≤ MA xs := by
  induction xs with
  | nil => simp at h
  | cons y xs ih =>
    simp only [MA]
    rcases List.mem_cons.mp h with rfl | h
    · omega
    · have := ih h; omega
/-- what repr asks -/
structure Tr (k L : Nat) (d : D) : Prop where
  dep : d.depth ≤ k
  sh : d.showable = true
  len : d.shown.length ≤ L
  ok : PyData.strOk d.shown = true
theorem Tr.repr {k L : Nat} {d : D} {P : D → Prop} (h : Tr k L d) (hk : k ≤ 60) (hL : L ≤ 16777216) (hP : P (.str d.shown)) : reprW [d] P := ⟨⟨h.sh, Nat.le_trans h.len hL, Nat.le_trans h.dep hk⟩, hP⟩
def sumL : List Str → Nat
  | [] => 0
  | t :: ts => t.length + 2 + sumL ts
theorem join_leS : ∀ (ts : List Str), (Str.join ", " ts).length ≤ sumL ts
  | [] => Nat.zero_le _
  | [x] => by
    show x.length ≤ x.length + 2 + 0
    omega
  | x :: y :: r => by
    have ih := join_leS (y :: r)
    show (x ++ ", " ++ Str.join ", " (y :: r)).length ≤ x.length + 2 + sumL (y :: r)
    rw [strLen_append, strLen_append]
    have e2 : ((", " : String) : Str).length = 2 := rfl
    omega
theorem from_leS : ∀ (ts : List Str) (k : Nat) (acc : Str), (textFrom k acc ts).length ≤ acc.length + sumL ts
  | [], k, acc => Nat.le_refl _
  | t :: r, k, acc => by
    have ih := from_leS r (k + 1) (acc ++ (if k > 0 then ", " else "" : String) ++ t)
    have e : (acc ++ (if k > 0 then ", " else "" : String) ++ t).length ≤ acc.length + 2 + t.length := by
      rw [strLen_append, strLen_append]
      split <;> (show _ + _ + _ ≤ _ + _ + _) <;> first
        | exact Nat.le_refl _
        | (have : ((("" : String) : Str)).length = 0 := rfl; rw [this]; omega)
    show (textFrom (k + 1) (acc ++ (if k > 0 then ", " else "" : String) ++ t) r).length ≤ acc.length + (t.length + 2 + sumL r)
    omega
theorem sum_shown {c k : Nat} : ∀ {ds : List D}, (∀ d ∈ ds, d.shown.length ≤ M d) → sumL (PyData.shownAll ds) ≤ MA ds
  | [], _ => Nat.le_refl _
  | d :: ds, h => by
    have := h d (by simp)
    have ih := sum_shown (c := c) (k := k) (ds := ds) fun x hx => h x (by simp [hx])
    simp only [PyData.shownAll, sumL, MA]
    omega
theorem int_shown {i : Int} (h : i.natAbs < 10 ^ 9) : Tm 0 10 (.int i) := Tm.int1 h
theorem Vd.tr {c : Nat} (hc : c < 1000000000) {k : Nat} {d : D} (h : Vd c k d) : Tr k (M d) d := by
  have all : ∀ {k : Nat} {ds : List D}, (∀ d ∈ ds, Tr k (M d) d) → PyData.depthAll ds ≤ k ∧ PyData.showableAll ds = true ∧ sumL (PyData.shownAll ds) ≤ MA ds ∧ ∀ t ∈ PyData.shownAll ds, PyData.strOk t = true := fun {k ds} ih => by
    refine ⟨?_, ?_, sum_shown (c := c) (k := k) fun d hd => (ih d hd).len, fun t ht => ?_⟩
    · induction ds with
      | nil => exact Nat.zero_le _
      | cons d ds ih2 => simp only [PyData.depthAll]; exact Nat.max_le.mpr ⟨(ih d (by simp)).dep, ih2 fun x hx => ih x (by simp [hx])⟩
    · induction ds with
      | nil => rfl
      | cons d ds ih2 => simp only [PyData.showableAll, Bool.and_eq_true]; exact ⟨(ih d (by simp)).sh, ih2 fun x hx => ih x (by simp [hx])⟩
    · obtain ⟨d, h1, h2⟩ := shownAll_mem ht
      rw [h2]; exact (ih d h1).ok
  induction h with
  | non => exact ⟨Nat.zero_le _, rfl, by simp only [M]; decide, ok_str _⟩
  | bl b => exact ⟨Nat.zero_le _, rfl, by simp only [M]; cases b <;> decide, by cases b <;> exact ok_str _⟩
  | int h => exact ⟨Nat.zero_le _, (int_shown (by omega)).sh, by simp only [M]; exact Nat.le_trans (int_shown (by omega)).len (by omega), (int_shown (by omega)).ok⟩
  | str h => exact ⟨Nat.zero_le _, rfl, by simp only [M]; exact h.2.1, h.2.2⟩
  | dct => exact ⟨by simp [PyData.depth, PyData.depthKv], by simp [PyData.showable, PyData.showableKv], by simp only [M]; decide, by decide +kernel⟩
  | tup _ ih =>
    rename_i k ds _
    obtain ⟨a1, a2, a3, a4⟩ := all ih
    refine ⟨by simp only [PyData.depth]; omega, by simpa [PyData.showable] using a2, ?_, ok_app (ok_app (ok_str "(") (ok_join a4)) (by split <;> exact ok_str _)⟩
    have hj := join_leS (PyData.shownAll ds)
    show (tupleText (PyData.shownAll ds)).length ≤ M (.tuple ds)
    simp only [M]
    unfold tupleText
    rw [strLen_append, strLen_append]
    have e1 : ((("(" : String) : Str)).length = 1 := rfl
    rw [e1]
    split
    · have : (((",)" : String) : Str)).length = 2 := rfl
      rw [this]; omega
    · have : (((")" : String) : Str)).length = 1 := rfl
      rw [this]; omega
  | lst _ ih =>
    rename_i k ds _
    obtain ⟨a1, a2, a3, a4⟩ := all ih
    refine ⟨by simp only [PyData.depth]; omega, by simpa [PyData.showable] using a2, ?_, ok_app (ok_from _ _ _ (ok_str "[") a4) (ok_str "]")⟩
    have hj := from_leS (PyData.shownAll ds) 0 "["
    show (listText (PyData.shownAll ds)).length ≤ M (.list ds)
    simp only [M]
    unfold listText
    rw [strLen_append]
    have e1 : ((("[" : String) : Str)).length = 1 := rfl
    have e2 : ((("]" : String) : Str)).length = 1 := rfl
    rw [e1] at hj
    rw [e2]; omega
end KC

set_option Elab.async false
set_option linter.all false
set_option maxRecDepth 100000
set_option maxHeartbeats 1000000
namespace KC
open PySem PySem.Spec PyProof.Rows L2 Mi
theorem l_number' {d : D} {P : D → Prop} (hP : P (.bool (match d with | .int _ => true | _ => false))) : F__law_number [.v d] P := by
  unfold F__law_number N__law_number m__law_number
  (simp only [denF, startE, denSs, denS, seqS, denX, denE, denT, denW, denA, denC, denG, denGs, denI, denO, Bop.w, Cop.w, Bl.w, compF, bodyW, wipeE, setW, gSeqW, gConsW, gNilW, lenGs, enumW, itemsW, zipW, List.length_cons, List.length_nil, List.replicate, List.append, List.cons_append, List.nil_append, List.map_cons, List.map_nil, List.set, List.getElem?_cons_zero, List.getElem?_cons_succ, Option.some.injEq, Slot.v.injEq, Slot.own.injEq, exists_eq_left', true_and, and_true, reduceCtorEq, false_or, or_false, if_true, if_false, Bool.false_eq_true])
  cases d <;> exact hP
theorem cut_sub (ds : List D) (lo hi : Option Int) : ∃ a b, Mi.cutD ds lo hi = (ds.drop a).take b := ⟨_, _, rfl⟩
theorem cut_mem {ds : List D} {lo hi : Option Int} {d : D} (h : d ∈ Mi.cutD ds lo hi) : d ∈ ds := by
  obtain ⟨a, b, e⟩ := cut_sub ds lo hi
  rw [e] at h
  exact (List.drop_sublist a ds).subset ((List.take_sublist b _).subset h)
theorem cut_M (ds : List D) (lo hi : Option Int) : MA (Mi.cutD ds lo hi) ≤ MA ds := by
  obtain ⟨a, b, e⟩ := cut_sub ds lo hi
  rw [e]
  have h1 := MA_take (ds.drop a) b
  have h2 := MA_take ds a
  omega
theorem cut_to {xs : List D} {i : Nat} (h : i ≤ xs.length) : Mi.cutD xs none (some (i : Nat)) = xs.take i := by
  unfold Mi.cutD
  rw [HT.sIx_none, HT.sIx_nat]
  simp
theorem cut_from {xs : List D} {i : Nat} (h : i ≤ xs.length) : Mi.cutD xs (some (i : Nat)) none = xs.drop i := by
  unfold Mi.cutD
  rw [HT.sIx_none, HT.sIx_nat]
  have e : min i xs.length = i := by omega
  rw [e]
  exact List.take_of_length_le (by simp)
theorem MA_at {ds : List D} {i : Nat} (hi : i < ds.length) : MA (ds.take i) + (M ds[i] + 2) + MA (ds.drop (i + 1)) = MA ds := by
  have h1 := MA_take ds i
  have h2 : ds.drop i = ds[i] :: ds.drop (i + 1) := List.drop_eq_getElem_cons hi
  rw [h2] at h1
  simp only [MA] at h1
  omega
theorem MA_len (ds : List D) : 2 * ds.length ≤ MA ds := by
  induction ds with
  | nil => exact Nat.zero_le _
  | cons d ds ih => simp only [MA, List.length_cons]; omega
theorem cut_len (ds : List D) (lo hi : Option Int) : (Mi.cutD ds lo hi).length ≤ ds.length := by
  obtain ⟨a, b, e⟩ := cut_sub ds lo hi
  rw [e]
  simp
  omega
theorem or_bent {d : D} {K : Bool → Prop} (ht : K true) (hf : ∀ x ds, d = .tuple (x :: ds) → K false) :
    orT (notB fun P => truthW (.bool (isD .tuple d)) P) (orT (fun P => 0 ≤ 16777216 ∧ eq0W d (.tuple []) P) fun P => F__law_pick [.src, .v (.int 4)] fun d => eqW d (.int 0) P) K := by
  by_cases h : ∃ ds, d = .tuple ds
  · obtain ⟨ds, rfl⟩ := h
    cases ds with
    | nil => exact ⟨by decide, ht⟩
    | cons x ds =>
      refine ⟨by decide, ?_⟩
      show F__law_pick [.src, .v (.int 4)] fun d => eqW d (.int 0) K
      refine l_pick _ _ (by omega) (by omega) fun r _ _ => eq_int ?_
      cases (r == 0) with
      | true => exact ht
      | false => exact hf x ds rfl
  · have : isD .tuple d = false := by
      cases d <;> first | rfl | exact absurd ⟨_, rfl⟩ h
    rw [this]
    exact ht
theorem oks (s : String) (h : PyData.strOk (Str.ofString s) = true ∧ (PyData.shown (.str (Str.ofString s))).length ≤ 30 ∧ PyData.strOk (PyData.shown (.str (Str.ofString s))) = true) : okS (Str.ofString s) := h
theorem l_bent : ∀ (j : Nat) {c k : Nat} {d : D}, Vd c k d → 9 ≤ c → c < 1000000 → k < j → M d ≤ 1000000 → ∀ {P : D → Prop}, (∀ r, Vd (c + 1) (k + 2) r → M r ≤ 2 * M d + 100 → P r) → R__law_bent j [.src, .v d] P
  | 0, _, _, _, _, _, _, h, _, _, _ => by omega
  | j + 1, c, k, d, hv, hc, hc2, hk, hM, P, hP => by
    show denF N__law_bent (denSs (m__law_bent (R__law_bent j))) [.src, .v d] P
    unfold N__law_bent m__law_bent
    (simp only [denF, startE, denSs, denS, seqS, denX, denE, denT, denW, denA, denC, denG, denGs, denI, denO, Bop.w, Cop.w, Bl.w, compF, bodyW, wipeE, setW, gSeqW, gConsW, gNilW, lenGs, enumW, itemsW, zipW, List.length_cons, List.length_nil, List.replicate, List.append, List.cons_append, List.nil_append, List.map_cons, List.map_nil, List.set, List.getElem?_cons_zero, List.getElem?_cons_succ, Option.some.injEq, Slot.v.injEq, Slot.own.injEq, exists_eq_left', true_and, and_true, reduceCtorEq, false_or, or_false, if_true, if_false, Bool.false_eq_true])
    refine ⟨by decide, by decide, by decide, by decide, by decide, by decide, by decide, by decide, ?_⟩
    refine or_bent ?_ fun x0 ds0 e0 => ?_
    · simp only [if_true]
      refine l_law_of (by simp) (by simp) fun d2 hd2 => ?_
      have h2 : Vd (c + 1) (k + 2) d2 ∧ M d2 ≤ 100 := by
        have one : ∀ i : Int, i.natAbs ≤ 9 → Vd (c + 1) (k + 1) (.int i) := fun i hi => .int (by omega)
        have two : ∀ i : Int, i.natAbs ≤ 9 → Vd (c + 1) k (.int i) := fun i hi => .int (by omega)
        simp only [List.mem_cons, List.not_mem_nil, or_false] at hd2
        rcases hd2 with rfl | rfl | rfl | rfl | rfl | rfl | rfl | rfl | rfl | rfl | rfl | rfl | rfl | rfl | rfl | rfl | rfl | rfl | rfl
        · exact ⟨.non, by simp only [M]; omega⟩
        · exact ⟨.int (by omega), by simp only [M]; omega⟩
        · exact ⟨.int (by omega), by simp only [M]; omega⟩
        · exact ⟨.int (by omega), by simp only [M]; omega⟩
        · exact ⟨.bl _, by simp only [M]; omega⟩
        · exact ⟨.int (by omega), by simp only [M]; omega⟩
        · exact ⟨.int (by omega), by simp only [M]; omega⟩
        · exact ⟨.str (oks "a" (by decide +kernel)), by simp only [M]; omega⟩
        · exact ⟨.str (oks "in" (by decide +kernel)), by simp only [M]; omega⟩
        · exact ⟨.str (oks "out" (by decide +kernel)), by simp only [M]; omega⟩
        · exact ⟨.str (oks "row" (by decide +kernel)), by simp only [M]; omega⟩
        · exact ⟨.str (oks "none" (by decide +kernel)), by simp only [M]; omega⟩
        · exact ⟨.tup fun d hd => by simp at hd, by simp only [M, MA]; omega⟩
        · exact ⟨.tup fun d hd => by simp at hd; subst hd; exact one _ (by decide), by simp only [M, MA]; omega⟩
        · exact ⟨.tup fun d hd => by simp at hd; rcases hd with rfl | rfl <;> exact one _ (by decide), by simp only [M, MA]; omega⟩
        · exact ⟨.tup fun d hd => by simp at hd; rcases hd with rfl | rfl <;> exact one _ (by decide), by simp only [M, MA]; omega⟩
        · exact ⟨.lst fun d hd => by simp at hd, by simp only [M, MA]; omega⟩
        · exact ⟨.dct, by simp only [M]; omega⟩
        · exact ⟨.tup fun d hd => by simp at hd; subst hd; exact .tup fun d hd => by simp at hd; rcases hd with rfl | rfl <;> exact two _ (by decide), by simp only [M, MA]; omega⟩
      refine ⟨by decide, ?_⟩
      by_cases h : ∃ ds, d = .tuple ds
      · obtain ⟨ds, rfl⟩ := h
        cases hv with
        | tup hv =>
          rename_i k'
          have hlen := MA_len ds
          have hMd : M (.tuple ds) = MA ds + 3 := by simp only [M]
          have sl : ∀ lo hi, Vd (c + 1) (k' + 1 + 2) (.tuple (Mi.cutD ds lo hi)) ∧ M (.tuple (Mi.cutD ds lo hi)) ≤ MA ds + 3 := fun lo hi => ⟨.tup fun d hd => (hv d (cut_mem hd)).mono (by omega) (by omega), by simp only [M]; have := cut_M ds lo hi; omega⟩
          refine ⟨by have := cut_len ds none (some 1); omega, by decide, by simp; omega, by decide, by simp, ?_⟩
          refine l_law_of (by simp) (by simp) fun r hr => ?_
          simp only [List.mem_cons, List.mem_append, List.not_mem_nil, or_false] at hr
          rw [hMd] at hP
          rcases hr with rfl | rfl | rfl | rfl | rfl | rfl | rfl
          · exact hP _ h2.1 (by omega)
          · exact hP _ (sl _ _).1 (by have := (sl (some 1) none).2; omega)
          · exact hP _ (sl _ _).1 (by have := (sl none (some (-1))).2; omega)
          · refine hP _ (.tup fun d hd => ?_) ?_
            · rcases List.mem_append.mp hd with z | z
              · exact (hv d z).mono (by omega) (by omega)
              · exact (hv d (cut_mem z)).mono (by omega) (by omega)
            · simp only [M, MA_app]
              have := cut_M ds none (some 1)
              omega
          · exact hP _ (.lst fun d hd => (hv d hd).mono (by omega) (by omega)) (by simp only [M]; omega)
          · exact hP _ (.tup fun d hd => (hv d (by simpa using hd)).mono (by omega) (by omega)) (by simp only [M, MA_rev]; omega)
          · refine hP _ (.tup fun d hd => ?_) ?_
            · rcases List.mem_append.mp hd with z | z
              · exact (hv d z).mono (by omega) (by omega)
              · rw [List.mem_singleton.mp z]; exact .int (by simp)
            · simp only [M, MA_app, MA]
              omega
      · have : isD .tuple d = false := by
          cases d <;> first | rfl | exact absurd ⟨_, rfl⟩ h
        rw [this]
        show F__law_of [.src, .v (.list [d2])] P
        refine l_law_of (by simp) (by simp) fun r hr => ?_
        rw [List.mem_singleton.mp hr]
        exact hP _ h2.1 (by omega)
    · simp only [Bool.false_eq_true, if_false]
      subst e0
      cases hv with
      | tup hv =>
        rename_i k'
        generalize hds : x0 :: ds0 = ds at *
        have hpos : 0 < ds.length := by rw [← hds]; simp
        have hlen := MA_len ds
        have hMd : M (.tuple ds) = MA ds + 3 := by simp only [M]
        rw [hMd] at hP hM
        show F__law_pick [.src, .v (.int (ds.length : Nat))] _
        refine l_pick _ _ (by omega) (by omega) fun q q0 q1 => ?_
        obtain ⟨i, rfl⟩ : ∃ z : Nat, q = (z : Nat) := ⟨q.toNat, by omega⟩
        have hi : i < ds.length := by omega
        have hx : ds[i]? = some ds[i] := List.getElem?_eq_getElem hi
        have hxv := hv _ (List.getElem_mem hi)
        have hxM := MA_mem (List.getElem_mem hi)
        have put : ∀ (mid : List D), (∀ d ∈ mid, Vd (c + 1) (k' + 2) d) → MA mid ≤ 2 * M ds[i] + 102 → mid.length ≤ 10 →
            addW (.tuple (Mi.cutD ds none (some (i : Nat)))) (.tuple mid) fun d => addW (.int (i : Nat)) (.int 1) fun e => intO e fun lo => sliceW (.tuple ds) lo none fun e => addW d e P := fun mid h1 h2 h3 => by
          have e1 : ((i : Nat) : Int) + 1 = ((i + 1 : Nat) : Int) := rfl
          have m := MA_at hi
          rw [cut_to (by omega)]
          refine ⟨by simp; omega, ?_⟩
          show addW (.tuple _) (.tuple (Mi.cutD ds (some ((i + 1 : Nat) : Int)) none)) P
          rw [cut_from (by omega)]
          refine ⟨by simp; omega, hP _ (.tup fun d hd => ?_) ?_⟩
          · rcases List.mem_append.mp hd with z | z
            · rcases List.mem_append.mp z with z | z
              · exact (hv d (List.mem_of_mem_take z)).mono (by omega) (by omega)
              · exact h1 d z
            · exact (hv d (List.mem_of_mem_drop z)).mono (by omega) (by omega)
          · simp only [M, MA_app]
            omega
        have rest : ∀ w : Int, eqW (.int w) (.int 2) fun k => if k = true then (intO (.int (i : Nat)) fun j => sliceW (.tuple ds) none j fun d => addW (.int (i : Nat)) (.int 1) fun d_1 => intO d_1 fun i => sliceW (.tuple ds) i none fun e => addW d e P)
            else (intO (.int (i : Nat)) fun j_1 => sliceW (.tuple ds) none j_1 fun d => idxW (.tuple ds) (.int (i : Nat)) fun d_1 => R__law_bent j [.src, .v d_1] fun d_2 => 0 + 1 ≤ 16777216 ∧ addW d (.tuple [d_2]) fun d => addW (.int (i : Nat)) (.int 1) fun d_3 => intO d_3 fun i => sliceW (.tuple ds) i none fun e => addW d e P) := fun w => by
          refine eq_int ?_
          cases (w == 2) with
          | true =>
            simp only [if_true]
            have q := put [] (fun d hd => by simp at hd) (by simp [MA]) (by simp)
            have q := q.2
            rw [List.append_nil] at q
            exact q
          | false =>
            simp only [Bool.false_eq_true, if_false]
            show idxW (.tuple ds) (.int (i : Nat)) _
            refine idx_tuple hx (l_bent j hxv hc hc2 (by omega) (by omega) fun r hr1 hr2 => ⟨by decide, ?_⟩)
            exact put [r] (fun d hd => by rw [List.mem_singleton.mp hd]; exact hr1) (by simp only [MA]; omega) (by simp)
        refine l_pick _ _ (by omega) (by omega) fun w _ _ => ?_
        by_cases hw : w < 2
        · simp only [andT, ltW, hw, decide_true, if_true]
          refine idx_tuple hx (l_number' ?_)
          have hxv' := hxv
          generalize hy : ds[i] = y at *
          cases y with
          | int v =>
            simp only [truthW, if_true]
            have hv9 : v.natAbs ≤ c := by cases hxv; assumption
            have gen : ∀ d6 : Int, d6.natAbs ≤ c + 1 → 0 + 1 ≤ 16777216 ∧ addW (.tuple (Mi.cutD ds none (some (i : Nat)))) (.tuple [.int d6]) fun d => addW (.int (i : Nat)) (.int 1) fun e => intO e fun lo => sliceW (.tuple ds) lo none fun e => addW d e P := fun d6 h6 =>
              ⟨by decide, put [.int d6] (fun d hd => by rw [List.mem_singleton.mp hd]; exact .int h6) (by simp only [MA, M]; omega) (by simp)⟩
            refine idx_tuple hx ?_
            refine idx_tuple hx ?_
            refine idx_tuple hx ⟨by decide, ?_⟩
            refine l_law_of (by simp) (by simp) fun r hr => ?_
            simp only [List.mem_cons, List.not_mem_nil, or_false] at hr
            rcases hr with rfl | rfl | rfl
            · exact gen _ (by omega)
            · exact gen _ (by omega)
            · exact gen _ (by omega)
          | none => exact rest w
          | bool b => exact rest w
          | str x => exact rest w
          | list xs => exact rest w
          | tuple xs => exact rest w
          | dict kv => exact rest w
        · simp only [andT, ltW, hw, decide_false, Bool.false_eq_true, if_false]
          exact rest w
end KC

set_option linter.all false
set_option maxRecDepth 100000
set_option maxHeartbeats 1000000
namespace GF
/-! ### products -/
def dot : Row → Row → Bool
  | x :: a, y :: b => xor (x && y) (dot a b)
  | _, _ => false
def cnt : Row → Row → Nat
  | x :: a, y :: b => (x && y).toNat + cnt a b
  | _, _ => 0
theorem cnt_dot : ∀ a b : Row, decide (cnt a b % 2 = 1) = dot a b
  | [], _ => by simp [cnt, dot]
  | _ :: _, [] => by simp [cnt, dot]
  | x :: a, y :: b => by
    have ih := cnt_dot a b
    simp only [cnt, dot, ← ih]
    cases x <;> cases y <;> simp <;> by_cases h : cnt a b % 2 = 1 <;> simp [h] <;> omega
theorem dot_comm : ∀ a b : Row, dot a b = dot b a
  | [], [] => rfl
  | [], _ :: _ => rfl
  | _ :: _, [] => rfl
  | x :: a, y :: b => by simp only [dot, dot_comm a b, Bool.and_comm]
theorem dot_xr : ∀ {a b c : Row}, a.length = b.length → dot (xr a b) c = xor (dot a c) (dot b c)
  | [], [], c, _ => by cases c <;> rfl
  | x :: a, y :: b, [], _ => rfl
  | x :: a, y :: b, z :: c, h => by
    have ih := dot_xr (a := a) (b := b) (c := c) (by simpa using h)
    have e : xr (x :: a) (y :: b) = xor x y :: xr a b := rfl
    rw [e]
    simp only [dot, ih]
    cases x <;> cases y <;> cases z <;> cases dot a c <;> cases dot b c <;> rfl
theorem dot_zer : ∀ (n : Nat) (c : Row), dot (zer n) c = false
  | 0, _ => rfl
  | n + 1, [] => rfl
  | n + 1, y :: c => by
    have e : zer (n + 1) = false :: zer n := rfl
    rw [e, dot, dot_zer n c]; rfl
theorem dot_sp {n : Nat} {B : List Row} {f : Row} (hB : Len n B) (h : ∀ b ∈ B, dot b f = false) {v : Row} (hv : Sp n B v) : dot v f = false := by
  induction hv with
  | zero => exact dot_zer _ _
  | @add b u hb hu ih => rw [dot_xr (by rw [hu.len hB, hB b hb]), ih, h b hb]; rfl
def xs (f : Nat → Bool) : Nat → Bool
  | 0 => false
  | n + 1 => xor (xs f n) (f n)
theorem xs_shift (f : Nat → Bool) : ∀ n, xs f (n + 1) = xor (f 0) (xs (fun i => f (i + 1)) n)
  | 0 => by simp [xs]
  | n + 1 => by
    rw [xs, xs_shift f n, xs]
    rw [Bool.xor_assoc]
theorem xs_congr {f g : Nat → Bool} : ∀ {n : Nat}, (∀ i, i < n → f i = g i) → xs f n = xs g n
  | 0, _ => rfl
  | n + 1, h => by rw [xs, xs, xs_congr fun i hi => h i (by omega), h n (by omega)]
theorem xs_xor (f g : Nat → Bool) : ∀ n, xs (fun i => xor (f i) (g i)) n = xor (xs f n) (xs g n)
  | 0 => rfl
  | n + 1 => by
    rw [xs, xs, xs, xs_xor f g n]
    cases xs f n <;> cases xs g n <;> cases f n <;> cases g n <;> rfl
theorem xs_false (n : Nat) : xs (fun _ => false) n = false := by
  induction n with
  | zero => rfl
  | succ n ih => rw [xs, ih]; rfl
theorem xs_single (g : Nat → Bool) (l : Nat) : ∀ n, xs (fun q => g q && decide (q = l)) n = (decide (l < n) && g l)
  | 0 => by simp [xs]
  | n + 1 => by
    rw [xs, xs_single g l n]
    by_cases h : n = l
    · subst h; simp
    · have : (l < n + 1) = (l < n) := by rw [eq_iff_iff]; omega
      simp [h, this]
theorem xs_mem (g : Nat → Bool) (n : Nat) : ∀ {L : List Nat}, L.Nodup → (∀ l ∈ L, l < n) → xs (fun q => g q && decide (q ∈ L)) n = L.foldr (fun l acc => xor (g l) acc) false
  | [], _, _ => by
    rw [show (fun q => g q && decide (q ∈ ([] : List Nat))) = fun _ => false from funext fun q => by simp]
    exact xs_false n
  | l :: L, nd, h => by
    obtain ⟨n1, n2⟩ := List.nodup_cons.mp nd
    have e : ∀ i, i < n → (g i && decide (i ∈ l :: L)) = xor (g i && decide (i = l)) (g i && decide (i ∈ L)) := fun i _ => by
      by_cases h1 : i = l
      · subst h1; simp [n1]
      · simp [h1]
    rw [xs_congr e, xs_xor, xs_single, xs_mem g n n2 fun x hx => h x (by simp [hx])]
    have : l < n := h l (by simp)
    simp [this]
theorem dot_xs : ∀ {n : Nat} {a b : Row}, a.length = n → b.length = n → dot a b = xs (fun q => get a q && get b q) n
  | 0, [], [], _, _ => rfl
  | n + 1, x :: a, y :: b, h1, h2 => by
    rw [xs_shift, dot, dot_xs (n := n) (by simpa using h1) (by simpa using h2)]
    congr 1
theorem get_map_range {n : Nat} (f : Nat → Bool) (q : Nat) : get ((List.range n).map f) q = (decide (q < n) && f q) := by
  unfold get
  rw [List.getD_eq_getElem?_getD, List.getElem?_map]
  by_cases h : q < n
  · rw [List.getElem?_range h]; simp [h]
  · rw [List.getElem?_eq_none (by simp; omega)]; simp [h]
/-! ### the rows beside a reduced base -/
def onesAt (T : List Row) (p : Nat) : List Nat := p :: (T.filter fun r => get r p).map lead
def frow (n : Nat) (T : List Row) (p : Nat) : Row := (List.range n).map fun q => decide (q ∈ onesAt T p)
def free (n : Nat) (T : List Row) : List Row := ((List.range n).filter fun p => decide (p ∉ T.map lead)).map (frow n T)
theorem frow_len (n : Nat) (T : List Row) (p : Nat) : (frow n T p).length = n := by simp [frow]
theorem free_len (n : Nat) (T : List Row) : Len n (free n T) := fun x hx => by
  obtain ⟨p, _, rfl⟩ := List.mem_map.mp hx
  exact frow_len n T p
theorem free_count (n : Nat) (T : List Row) : (free n T).length ≤ n := by
  unfold free
  rw [List.length_map]
  have := List.length_filter_le (fun p => decide (p ∉ T.map lead)) (List.range n)
  simpa using this
theorem Red.lead_inj {n : Nat} {T : List Row} (R : Red n T) {a b : Row} (ha : a ∈ T) (hb : b ∈ T) (e : lead a = lead b) : a = b := by
  refine Classical.byContradiction fun ne => ?_
  have h1 := R.red a ha b hb ne
  rw [e, get_lead (R.one b hb)] at h1
  cases h1
theorem Red.leads_nd {n : Nat} {T : List Row} (R : Red n T) : (T.map lead).Nodup := nd_map (fun a ha b hb e => R.lead_inj ha hb e) R.nd
theorem lead_lt' {n : Nat} {T : List Row} (R : Red n T) {r : Row} (hr : r ∈ T) : lead r < n := by
  have := lead_lt (R.one r hr)
  rwa [R.len r hr] at this
theorem fold_lin (v : Row) (p : Nat) : ∀ T : List Row, ((T.filter fun r => get r p).map lead).foldr (fun l acc => xor (get v l) acc) false = lin T (fun b => get v (lead b)) p
  | [] => rfl
  | r :: T => by
    have ih := fold_lin v p T
    unfold lin at ih ⊢
    rw [List.filter_cons, List.foldr_cons, ← ih]
    cases get r p <;> simp
theorem dot_frow {n : Nat} {T : List Row} (R : Red n T) {p : Nat} (hp : p < n) (hl : p ∉ T.map lead) {v : Row} (hv : v.length = n) : dot v (frow n T p) = xor (get v p) (lin T (fun b => get v (lead b)) p) := by
  rw [dot_xs hv (frow_len n T p)]
  have e : ∀ i, i < n → (get v i && get (frow n T p) i) = (get v i && decide (i ∈ onesAt T p)) := fun i hi => by
    unfold frow
    rw [get_map_range]
    simp [hi]
  have sub : ∀ l, l ∈ (T.filter fun r => get r p).map lead → l ∈ T.map lead := fun l h => by
    obtain ⟨r, hr, rfl⟩ := List.mem_map.mp h
    exact List.mem_map.mpr ⟨r, (List.mem_filter.mp hr).1, rfl⟩
  rw [xs_congr e, xs_mem]
  · unfold onesAt
    rw [List.foldr_cons, fold_lin]
  · refine List.nodup_cons.mpr ⟨fun h => hl (sub p h), ?_⟩
    exact nd_map (fun a ha b hb e => R.lead_inj (List.mem_filter.mp ha).1 (List.mem_filter.mp hb).1 e) (R.nd.filter _)
  · intro l h
    rcases List.mem_cons.mp h with rfl | h
    · exact hp
    · obtain ⟨r, hr, rfl⟩ := List.mem_map.mp h
      exact lead_lt' R (List.mem_filter.mp hr).1
theorem sumF {n : Nat} {T : List Row} (R : Red n T) (v : Row) : ∃ u, Sp n T u ∧ ∀ i, get u i = lin T (fun b => get v (lead b)) i :=
  ⟨sumR n (T.filter fun b => get v (lead b)), sumR_sp R.len fun a ha => (List.mem_filter.mp ha).1, fun i => by
    rw [get_sumR i fun b hb => R.len b (List.mem_filter.mp hb).1]
    exact lin_filter (fun b => get v (lead b)) i T⟩
theorem free_iff {n : Nat} {T : List Row} (R : Red n T) {v : Row} (hv : v.length = n) : (∀ f ∈ free n T, dot v f = false) ↔ Sp n T v := by
  constructor
  · intro h
    obtain ⟨u, hu, hg⟩ := sumF R v
    have : v = u := by
      refine ext (by rw [hv, hu.len R.len]) fun i => ?_
      by_cases hi : i < n
      · by_cases hl : i ∈ T.map lead
        · obtain ⟨b, hb, rfl⟩ := List.mem_map.mp hl
          rw [hg]
          rw [lin_one R.nd hb (c := fun b => get v (lead b)) fun x hx hne => by rw [R.red b hb x hx (Ne.symm hne)]; simp]
          rw [get_lead (R.one b hb)]; simp
        · have := h _ (List.mem_map.mpr ⟨i, List.mem_filter.mpr ⟨List.mem_range.mpr hi, by simpa using hl⟩, rfl⟩)
          rw [dot_frow R hi hl hv] at this
          rw [hg]
          cases a : get v i <;> cases b : lin T (fun b => get v (lead b)) i <;> simp [a, b] at this ⊢
      · rw [get_out (by omega), get_out (by rw [hu.len R.len]; omega)]
    rw [this]; exact hu
  · intro h f hf
    obtain ⟨p, hp, rfl⟩ := List.mem_map.mp hf
    obtain ⟨h1, h2⟩ := List.mem_filter.mp hp
    rw [dot_frow R (List.mem_range.mp h1) (by simpa using h2) hv, R.coef h p]
    simp
/-- sums over the places of a lot -/
theorem ones_cons (x : Bool) (c : Row) : ones (x :: c) = (if x then [0] else []) ++ (ones c).map (· + 1) := by
  refine asc_uniq (ones_asc _) ?_ fun j => ?_
  · refine List.pairwise_append.mpr ⟨by cases x <;> simp, List.pairwise_map.mpr ((ones_asc c).imp fun h => by omega), fun a ha b hb => ?_⟩
    obtain ⟨k, _, rfl⟩ := List.mem_map.mp hb
    cases x
    · simp at ha
    · simp at ha; omega
  · rw [mem_ones, List.mem_append, List.mem_map]
    cases j with
    | zero => rw [get_cons0]; cases x <;> simp
    | succ j =>
      rw [get_cons1]
      constructor
      · intro h; exact .inr ⟨j, mem_ones.mpr h, rfl⟩
      · rintro (h | ⟨k, hk, e⟩)
        · cases x <;> simp at h
        · have : k = j := by omega
          subst this; exact mem_ones.mp hk
theorem sum_ones {n : Nat} : ∀ {B : List Row} {c : Row}, Len n B → c.length = B.length → sumR n ((ones c).map fun j => B.getD j []) = mk n B c
  | [], [], _, _ => rfl
  | b :: B, x :: c, hB, h => by
    have hB' : Len n B := fun y hy => hB y (by simp [hy])
    have hb : b.length = n := hB b (by simp)
    have ih := sum_ones (n := n) (c := c) hB' (by simpa using h)
    have hL : Len n ((ones c).map fun j => B.getD j []) := fun y hy => by
      obtain ⟨j, hj, rfl⟩ := List.mem_map.mp hy
      have hjl : j < B.length := by
        have := mem_ones.mp hj
        have q : j < c.length := Nat.lt_of_not_le fun q => by rw [get_out q] at this; cases this
        simp at h; omega
      have : B.getD j [] = B[j] := by simp [List.getD, hjl]
      rw [this]
      exact hB' _ (List.getElem_mem hjl)
    rw [ones_cons, List.map_append, List.map_map]
    have e : ((fun j => (b :: B).getD j []) ∘ fun x => x + 1) = fun j => B.getD j [] := by funext j; simp [List.getD]
    rw [e]
    simp only [mk]
    cases x
    · simpa using ih
    · simp only [if_true, List.map_cons, List.map_nil, List.cons_append, List.nil_append]
      have e0 : (b :: B).getD 0 [] = b := rfl
      rw [e0, sumR_cons hL hb, ih]
      exact xr_comm (by rw [hb, mk_len hB'])
end GF

set_option Elab.async false
set_option linter.all false
set_option maxRecDepth 100000
set_option maxHeartbeats 1000000
namespace KC
open PySem PySem.Spec PyProof.Rows L2 Mi

/-! ### even rows -/
theorem cnt_sum : ∀ a b : Rw, ((a.zip b).map fun p => (((p.1 && p.2).toNat : Nat) : Int)).sum = (GF.cnt a b : Nat)
  | [], _ => rfl
  | _ :: _, [] => rfl
  | x :: a, y :: b => by
    rw [List.zip_cons_cons, List.map_cons, List.sum_cons, cnt_sum a b]
    simp [GF.cnt]
theorem pairs_bits (a b : Rw) : pairs (a.map bit) (b.map bit) = (a.zip b).map fun p => PyData.tuple [bit p.1, bit p.2] := by
  simp [pairs, List.zip_map]
theorem mod2 (k : Nat) : ((k : Nat) : Int).fmod 2 = ((k % 2 : Nat) : Int) := by
  rw [Int.fmod_eq_emod_of_nonneg _ (by omega)]; rfl
theorem mul_bits {x y : Bool} {P : D → Prop} (h : P (.int ((x && y).toNat : Nat))) : mulW (bit x) (bit y) P := by
  refine ⟨.inl (by cases x <;> decide), ?_⟩
  have e : (if x then (1 : Int) else 0) * (if y then 1 else 0) = ((x && y).toNat : Nat) := by cases x <;> cases y <;> rfl
  rw [e]; exact h
theorem ints_cnt (a b : Rw) : intsOf ((a.zip b).map fun p => PyData.int (((p.1 && p.2).toNat : Nat) : Int)) = some ((a.zip b).map fun p => (((p.1 && p.2).toNat : Nat) : Int)) := by
  have := intsOf_map ((a.zip b).map fun p => (((p.1 && p.2).toNat : Nat) : Int))
  rw [List.map_map] at this
  exact this
theorem l_are_even {a b : Rw} (h : a.length = b.length) {P : D → Prop} (hP : P (.bool (!GF.dot a b))) : F_are_even [.v (rowD a), .v (rowD b)] P := by
  unfold F_are_even N_are_even m_are_even rowD
  (simp only [denF, startE, denSs, denS, seqS, denX, denE, denT, denW, denA, denC, denG, denGs, denI, denO, Bop.w, Cop.w, Bl.w, compF, bodyW, wipeE, setW, gSeqW, gConsW, gNilW, lenGs, enumW, itemsW, zipW, List.length_cons, List.length_nil, List.replicate, List.append, List.cons_append, List.nil_append, List.map_cons, List.map_nil, List.set, List.getElem?_cons_zero, List.getElem?_cons_succ, Option.some.injEq, Slot.v.injEq, Slot.own.injEq, exists_eq_left', true_and, and_true, reduceCtorEq, false_or, or_false, if_true, if_false, Bool.false_eq_true])
  refine ⟨by simp [h], ?_⟩
  rw [pairs_bits]
  refine mapW_all (α := Bool × Bool) _ (fun p => .int ((p.1 && p.2).toNat : Nat)) (a.zip b) (fun ⟨x, y⟩ hx k hk => ?_) ?_
  · show gSeqW _ _ _ _ _
    (simp only [denF, startE, denSs, denS, seqS, denX, denE, denT, denW, denA, denC, denG, denGs, denI, denO, Bop.w, Cop.w, Bl.w, compF, bodyW, wipeE, setW, gSeqW, gConsW, gNilW, lenGs, enumW, itemsW, zipW, List.length_cons, List.length_nil, List.replicate, List.append, List.cons_append, List.nil_append, List.map_cons, List.map_nil, List.set, List.getElem?_cons_zero, List.getElem?_cons_succ, Option.some.injEq, Slot.v.injEq, Slot.own.injEq, exists_eq_left', true_and, and_true, reduceCtorEq, false_or, or_false, if_true, if_false, Bool.false_eq_true])
    exact mul_bits hk
  · refine ⟨_, ints_cnt a b, ⟨by decide, ?_⟩⟩
    rw [cnt_sum, mod2]
    refine ev_int ?_
    have e : (((GF.cnt a b % 2 : Nat) : Int) == 0) = !GF.dot a b := by
      rw [← GF.cnt_dot, Bool.eq_iff_iff]
      simp
      omega
    rw [e]; exact hP
theorem l_is_odd {a b : Rw} {P : D → Prop} (hP : P (.bool (GF.dot a b))) : F__law_is_odd [.v (rowD a), .v (rowD b)] P := by
  unfold F__law_is_odd N__law_is_odd m__law_is_odd rowD
  (simp only [denF, startE, denSs, denS, seqS, denX, denE, denT, denW, denA, denC, denG, denGs, denI, denO, Bop.w, Cop.w, Bl.w, compF, bodyW, wipeE, setW, gSeqW, gConsW, gNilW, lenGs, enumW, itemsW, zipW, List.length_cons, List.length_nil, List.replicate, List.append, List.cons_append, List.nil_append, List.map_cons, List.map_nil, List.set, List.getElem?_cons_zero, List.getElem?_cons_succ, Option.some.injEq, Slot.v.injEq, Slot.own.injEq, exists_eq_left', true_and, and_true, reduceCtorEq, false_or, or_false, if_true, if_false, Bool.false_eq_true])
  rw [pairs_bits]
  refine mapW_all (α := Bool × Bool) _ (fun p => .int ((p.1 && p.2).toNat : Nat)) (a.zip b) (fun ⟨x, y⟩ hx k hk => ?_) ?_
  · show gSeqW _ _ _ _ _
    (simp only [denF, startE, denSs, denS, seqS, denX, denE, denT, denW, denA, denC, denG, denGs, denI, denO, Bop.w, Cop.w, Bl.w, compF, bodyW, wipeE, setW, gSeqW, gConsW, gNilW, lenGs, enumW, itemsW, zipW, List.length_cons, List.length_nil, List.replicate, List.append, List.cons_append, List.nil_append, List.map_cons, List.map_nil, List.set, List.getElem?_cons_zero, List.getElem?_cons_succ, Option.some.injEq, Slot.v.injEq, Slot.own.injEq, exists_eq_left', true_and, and_true, reduceCtorEq, false_or, or_false, if_true, if_false, Bool.false_eq_true])
    exact mul_bits hk
  · refine ⟨_, ints_cnt a b, ?_⟩
    rw [cnt_sum]
    refine ⟨by decide, ?_⟩
    rw [mod2]
    refine ev_int ?_
    have e : (((GF.cnt a b % 2 : Nat) : Int) == 1) = GF.dot a b := by
      rw [← GF.cnt_dot, Bool.eq_iff_iff]
      simp
      omega
    rw [e]; exact hP
/-! ### the rows beside a base -/
theorem in_natL {j : Nat} {xs : List Nat} (hx : ∀ x ∈ xs, x < 1000000000) {P : Bool → Prop} (h : P (decide (j ∈ xs))) : inW (nat j) (.list (xs.map nat)) P := by
  refine ⟨sh_int _, layAll (k := 0) (L := 10) fun d hd => ?_, by rw [any_nat]; exact h⟩
  obtain ⟨b, hb, rfl⟩ := List.mem_map.mp hd
  exact tm_nat (hx b hb)
theorem frow_map (n : Nat) (T : List Rw) (p : Nat) : (List.range n).map (fun q => bit (decide (q ∈ GF.onesAt T p))) = (GF.frow n T p).map bit := by
  unfold GF.frow
  rw [List.map_map]
  rfl
theorem int_bool {b : Bool} {P : D → Prop} (h : P (bit b)) : intW [.bool b] P := h
theorem ones_lt' {n : Nat} {T : List Rw} (R : GF.Red n T) {p : Nat} (hp : p < n) (hn : n ≤ 1000) : ∀ x ∈ GF.onesAt T p, x < 1000000000 := fun x hx => by
  rcases List.mem_cons.mp hx with rfl | hx
  · omega
  · obtain ⟨r, hr, rfl⟩ := List.mem_map.mp hx
    have := GF.lead_lt' R (List.mem_filter.mp hr).1
    omega
theorem leads_lt {n : Nat} {T : List Rw} (R : GF.Red n T) (hn : n ≤ 1000) : ∀ x ∈ T.map GF.lead, x < 1000000000 := fun x hx => by
  obtain ⟨r, hr, rfl⟩ := List.mem_map.mp hx
  have := GF.lead_lt' R hr
  omega
theorem lead_list (T : List Rw) : (T.map fun r => PyData.int (GF.lead r : Nat)) = (T.map GF.lead).map nat := by rw [List.map_map]; rfl
theorem l_free_base {n : Nat} {rows : List Rw} (hn : 1 ≤ n) (hn2 : n ≤ 1000) (h : GF.Len n rows) (hs : rows.length ≤ 1000) {P : D → Prop} (hP : P (.tuple ((GF.free n (GF.told n rows)).map rowD))) : F_free_base [.v (codeD n rows)] P := by
  have R := GF.told_red h
  unfold F_free_base N_free_base m_free_base
  (simp only [denF, startE, denSs, denS, seqS, denX, denE, denT, denW, denA, denC, denG, denGs, denI, denO, Bop.w, Cop.w, Bl.w, compF, bodyW, wipeE, setW, gSeqW, gConsW, gNilW, lenGs, enumW, itemsW, zipW, List.length_cons, List.length_nil, List.replicate, List.append, List.cons_append, List.nil_append, List.map_cons, List.map_nil, List.set, List.getElem?_cons_zero, List.getElem?_cons_succ, Option.some.injEq, Slot.v.injEq, Slot.own.injEq, exists_eq_left', true_and, and_true, reduceCtorEq, false_or, or_false, if_true, if_false, Bool.false_eq_true])
  refine code_0 (code_1 (l_told_rows (.inr rfl) hn h hs ?_))
  generalize GF.told n rows = T at *
  refine mapW_all (α := Rw) rowD (fun r => .int (GF.lead r : Nat)) T (fun r hr k hk => ?_) ?_
  · (simp only [denF, startE, denSs, denS, seqS, denX, denE, denT, denW, denA, denC, denG, denGs, denI, denO, Bop.w, Cop.w, Bl.w, compF, bodyW, wipeE, setW, gSeqW, gConsW, gNilW, lenGs, enumW, itemsW, zipW, List.length_cons, List.length_nil, List.replicate, List.append, List.cons_append, List.nil_append, List.map_cons, List.map_nil, List.set, List.getElem?_cons_zero, List.getElem?_cons_succ, Option.some.injEq, Slot.v.injEq, Slot.own.injEq, exists_eq_left', true_and, and_true, reduceCtorEq, false_or, or_false, if_true, if_false, Bool.false_eq_true])
    exact l_first_one (R.one r hr) hk
  · rw [lead_list]
    refine ⟨by decide, ⟨by omega, by omega⟩, ?_⟩
    rw [Int.toNat_natCast, rangeD0]
    refine forS_ind (α := Nat) (fun i => .int (i : Nat)) (fun rest env => ∃ done, List.range n = done ++ rest ∧ ∃ x1 x6 x7 x8 x9, env = [.v (codeD n rows), x1, .v (.int (n : Nat)), .v (.tuple (T.map rowD)), .v (.list ((T.map GF.lead).map nat)), .own (((done.filter fun p => decide (p ∉ T.map GF.lead)).map (GF.frow n T)).map rowD), x6, x7, x8, x9]) ?st ?dn _ _ ⟨[], rfl, _, _, _, _, _, rfl⟩
    case dn =>
      rintro env ⟨done, e, x1, x6, x7, x8, x9, rfl⟩
      rw [List.append_nil] at e
      subst e
      (simp only [denF, startE, denSs, denS, seqS, denX, denE, denT, denW, denA, denC, denG, denGs, denI, denO, Bop.w, Cop.w, Bl.w, compF, bodyW, wipeE, setW, gSeqW, gConsW, gNilW, lenGs, enumW, itemsW, zipW, List.length_cons, List.length_nil, List.replicate, List.append, List.cons_append, List.nil_append, List.map_cons, List.map_nil, List.set, List.getElem?_cons_zero, List.getElem?_cons_succ, Option.some.injEq, Slot.v.injEq, Slot.own.injEq, exists_eq_left', true_and, and_true, reduceCtorEq, false_or, or_false, if_true, if_false, Bool.false_eq_true])
      exact hP
    case st =>
      rintro p rest env ⟨done, e, x1, x6, x7, x8, x9, rfl⟩ F hF
      have hp : p < n := List.mem_range.mp (by rw [e]; simp)
      have hdl : done.length < n := by
        have := congrArg List.length e
        simp at this
        omega
      have next : ∀ (L : List Nat) x1 x6 x7 x8 x9, L = (done ++ [p]).filter (fun p => decide (p ∉ T.map GF.lead)) → F [.v (codeD n rows), x1, .v (.int (n : Nat)), .v (.tuple (T.map rowD)), .v (.list ((T.map GF.lead).map nat)), .own ((L.map (GF.frow n T)).map rowD), x6, x7, x8, x9] := fun L x1 x6 x7 x8 x9 e' => hF _ ⟨done ++ [p], by rw [e]; simp, x1, x6, x7, x8, x9, by rw [e']⟩
      (simp only [denF, startE, denSs, denS, seqS, denX, denE, denT, denW, denA, denC, denG, denGs, denI, denO, Bop.w, Cop.w, Bl.w, compF, bodyW, wipeE, setW, gSeqW, gConsW, gNilW, lenGs, enumW, itemsW, zipW, List.length_cons, List.length_nil, List.replicate, List.append, List.cons_append, List.nil_append, List.map_cons, List.map_nil, List.set, List.getElem?_cons_zero, List.getElem?_cons_succ, Option.some.injEq, Slot.v.injEq, Slot.own.injEq, exists_eq_left', true_and, and_true, reduceCtorEq, false_or, or_false, if_true, if_false, Bool.false_eq_true])
      show notB (inW (nat p) (.list ((T.map GF.lead).map nat))) _
      refine in_natL (leads_lt R hn2) ?_
      by_cases hl : p ∈ T.map GF.lead
      · simp only [hl, decide_true, Bool.not_true, Bool.false_eq_true, if_false]
        exact next _ _ _ _ _ _ (by rw [List.filter_append, List.filter_cons_of_neg (by simpa using hl), List.filter_nil, List.append_nil])
      · simp only [hl, decide_false, Bool.not_false, if_true]
        refine ⟨by decide, by simp, ?_⟩
        have ep : pairs ((T.map GF.lead).map nat) (T.map rowD) = T.map fun r => PyData.tuple [nat (GF.lead r), rowD r] := by
          simp [pairs, List.zip_map']
        rw [ep]
        refine mapW_of (α := Rw) _ (fun r => if GF.get r p then some (nat (GF.lead r)) else none) T (fun r hr k hk => ?_) ?_
        · show gSeqW _ _ _ _ _
          (simp only [denF, startE, denSs, denS, seqS, denX, denE, denT, denW, denA, denC, denG, denGs, denI, denO, Bop.w, Cop.w, Bl.w, compF, bodyW, wipeE, setW, gSeqW, gConsW, gNilW, lenGs, enumW, itemsW, zipW, List.length_cons, List.length_nil, List.replicate, List.append, List.cons_append, List.nil_append, List.map_cons, List.map_nil, List.set, List.getElem?_cons_zero, List.getElem?_cons_succ, Option.some.injEq, Slot.v.injEq, Slot.own.injEq, exists_eq_left', true_and, and_true, reduceCtorEq, false_or, or_false, if_true, if_false, Bool.false_eq_true])
          refine idx_row (by rw [R.len r hr]; exact hp) (eq_one ?_)
          cases z : GF.get r p <;> rw [z] at hk <;> exact hk
        · rw [fm_if]
          have eo : [PyData.int ((p : Nat) : Int)] ++ (T.filter fun r => GF.get r p).map (fun r => nat (GF.lead r)) = (GF.onesAt T p).map nat := by
            unfold GF.onesAt
            rw [List.map_cons, List.map_map]
            rfl
          have hTl : T.length ≤ 1000 := by
            have := GF.nodup_len (α := Nat) R.leads_nd (l' := List.range n) fun x hx => by
              obtain ⟨r, hr, rfl⟩ := List.mem_map.mp hx
              exact List.mem_range.mpr (GF.lead_lt' R hr)
            simp at this
            omega
          refine ⟨?_, ?_⟩
          · have := List.length_filter_le (fun r => GF.get r p) T
            rw [List.length_map]
            show 1 + (T.filter fun r => GF.get r p).length ≤ 16777216
            omega
          rw [eo]
          refine ⟨_, rfl, _, rfl, ⟨by omega, by omega⟩, ?_⟩
          rw [Int.toNat_natCast, rangeD0]
          refine mapW_all (α := Nat) (fun i => .int (i : Nat)) (fun q => bit (decide (q ∈ GF.onesAt T p))) _ (fun q hq k hk => ?_) ?_
          · (simp only [denF, startE, denSs, denS, seqS, denX, denE, denT, denW, denA, denC, denG, denGs, denI, denO, Bop.w, Cop.w, Bl.w, compF, bodyW, wipeE, setW, gSeqW, gConsW, gNilW, lenGs, enumW, itemsW, zipW, List.length_cons, List.length_nil, List.replicate, List.append, List.cons_append, List.nil_append, List.map_cons, List.map_nil, List.set, List.getElem?_cons_zero, List.getElem?_cons_succ, Option.some.injEq, Slot.v.injEq, Slot.own.injEq, exists_eq_left', true_and, and_true, reduceCtorEq, false_or, or_false, if_true, if_false, Bool.false_eq_true])
            exact in_natL (ones_lt' R hp hn2) hk
          · rw [frow_map]
            refine ⟨by rw [List.length_map, List.length_map]; have := List.length_filter_le (fun p => decide (p ∉ T.map GF.lead)) done; omega, ?_⟩
            have q := next (done.filter (fun p => decide (p ∉ T.map GF.lead)) ++ [p]) (.v (.int (p : Nat))) (.v (.list ((GF.onesAt T p).map nat))) x7 x8 x9 (by rw [List.filter_append, List.filter_cons_of_pos (by simpa using hl), List.filter_nil])
            rw [List.map_append, List.map_append] at q
            exact q

theorem l_law_free {n : Nat} {rows : List Rw} {ds : D} (hd : ds = .list (rows.map rowD) ∨ ds = .tuple (rows.map rowD)) (hn2 : n ≤ 1000) (h : GF.Len n rows) (hs : rows.length ≤ 1000) {P : D → Prop} (hP : P (.tuple ((GF.free n (GF.told n rows)).map rowD))) : F__law_free [.v (.int (n : Nat)), .v ds] P := by
  have R := GF.told_red h
  unfold F__law_free N__law_free m__law_free
  (simp only [denF, startE, denSs, denS, seqS, denX, denE, denT, denW, denA, denC, denG, denGs, denI, denO, Bop.w, Cop.w, Bl.w, compF, bodyW, wipeE, setW, gSeqW, gConsW, gNilW, lenGs, enumW, itemsW, zipW, List.length_cons, List.length_nil, List.replicate, List.append, List.cons_append, List.nil_append, List.map_cons, List.map_nil, List.set, List.getElem?_cons_zero, List.getElem?_cons_succ, Option.some.injEq, Slot.v.injEq, Slot.own.injEq, exists_eq_left', true_and, and_true, reduceCtorEq, false_or, or_false, if_true, if_false, Bool.false_eq_true])
  refine l_told hd hn2 h hs ?_
  generalize GF.told n rows = T at *
  refine ⟨by decide, l_leading R.one ?_⟩
  rw [lead_list]
  refine ⟨⟨by omega, by omega⟩, ?_⟩
  rw [Int.toNat_natCast, rangeD0]
  refine mapW_of (α := Nat) (fun i => .int (i : Nat)) (fun p => if decide (p ∉ T.map GF.lead) then some (nat p) else none) _ (fun p hp k hk => ?_) ?_
  · (simp only [denF, startE, denSs, denS, seqS, denX, denE, denT, denW, denA, denC, denG, denGs, denI, denO, Bop.w, Cop.w, Bl.w, compF, bodyW, wipeE, setW, gSeqW, gConsW, gNilW, lenGs, enumW, itemsW, zipW, List.length_cons, List.length_nil, List.replicate, List.append, List.cons_append, List.nil_append, List.map_cons, List.map_nil, List.set, List.getElem?_cons_zero, List.getElem?_cons_succ, Option.some.injEq, Slot.v.injEq, Slot.own.injEq, exists_eq_left', true_and, and_true, reduceCtorEq, false_or, or_false, if_true, if_false, Bool.false_eq_true])
    show notB (inW (nat p) (natsD (T.map GF.lead))) _
    refine in_nats (leads_lt R hn2) ?_
    by_cases hl : p ∈ T.map GF.lead
    · simp only [hl, not_true, decide_false, Bool.false_eq_true, if_false] at hk
      simp only [hl, decide_true, Bool.not_true, Bool.false_eq_true, if_false]
      exact hk
    · simp only [hl, not_false_eq_true, decide_true, if_true] at hk
      simp only [hl, decide_false, Bool.not_false, if_true]
      exact hk
  · rw [fm_if]
    refine forS_ind (α := Nat) nat (fun rest env => ∃ done, (List.range n).filter (fun p => decide (p ∉ T.map GF.lead)) = done ++ rest ∧ ∃ x3 x6 x7 x8, env = [.v (.int (n : Nat)), .v ds, .v (natsD (T.map GF.lead)), x3, .v (.tuple (T.map rowD)), .own ((done.map (GF.frow n T)).map rowD), x6, x7, x8]) ?st ?dn _ _ ⟨[], rfl, .no, .no, .no, .no, rfl⟩
    case dn =>
      rintro env ⟨done, e, x3, x6, x7, x8, rfl⟩
      rw [List.append_nil] at e
      subst e
      (simp only [denF, startE, denSs, denS, seqS, denX, denE, denT, denW, denA, denC, denG, denGs, denI, denO, Bop.w, Cop.w, Bl.w, compF, bodyW, wipeE, setW, gSeqW, gConsW, gNilW, lenGs, enumW, itemsW, zipW, List.length_cons, List.length_nil, List.replicate, List.append, List.cons_append, List.nil_append, List.map_cons, List.map_nil, List.set, List.getElem?_cons_zero, List.getElem?_cons_succ, Option.some.injEq, Slot.v.injEq, Slot.own.injEq, exists_eq_left', true_and, and_true, reduceCtorEq, false_or, or_false, if_true, if_false, Bool.false_eq_true])
      exact hP
    case st =>
      rintro p rest env ⟨done, e, x3, x6, x7, x8, rfl⟩ F hF
      have hpm : p ∈ (List.range n).filter (fun p => decide (p ∉ T.map GF.lead)) := by rw [e]; simp
      have hp : p < n := List.mem_range.mp (List.mem_filter.mp hpm).1
      have hdl : done.length ≤ n := by
        have h1 := congrArg List.length e
        have h2 := List.length_filter_le (fun p => decide (p ∉ T.map GF.lead)) (List.range n)
        rw [List.length_append] at h1
        rw [List.length_range] at h2
        omega
      have next : ∀ x3 x6 x7 x8, F [.v (.int (n : Nat)), .v ds, .v (natsD (T.map GF.lead)), x3, .v (.tuple (T.map rowD)), .own (((done ++ [p]).map (GF.frow n T)).map rowD), x6, x7, x8] := fun x3 x6 x7 x8 => hF _ ⟨done ++ [p], by rw [e]; simp, x3, x6, x7, x8, rfl⟩
      (simp only [denF, startE, denSs, denS, seqS, denX, denE, denT, denW, denA, denC, denG, denGs, denI, denO, Bop.w, Cop.w, Bl.w, compF, bodyW, wipeE, setW, gSeqW, gConsW, gNilW, lenGs, enumW, itemsW, zipW, List.length_cons, List.length_nil, List.replicate, List.append, List.cons_append, List.nil_append, List.map_cons, List.map_nil, List.set, List.getElem?_cons_zero, List.getElem?_cons_succ, Option.some.injEq, Slot.v.injEq, Slot.own.injEq, exists_eq_left', true_and, and_true, reduceCtorEq, false_or, or_false, if_true, if_false, Bool.false_eq_true])
      refine ⟨by decide, ?_⟩
      refine mapW_of (α := Rw) rowD (fun r => if GF.get r p then some (nat (GF.lead r)) else none) T (fun r hr k hk => ?_) ?_
      · (simp only [denF, startE, denSs, denS, seqS, denX, denE, denT, denW, denA, denC, denG, denGs, denI, denO, Bop.w, Cop.w, Bl.w, compF, bodyW, wipeE, setW, gSeqW, gConsW, gNilW, lenGs, enumW, itemsW, zipW, List.length_cons, List.length_nil, List.replicate, List.append, List.cons_append, List.nil_append, List.map_cons, List.map_nil, List.set, List.getElem?_cons_zero, List.getElem?_cons_succ, Option.some.injEq, Slot.v.injEq, Slot.own.injEq, exists_eq_left', true_and, and_true, reduceCtorEq, false_or, or_false, if_true, if_false, Bool.false_eq_true])
        refine idx_row (by rw [R.len r hr]; exact hp) (eq_one ?_)
        cases z : GF.get r p with
        | false => rw [z] at hk; exact hk
        | true =>
          rw [z] at hk
          exact ⟨trivial, index_row (R.one r hr) hk⟩
      · rw [fm_if]
        have eo : [PyData.int ((p : Nat) : Int)] ++ (T.filter fun r => GF.get r p).map (fun r => nat (GF.lead r)) = (GF.onesAt T p).map nat := by
          unfold GF.onesAt
          rw [List.map_cons, List.map_map]
          rfl
        have hTl : T.length ≤ 1000 := by
          have := GF.nodup_len (α := Nat) R.leads_nd (l' := List.range n) fun x hx => by
            obtain ⟨r, hr, rfl⟩ := List.mem_map.mp hx
            exact List.mem_range.mpr (GF.lead_lt' R hr)
          simp at this
          omega
        refine ⟨?_, ?_⟩
        · have := List.length_filter_le (fun r => GF.get r p) T
          rw [List.length_map]
          show 1 + (T.filter fun r => GF.get r p).length ≤ 16777216
          omega
        have eo2 : [nat p] ++ (T.filter fun r => GF.get r p).map (fun r => nat (GF.lead r)) = (GF.onesAt T p).map nat := eo
        rw [eo2]
        refine ⟨_, rfl, _, rfl, ⟨by omega, by omega⟩, ?_⟩
        rw [Int.toNat_natCast, rangeD0]
        refine mapW_all (α := Nat) (fun i => .int (i : Nat)) (fun q => bit (decide (q ∈ GF.onesAt T p))) _ (fun q hq k hk => ?_) ?_
        · (simp only [denF, startE, denSs, denS, seqS, denX, denE, denT, denW, denA, denC, denG, denGs, denI, denO, Bop.w, Cop.w, Bl.w, compF, bodyW, wipeE, setW, gSeqW, gConsW, gNilW, lenGs, enumW, itemsW, zipW, List.length_cons, List.length_nil, List.replicate, List.append, List.cons_append, List.nil_append, List.map_cons, List.map_nil, List.set, List.getElem?_cons_zero, List.getElem?_cons_succ, Option.some.injEq, Slot.v.injEq, Slot.own.injEq, exists_eq_left', true_and, and_true, reduceCtorEq, false_or, or_false, if_true, if_false, Bool.false_eq_true])
          exact in_natL (ones_lt' R hp hn2) hk
        · rw [frow_map]
          refine ⟨by rw [List.length_map, List.length_map]; omega, ?_⟩
          have q := next (.v (nat p)) (.v (.list ((GF.onesAt T p).map nat))) x7 x8
          rw [List.map_append, List.map_append] at q
          exact q
theorem l_law_other {n : Nat} {rows : List Rw} (hn2 : n ≤ 1000) (h : GF.Len n rows) (hs : rows.length ≤ 1000) {P : D → Prop} (hP : P (codeD n (GF.told n (GF.free n (GF.told n rows))))) : F__law_other [.v (codeD n rows)] P := by
  unfold F__law_other N__law_other m__law_other
  (simp only [denF, startE, denSs, denS, seqS, denX, denE, denT, denW, denA, denC, denG, denGs, denI, denO, Bop.w, Cop.w, Bl.w, compF, bodyW, wipeE, setW, gSeqW, gConsW, gNilW, lenGs, enumW, itemsW, zipW, List.length_cons, List.length_nil, List.replicate, List.append, List.cons_append, List.nil_append, List.map_cons, List.map_nil, List.set, List.getElem?_cons_zero, List.getElem?_cons_succ, Option.some.injEq, Slot.v.injEq, Slot.own.injEq, exists_eq_left', true_and, and_true, reduceCtorEq, false_or, or_false, if_true, if_false, Bool.false_eq_true])
  refine code_0 (code_0 (code_0 (code_1 (l_law_free (.inr rfl) hn2 h hs ?_))))
  refine l_told (.inr rfl) hn2 (GF.free_len _ _) (Nat.le_trans (GF.free_count _ _) hn2) ⟨by decide, hP⟩
theorem l_law_has {n : Nat} {rows : List Rw} {r : Rw} (hn2 : n ≤ 1000) (h : GF.Len n rows) (hs : rows.length ≤ 900) (hr : r.length = n) {P : D → Prop} (hP : P (.bool (decide (GF.rank n (rows ++ [r]) = rows.length)))) : F__law_has [.v (codeD n rows), .v (rowD r)] P := by
  unfold F__law_has N__law_has m__law_has
  (simp only [denF, startE, denSs, denS, seqS, denX, denE, denT, denW, denA, denC, denG, denGs, denI, denO, Bop.w, Cop.w, Bl.w, compF, bodyW, wipeE, setW, gSeqW, gConsW, gNilW, lenGs, enumW, itemsW, zipW, List.length_cons, List.length_nil, List.replicate, List.append, List.cons_append, List.nil_append, List.map_cons, List.map_nil, List.set, List.getElem?_cons_zero, List.getElem?_cons_succ, Option.some.injEq, Slot.v.injEq, Slot.own.injEq, exists_eq_left', true_and, and_true, reduceCtorEq, false_or, or_false, if_true, if_false, Bool.false_eq_true])
  refine code_0 (code_1 ⟨by decide, by simp; omega, ?_⟩)
  have e : rows.map rowD ++ [rowD r] = (rows ++ [r]).map rowD := by simp
  rw [e]
  refine l_told (.inl rfl) hn2 (GF.len_app h (GF.len_one hr)) (by simp; omega) (code_1 ?_)
  refine ev_int ?_
  simp only [List.length_map]
  have e2 : ((((GF.told n (rows ++ [r])).length : Nat) : Int) == ((rows.length : Nat) : Int)) = decide (GF.rank n (rows ++ [r]) = rows.length) := by
    rw [Bool.eq_iff_iff, beq_iff_eq, decide_eq_true_iff]
    unfold GF.rank
    omega
  rw [e2]; exact hP
theorem l_has_row {n : Nat} {rows : List Rw} {r : Rw} (hn : 1 ≤ n) (hn2 : n ≤ 1000) (h : GF.Len n rows) (hs : rows.length ≤ 1000) (hr : r.length = n) {P : D → Prop} (hP : P (.bool ((GF.free n (GF.told n rows)).all fun f => !GF.dot r f))) : F_has_row [.v (codeD n rows), .v (rowD r)] P := by
  unfold F_has_row N_has_row m_has_row
  (simp only [denF, startE, denSs, denS, seqS, denX, denE, denT, denW, denA, denC, denG, denGs, denI, denO, Bop.w, Cop.w, Bl.w, compF, bodyW, wipeE, setW, gSeqW, gConsW, gNilW, lenGs, enumW, itemsW, zipW, List.length_cons, List.length_nil, List.replicate, List.append, List.cons_append, List.nil_append, List.map_cons, List.map_nil, List.set, List.getElem?_cons_zero, List.getElem?_cons_succ, Option.some.injEq, Slot.v.injEq, Slot.own.injEq, exists_eq_left', true_and, and_true, reduceCtorEq, false_or, or_false, if_true, if_false, Bool.false_eq_true])
  refine l_free_base hn hn2 h hs ?_
  refine mapW_all (α := Rw) rowD (fun f => .bool (!GF.dot r f)) _ (fun f hf k hk => ?_) ?_
  · (simp only [denF, startE, denSs, denS, seqS, denX, denE, denT, denW, denA, denC, denG, denGs, denI, denO, Bop.w, Cop.w, Bl.w, compF, bodyW, wipeE, setW, gSeqW, gConsW, gNilW, lenGs, enumW, itemsW, zipW, List.length_cons, List.length_nil, List.replicate, List.append, List.cons_append, List.nil_append, List.map_cons, List.map_nil, List.set, List.getElem?_cons_zero, List.getElem?_cons_succ, Option.some.injEq, Slot.v.injEq, Slot.own.injEq, exists_eq_left', true_and, and_true, reduceCtorEq, false_or, or_false, if_true, if_false, Bool.false_eq_true])
    exact l_are_even (by rw [hr, GF.free_len _ _ f hf]) hk
  · have e : (GF.free n (GF.told n rows)).map (fun f => PyData.bool (!GF.dot r f)) = ((GF.free n (GF.told n rows)).map fun f => !GF.dot r f).map PyData.bool := by rw [List.map_map]; rfl
    rw [e]
    refine ⟨_, boolsOf_map _, ?_⟩
    rw [List.all_map]
    exact hP
theorem has_iff {n : Nat} {rows : List Rw} {r : Rw} (h : GF.Len n rows) (hr : r.length = n) : ((GF.free n (GF.told n rows)).all fun f => !GF.dot r f) = true ↔ GF.Sp n rows r := by
  rw [← GF.told_sp h r, ← GF.free_iff (GF.told_red h) hr, List.all_eq_true]
  refine ⟨fun q f hf => by simpa using q f hf, fun q f hf => by simp [q f hf]⟩
theorem rank_iff {n : Nat} {rows : List Rw} {r : Rw} (hI : Ind n rows) (hr : r.length = n) : GF.rank n (rows ++ [r]) = rows.length ↔ GF.Sp n rows r := by
  have h2 : GF.rank n rows = rows.length := hI.2
  constructor
  · intro h
    exact GF.in_of_rank hI.1 hr (by omega)
  · intro h
    rw [← GF.rank_of_sp hI.1 (GF.len_app hI.1 (GF.len_one hr)) (GF.sp_app hI.1 h), h2]
end KC

set_option Elab.async false
set_option linter.all false
set_option maxRecDepth 100000
set_option maxHeartbeats 1000000
namespace KC
open PySem PySem.Spec PyProof.Rows L2 Mi

/-! ### what is a row, a lot of numbers, a pair with a word -/
def isBelow (m : Int) : D → Bool
  | .int i => decide (0 ≤ i) && decide (i < m)
  | _ => false
def bitsOf : List D → Option Rw
  | [] => some []
  | .int i :: ds => if i = 0 then (bitsOf ds).map (false :: ·) else if i = 1 then (bitsOf ds).map (true :: ·) else none
  | _ :: _ => none
def rowOf (n : Nat) : D → Option Rw
  | .tuple ds => if ds.length = n then bitsOf ds else none
  | _ => none
theorem bits_all : ∀ ds : List D, (bitsOf ds).isSome = ds.all (isBelow 2)
  | [] => rfl
  | d :: ds => by
    rw [List.all_cons, ← bits_all ds]
    cases d <;> try (simp [bitsOf, isBelow]; done)
    rename_i i
    simp only [bitsOf, isBelow]
    by_cases h0 : i = 0
    · subst h0; simp
    · by_cases h1 : i = 1
      · subst h1; simp
      · have : (decide (0 ≤ i) && decide (i < 2)) = false := by simp; omega
        simp [h0, h1, this]
theorem bits_eq : ∀ {ds : List D} {r : Rw}, bitsOf ds = some r → ds = r.map bit
  | [], r, h => by simp [bitsOf] at h; subst h; rfl
  | d :: ds, r, h => by
    cases d <;> try (simp [bitsOf] at h; done)
    rename_i i
    simp only [bitsOf] at h
    by_cases h0 : i = 0
    · subst h0
      simp at h
      obtain ⟨r', h1, rfl⟩ := h
      rw [bits_eq h1]; rfl
    · by_cases h1 : i = 1
      · subst h1
        simp at h
        obtain ⟨r', h2, rfl⟩ := h
        rw [bits_eq h2]; rfl
      · simp [h0, h1] at h
theorem rowOf_eq {n : Nat} {d : D} {r : Rw} (h : rowOf n d = some r) : d = rowD r ∧ r.length = n := by
  cases d <;> try (simp [rowOf] at h; done)
  rename_i ds
  simp only [rowOf] at h
  by_cases hl : ds.length = n
  · rw [if_pos hl] at h
    have e := bits_eq h
    subst e
    exact ⟨rfl, by simpa using hl⟩
  · rw [if_neg hl] at h; cases h
theorem l_is_integer {d : D} {P : D → Prop} (hP : P (.bool (match d with | .int i => decide (0 ≤ i) | _ => false))) : F_is_integer [.v d] P := by
  unfold F_is_integer N_is_integer m_is_integer
  (simp only [denF, startE, denSs, denS, seqS, denX, denE, denT, denW, denA, denC, denG, denGs, denI, denO, Bop.w, Cop.w, Bl.w, compF, bodyW, wipeE, setW, gSeqW, gConsW, gNilW, lenGs, enumW, itemsW, zipW, List.length_cons, List.length_nil, List.replicate, List.append, List.cons_append, List.nil_append, List.map_cons, List.map_nil, List.set, List.getElem?_cons_zero, List.getElem?_cons_succ, Option.some.injEq, Slot.v.injEq, Slot.own.injEq, exists_eq_left', true_and, and_true, reduceCtorEq, false_or, or_false, if_true, if_false, Bool.false_eq_true])
  cases d <;> exact hP
theorem all_bools {ds : List D} {f : D → Bool} {P : D → Prop} (h : P (.bool (ds.all f))) : allW [.list (ds.map fun d => .bool (f d))] P := by
  have e : (ds.map fun d => PyData.bool (f d)) = (ds.map f).map PyData.bool := by rw [List.map_map]; rfl
  rw [e]
  refine ⟨_, boolsOf_map _, ?_⟩
  rw [List.all_map]
  exact h
theorem mapD {f : D → (Option D → Prop) → Prop} {g : D → D} {ds : List D} {P : List D → Prop} (hf : ∀ d ∈ ds, ∀ k : Option D → Prop, k (some (g d)) → f d k) (h : P (ds.map g)) : mapW ds f P := by
  have := mapW_all (fun d : D => d) g ds hf h
  rwa [List.map_id'] at this
theorem mapD_of {f : D → (Option D → Prop) → Prop} {g : D → Option D} {ds : List D} {P : List D → Prop} (hf : ∀ d ∈ ds, ∀ k : Option D → Prop, k (g d) → f d k) (h : P (ds.filterMap g)) : mapW ds f P := by
  have := mapW_of (fun d : D => d) g ds hf h
  rwa [List.map_id'] at this
theorem l_is_row {n : Nat} {d : D} {P : D → Prop} (hP : P (.bool (rowOf n d).isSome)) : F_is_row [.v (.int (n : Nat)), .v d] P := by
  unfold F_is_row N_is_row m_is_row
  (simp only [denF, startE, denSs, denS, seqS, denX, denE, denT, denW, denA, denC, denG, denGs, denI, denO, Bop.w, Cop.w, Bl.w, compF, bodyW, wipeE, setW, gSeqW, gConsW, gNilW, lenGs, enumW, itemsW, zipW, List.length_cons, List.length_nil, List.replicate, List.append, List.cons_append, List.nil_append, List.map_cons, List.map_nil, List.set, List.getElem?_cons_zero, List.getElem?_cons_succ, Option.some.injEq, Slot.v.injEq, Slot.own.injEq, exists_eq_left', true_and, and_true, reduceCtorEq, false_or, or_false, if_true, if_false, Bool.false_eq_true])
  cases d <;> try exact hP
  rename_i ds
  simp only [andV, isD, lenW]
  refine ev_int ?_
  simp only [rowOf] at hP
  by_cases hl : ds.length = n
  · rw [if_pos hl, bits_all] at hP
    have : (((ds.length : Nat) : Int) == ((n : Nat) : Int)) = true := by rw [hl]; simp
    rw [this]
    refine mapD (g := fun d => .bool (isBelow 2 d)) (fun d hd k hk => ?_) (all_bools hP)
    (simp only [denF, startE, denSs, denS, seqS, denX, denE, denT, denW, denA, denC, denG, denGs, denI, denO, Bop.w, Cop.w, Bl.w, compF, bodyW, wipeE, setW, gSeqW, gConsW, gNilW, lenGs, enumW, itemsW, zipW, List.length_cons, List.length_nil, List.replicate, List.append, List.cons_append, List.nil_append, List.map_cons, List.map_nil, List.set, List.getElem?_cons_zero, List.getElem?_cons_succ, Option.some.injEq, Slot.v.injEq, Slot.own.injEq, exists_eq_left', true_and, and_true, reduceCtorEq, false_or, or_false, if_true, if_false, Bool.false_eq_true])
    refine l_is_integer ?_
    cases d <;> try exact hk
    rename_i i
    simp only [isBelow] at hk
    by_cases h0 : 0 ≤ i
    · simp only [h0, decide_true, Bool.true_and] at hk ⊢
      exact hk
    · simp only [h0, decide_false, Bool.false_and] at hk ⊢
      exact hk
  · rw [if_neg hl] at hP
    have : (((ds.length : Nat) : Int) == ((n : Nat) : Int)) = false := by simp; omega
    rw [this]
    exact hP
def below (m : Int) : D → Bool
  | .tuple ds => ds.all (isBelow m)
  | _ => false
theorem fm_nil {ds : List D} {f : D → Bool} : (ds.filterMap fun d => if f d = true then some (PyData.int 1) else none).isEmpty = ds.all fun d => !f d := by
  induction ds with
  | nil => rfl
  | cons d ds ih =>
    rw [List.filterMap_cons, List.all_cons, ← ih]
    cases f d <;> simp
theorem tm_ones {ds : List D} {f : D → Bool} : Tm 1 ((ds.filterMap fun d => if f d = true then some (PyData.int 1) else none).length * 12 + 3) (.list (ds.filterMap fun d => if f d = true then some (PyData.int 1) else none)) :=
  Tm.list (k := 0) (L := 10) fun d hd => by
    obtain ⟨x, _, e⟩ := List.mem_filterMap.mp hd
    split at e
    · cases e; exact Tm.int1 (by decide)
    · cases e
theorem eq_nil {k L : Nat} {ds : List D} {P : Bool → Prop} (ht : Tm k L (.list ds)) (hk : k ≤ 64) (h : P ds.isEmpty) : eqW (.list ds) (.list []) P := by
  refine ⟨ht.shaped hk, by decide, ?_⟩
  have e : PyData.eqv (.list ds) (.list []) = ds.isEmpty := by cases ds <;> simp [PyData.eqv, PyData.eqvAll]
  rw [e]; exact h
theorem l_below {m : Int} {d : D} {P : D → Prop} (hP : P (.bool (below m d))) : F__law_are_below [.v d, .v (.int m)] P := by
  unfold F__law_are_below N__law_are_below m__law_are_below
  (simp only [denF, startE, denSs, denS, seqS, denX, denE, denT, denW, denA, denC, denG, denGs, denI, denO, Bop.w, Cop.w, Bl.w, compF, bodyW, wipeE, setW, gSeqW, gConsW, gNilW, lenGs, enumW, itemsW, zipW, List.length_cons, List.length_nil, List.replicate, List.append, List.cons_append, List.nil_append, List.map_cons, List.map_nil, List.set, List.getElem?_cons_zero, List.getElem?_cons_succ, Option.some.injEq, Slot.v.injEq, Slot.own.injEq, exists_eq_left', true_and, and_true, reduceCtorEq, false_or, or_false, if_true, if_false, Bool.false_eq_true])
  cases d <;> try exact hP
  rename_i ds
  refine mapD_of (g := fun d => if (!isBelow m d) = true then some (.int 1) else none) (fun d hd k hk => ?_) ?_
  · (simp only [denF, startE, denSs, denS, seqS, denX, denE, denT, denW, denA, denC, denG, denGs, denI, denO, Bop.w, Cop.w, Bl.w, compF, bodyW, wipeE, setW, gSeqW, gConsW, gNilW, lenGs, enumW, itemsW, zipW, List.length_cons, List.length_nil, List.replicate, List.append, List.cons_append, List.nil_append, List.map_cons, List.map_nil, List.set, List.getElem?_cons_zero, List.getElem?_cons_succ, Option.some.injEq, Slot.v.injEq, Slot.own.injEq, exists_eq_left', true_and, and_true, reduceCtorEq, false_or, or_false, if_true, if_false, Bool.false_eq_true])
    show orT _ _ _
    refine l_number' ?_
    cases d <;> try exact hk
    rename_i i
    simp only [isBelow] at hk
    simp only [truthW, notB, Bool.not_true, Bool.false_eq_true, if_false, chainW, leW]
    by_cases h0 : 0 ≤ i
    · simp only [h0, decide_true, Bool.true_and] at hk
      simp only [h0, decide_true, if_true, ltW]
      generalize decide (i < m) = b at *
      cases b <;> exact hk
    · simp only [h0, decide_false, Bool.false_and] at hk
      simp only [h0, decide_false, Bool.false_eq_true, if_false]
      exact hk
  · refine ⟨by decide, ?_⟩
    refine eq_nil (P := fun b => P (.bool b)) tm_ones (by decide) ?_
    rw [fm_nil]
    simp only [Bool.not_not]
    exact hP
theorem l_law_is_row {n : Nat} {d : D} {P : D → Prop} (hP : P (.bool (rowOf n d).isSome)) : F__law_is_row [.v (.int (n : Nat)), .v d] P := by
  unfold F__law_is_row N__law_is_row m__law_is_row
  (simp only [denF, startE, denSs, denS, seqS, denX, denE, denT, denW, denA, denC, denG, denGs, denI, denO, Bop.w, Cop.w, Bl.w, compF, bodyW, wipeE, setW, gSeqW, gConsW, gNilW, lenGs, enumW, itemsW, zipW, List.length_cons, List.length_nil, List.replicate, List.append, List.cons_append, List.nil_append, List.map_cons, List.map_nil, List.set, List.getElem?_cons_zero, List.getElem?_cons_succ, Option.some.injEq, Slot.v.injEq, Slot.own.injEq, exists_eq_left', true_and, and_true, reduceCtorEq, false_or, or_false, if_true, if_false, Bool.false_eq_true])
  refine l_below ?_
  cases d <;> try exact hP
  rename_i ds
  simp only [rowOf] at hP
  have hb : below 2 (.tuple ds) = ds.all (isBelow 2) := rfl
  rw [hb]
  rw [← bits_all] at *
  cases z : (bitsOf ds).isSome with
  | false =>
    have e : (if ds.length = n then bitsOf ds else none).isSome = false := by split <;> simp [z]
    rw [e] at hP
    exact hP
  | true =>
    simp only [lenW]
    refine ev_int ?_
    have e : (if ds.length = n then bitsOf ds else none).isSome = (((ds.length : Nat) : Int) == ((n : Nat) : Int)) := by
      by_cases h : ds.length = n
      · rw [if_pos h, z, h]; simp
      · rw [if_neg h]; symm; simp; omega
    rw [e] at hP
    exact hP
def pairOf : D → Option (Str × D)
  | .tuple [.str w, v] => some (w, v)
  | _ => none
theorem pairOf_eq {d : D} {w : Str} {v : D} (h : pairOf d = some (w, v)) : d = .tuple [.str w, v] := by
  unfold pairOf at h
  split at h
  · cases h; rfl
  · cases h
theorem any_str (w : Str) (ws : List Str) : ((ws.map PyData.str).any fun y => PyData.eqv y (.str w)) = decide (w ∈ ws) := by
  induction ws with
  | nil => simp
  | cons x ws ih =>
    rw [List.map_cons, List.any_cons, ih]
    have e : PyData.eqv (.str x) (.str w) = decide (w = x) := by
      simp only [PyData.eqv]
      by_cases h : x = w
      · subst h; simp
      · have h' : ¬ w = x := fun e => h e.symm
        simp [h, h']
    rw [e]
    by_cases h : w = x <;> simp [h]
theorem lay_str {ws : List Str} (h : ∀ w ∈ ws, PyData.strOk w = true) : PyData.canLayAll0 (ws.map PyData.str) = true := by
  induction ws with
  | nil => rfl
  | cons x ws ih => simp only [List.map_cons, PyData.canLayAll0, PyData.canLay0, Bool.and_eq_true]; exact ⟨h x (by simp), ih fun w hw => h w (by simp [hw])⟩
theorem in_words {w : Str} {ws : List Str} (hw : PyData.strOk w = true) (h : ∀ w ∈ ws, PyData.strOk w = true) {P : Bool → Prop} (hP : P (decide (w ∈ ws))) : inW (.str w) (.tuple (ws.map PyData.str)) P :=
  ⟨shaped_str hw, lay_str h, by rw [any_str]; exact hP⟩
theorem l_worded {d : D} {ws : List Str} (hd : ∀ w v, pairOf d = some (w, v) → PyData.strOk w = true) (h : ∀ w ∈ ws, PyData.strOk w = true) {P : D → Prop} (hP : P (.bool (match pairOf d with | some (w, _) => decide (w ∈ ws) | none => false))) :
    F_is_worded [.v d, .v (.tuple (ws.map PyData.str))] P := by
  unfold F_is_worded N_is_worded m_is_worded
  (simp only [denF, startE, denSs, denS, seqS, denX, denE, denT, denW, denA, denC, denG, denGs, denI, denO, Bop.w, Cop.w, Bl.w, compF, bodyW, wipeE, setW, gSeqW, gConsW, gNilW, lenGs, enumW, itemsW, zipW, List.length_cons, List.length_nil, List.replicate, List.append, List.cons_append, List.nil_append, List.map_cons, List.map_nil, List.set, List.getElem?_cons_zero, List.getElem?_cons_succ, Option.some.injEq, Slot.v.injEq, Slot.own.injEq, exists_eq_left', true_and, and_true, reduceCtorEq, false_or, or_false, if_true, if_false, Bool.false_eq_true])
  cases d <;> try exact hP
  rename_i ds
  simp only [andV, isD, lenW]
  refine ev_int ?_
  match ds, hd, hP with
  | [], _, hP => exact hP
  | [x1], _, hP => cases x1 <;> exact hP
  | x :: y :: z :: r, _, hP =>
    have e : ((((x :: y :: z :: r).length : Nat) : Int) == 2) = false := by simp; omega
    rw [e]
    have e2 : pairOf (.tuple (x :: y :: z :: r)) = none := by
      unfold pairOf
      split
      · rename_i h; simp at h
      · rfl
    rw [e2] at hP
    exact hP
  | [x, y], hd, hP =>
    refine ⟨x, rfl, ?_⟩
    cases x <;> try exact hP
    rename_i w
    refine ⟨.str w, rfl, ?_⟩
    exact in_words (hd w y rfl) h (P := fun b => P (.bool b)) hP
end KC

set_option Elab.async false
set_option linter.all false
set_option maxRecDepth 100000
set_option maxHeartbeats 1000000
namespace KC
open PySem PySem.Spec PyProof.Rows L2 Mi

def w1 (x : Str) : D := .tuple [.str x]
def w2 (x : Str) (i : Nat) : D := .tuple [.str x, nat i]
def firstD (xs : List Nat) : D := match xs with
  | [] => .none
  | i :: _ => nat i
/-- (word, first of xs), or else -/
def firstW (w : Str) (xs : List Nat) (e : D) : D := match xs with
  | [] => e
  | i :: _ => w2 w i
def oddAt (B : List Rw) (f : Rw) : List Nat := (B.zipIdx.filter fun p => GF.dot p.1 f).map (·.2)
theorem enumRowsD (B : List Rw) : enumD 0 (B.map rowD) = B.zipIdx.map fun p => PyData.tuple [.int (p.2 : Nat), rowD p.1] := by rw [enumD_eq, List.zipIdx_map, List.map_map]; rfl
theorem odd_len (B : List Rw) (f : Rw) : (oddAt B f).length ≤ B.length := by
  unfold oddAt
  rw [List.length_map]
  have := List.length_filter_le (fun p : Rw × Nat => GF.dot p.1 f) B.zipIdx
  rwa [List.length_zipIdx] at this
theorem l_first_odd {n : Nat} {B : List Rw} {f : Rw} (h : GF.Len n B) (hf : f.length = n) {P : D → Prop} (hP : P (firstD (oddAt B f))) : F_first_odd [.v (.tuple (B.map rowD)), .v (rowD f)] P := by
  unfold F_first_odd N_first_odd m_first_odd
  (simp only [denF, startE, denSs, denS, seqS, denX, denE, denT, denW, denA, denC, denG, denGs, denI, denO, Bop.w, Cop.w, Bl.w, compF, bodyW, wipeE, setW, gSeqW, gConsW, gNilW, lenGs, enumW, itemsW, zipW, List.length_cons, List.length_nil, List.replicate, List.append, List.cons_append, List.nil_append, List.map_cons, List.map_nil, List.set, List.getElem?_cons_zero, List.getElem?_cons_succ, Option.some.injEq, Slot.v.injEq, Slot.own.injEq, exists_eq_left', true_and, and_true, reduceCtorEq, false_or, or_false, if_true, if_false, Bool.false_eq_true])
  show mapW (enumD 0 (B.map rowD)) _ _
  rw [enumRowsD]
  refine mapW_of (α := Rw × Nat) _ (fun p => if GF.dot p.1 f then some (nat p.2) else none) _ (fun ⟨r, i⟩ hx k hk => ?_) ?_
  · have hr : r ∈ B := List.mem_of_getElem? (List.mem_zipIdx_iff_getElem?.mp hx)
    show gSeqW _ _ _ _ _
    (simp only [denF, startE, denSs, denS, seqS, denX, denE, denT, denW, denA, denC, denG, denGs, denI, denO, Bop.w, Cop.w, Bl.w, compF, bodyW, wipeE, setW, gSeqW, gConsW, gNilW, lenGs, enumW, itemsW, zipW, List.length_cons, List.length_nil, List.replicate, List.append, List.cons_append, List.nil_append, List.map_cons, List.map_nil, List.set, List.getElem?_cons_zero, List.getElem?_cons_succ, Option.some.injEq, Slot.v.injEq, Slot.own.injEq, exists_eq_left', true_and, and_true, reduceCtorEq, false_or, or_false, if_true, if_false, Bool.false_eq_true])
    refine l_are_even (by rw [h r hr, hf]) ?_
    show if (!(!GF.dot r f)) = true then k (some (nat i)) else k none
    rw [Bool.not_not]
    cases z : GF.dot r f <;> simp only [z] at hk <;> exact hk
  · rw [fm_if (fun p : Rw × Nat => GF.dot p.1 f) (fun p => nat p.2)]
    have e : (B.zipIdx.filter fun p => GF.dot p.1 f).map (fun p => nat p.2) = (oddAt B f).map nat := by unfold oddAt; rw [List.map_map]; rfl
    rw [e]
    show iteW _ _ _ P
    cases z : oddAt B f with
    | nil => rw [z] at hP; exact hP
    | cons i r => rw [z] at hP; exact idx_list (i := 0) (d := nat i) rfl hP
theorem tm_w1 {s : String} (h : okS (Str.ofString s)) : Vd 9 1 (w1 (Str.ofString s)) := .tup fun d hd => by rw [List.mem_singleton.mp hd]; exact .str h
theorem vd_w2 {s : String} (h : okS (Str.ofString s)) {i : Nat} (hi : i < 1000000) : Vd 999999 1 (w2 (Str.ofString s) i) := .tup fun d hd => by
  simp only [List.mem_cons, List.not_mem_nil, or_false] at hd
  rcases hd with rfl | rfl
  · exact .str h
  · exact .int (by omega)
theorem vd_row (r : Rw) : Vd 9 1 (rowD r) := .tup fun d hd => by
  obtain ⟨b, _, rfl⟩ := List.mem_map.mp hd
  exact .int (by cases b <;> decide)
theorem M_row (r : Rw) : M (rowD r) = r.length * 14 + 3 := by
  unfold rowD
  simp only [M]
  congr 1
  induction r with
  | nil => rfl
  | cons b r ih =>
    simp only [List.map_cons, MA, ih, List.length_cons]
    have : M (bit b) = 12 := by unfold bit; simp only [M]
    omega
theorem vd_nats {xs : List Nat} (h : ∀ x ∈ xs, x ≤ 999) : Vd 999 1 (natsD xs) := .tup fun d hd => by
  obtain ⟨j, hj, rfl⟩ := List.mem_map.mp hd
  have := h j hj
  exact .int (by omega)
theorem M_nats (xs : List Nat) : M (natsD xs) = xs.length * 14 + 3 := by
  unfold natsD
  simp only [M]
  congr 1
  induction xs with
  | nil => rfl
  | cons b r ih =>
    simp only [List.map_cons, MA, ih, List.length_cons]
    have : M (nat b) = 12 := by unfold nat; simp only [M]
    omega
theorem vd_pair {c k : Nat} {s : String} {d : D} (hs : okS (Str.ofString s)) (h : Vd c k d) : Vd c (k + 1) (.tuple [.str (Str.ofString s), d]) := .tup fun x hx => by
  simp only [List.mem_cons, List.not_mem_nil, or_false] at hx
  rcases hx with rfl | rfl
  · exact .str hs
  · exact h
theorem M_pair (x : Str) (d : D) : M (.tuple [.str x, d]) = M d + 37 := by simp only [M, MA]; omega
theorem Vd.word {c k : Nat} {d : D} (h : Vd c k d) : ∀ w v, pairOf d = some (w, v) → PyData.strOk w = true := fun w v e => by
  have := pairOf_eq e
  subst this
  cases h with
  | tup h =>
    have := h (.str w) (by simp)
    cases this with
    | str h => exact h.1
/-! ### lots of numbers -/
def toN : D → Nat
  | .int i => i.toNat
  | _ => 0
def natsOf (K : Nat) : D → Option (List Nat)
  | .tuple ds => if ds.all (isBelow K) then some (ds.map toN) else none
  | _ => none
theorem below_nat {K : Nat} {d : D} (h : isBelow K d = true) : d = nat (toN d) ∧ toN d < K := by
  cases d <;> try (simp [isBelow] at h; done)
  rename_i i
  simp only [isBelow, Bool.and_eq_true, decide_eq_true_eq] at h
  refine ⟨?_, ?_⟩
  · show PyData.int i = .int ((i.toNat : Nat) : Int)
    congr 1
    omega
  · show i.toNat < K
    omega
theorem natsOf_eq {K : Nat} {d : D} {is : List Nat} (h : natsOf K d = some is) : d = natsD is ∧ ∀ i ∈ is, i < K := by
  cases d <;> try (simp [natsOf] at h; done)
  rename_i ds
  simp only [natsOf] at h
  by_cases ha : ds.all (isBelow K) = true
  · rw [if_pos ha] at h
    cases h
    have hd := fun d hd => below_nat (List.all_eq_true.mp ha d hd)
    refine ⟨?_, fun i hi => ?_⟩
    · unfold natsD
      rw [List.map_map]
      congr 1
      conv => lhs; rw [← List.map_id ds]
      refine List.map_congr_left fun d h => ?_
      exact (hd d h).1
    · obtain ⟨d, h1, rfl⟩ := List.mem_map.mp hi
      exact (hd d h1).2
  · rw [if_neg ha] at h; cases h
theorem below_some (K : Nat) (d : D) : below K d = (natsOf K d).isSome := by
  cases d <;> try rfl
  rename_i ds
  simp only [below, natsOf]
  cases ds.all (isBelow K) <;> rfl
def asc (is : List Nat) : Bool := (is.zip is.tail).all fun p => decide (p.1 < p.2)
theorem okw (s : String) (h : PyData.strOk (Str.ofString s) = true) : PyData.strOk (Str.ofString s) = true := h
theorem eqv_str (x y : Str) : PyData.eqv (.str x) (.str y) = decide (x = y) := by
  simp only [PyData.eqv]
  by_cases h : x = y
  · subst h; simp
  · simp [h]
theorem eq_str {x y : Str} (hx : PyData.strOk x = true) (hy : PyData.strOk y = true) {P : Bool → Prop} (h : P (decide (x = y))) : eqW (.str x) (.str y) P := ⟨shaped_str hx, shaped_str hy, by rw [eqv_str]; exact h⟩
theorem ne_str {x y : Str} (hx : PyData.strOk x = true) (hy : PyData.strOk y = true) {P : Bool → Prop} (h : P (!decide (x = y))) : notB (eqW (.str x) (.str y)) P := eq_str (P := fun b => P (!b)) hx hy h
theorem tm_natL {xs : List Nat} (h : ∀ x ∈ xs, x < 1000000000) : Tm 1 (xs.length * 12 + 3) (.list (xs.map nat)) := by
  have q := Tm.list (k := 0) (L := 10) (ds := xs.map nat) fun d hd => by
    obtain ⟨j, hj, rfl⟩ := List.mem_map.mp hd
    exact tm_nat (h j hj)
  rw [List.length_map] at q
  exact q
theorem ne_nilN {xs : List Nat} (h : ∀ x ∈ xs, x < 1000000000) {P : Bool → Prop} (hP : P (!xs.isEmpty)) : notB (eqW (.list (xs.map nat)) (.list [])) P := by
  refine ne_nil (tm_natL h) (by decide) ?_
  have e : (xs.map nat).isEmpty = xs.isEmpty := by cases xs <;> rfl
  rw [e]; exact hP
def diffAt (n : Nat) (a b : Rw) : List Nat := (List.range n).filter fun p => GF.get a p != GF.get b p
theorem forS_indD {g : D → Mi.Env → W Mi.Env} {u : Mi.Env → EndsM → Prop} {E : EndsM} (J : List D → Mi.Env → Prop)
    (hstep : ∀ x rest env, J (x :: rest) env → ∀ F : Mi.Env → Prop, (∀ env2, J rest env2 → F env2) → g x env fun env1 => u env1 { E with nx := F, ct := F, bk := E.nx }) (hdone : ∀ env, J [] env → E.nx env)
    (xs : List D) (env : Mi.Env) (h : J xs env) : forS g u xs env E := by
  have := forS_ind (g := g) (u := u) (E := E) (fun d : D => d) J hstep hdone xs env h
  rwa [List.map_id'] at this
theorem add_int {i j : Int} {P : D → Prop} (h : P (.int (i + j))) : addW (.int i) (.int j) P := h
end KC

set_option linter.all false
set_option maxRecDepth 100000
set_option maxHeartbeats 1000000
namespace GF
/-! ### rows at places -/
def at' (r : Row) (ps : List Nat) : Row := ps.map (get r)
theorem at_len (r : Row) (ps : List Nat) : (at' r ps).length = ps.length := by simp [at']
theorem at_xr {a b : Row} (h : a.length = b.length) : ∀ ps : List Nat, at' (xr a b) ps = xr (at' a ps) (at' b ps)
  | [] => rfl
  | p :: ps => by
    have ih := at_xr h ps
    unfold at' at ih ⊢
    rw [List.map_cons, List.map_cons, List.map_cons, ih, get_xr p h]
    rfl
theorem at_zer (n : Nat) : ∀ ps : List Nat, at' (zer n) ps = zer ps.length
  | [] => rfl
  | p :: ps => by
    have ih := at_zer n ps
    unfold at' at ih ⊢
    rw [List.map_cons, ih, get_zer]
    rfl
theorem at_all {B : List Row} (ps : List Nat) : Len ps.length (B.map fun r => at' r ps) := fun x hx => by
  obtain ⟨r, _, rfl⟩ := List.mem_map.mp hx
  exact at_len r ps
theorem at_mk {n : Nat} (ps : List Nat) : ∀ {B : List Row} {c : Row}, Len n B → at' (mk n B c) ps = mk ps.length (B.map fun r => at' r ps) c
  | [], c, _ => by simp only [mk, List.map_nil]; exact at_zer n ps
  | b :: B, [], _ => by simp only [mk, List.map_cons]; exact at_zer n ps
  | b :: B, x :: c, h => by
    have hB : Len n B := fun y hy => h y (by simp [hy])
    have ih := at_mk ps (c := c) hB
    simp only [mk, List.map_cons]
    cases x
    · simpa using ih
    · simp only [if_true]
      rw [at_xr (by rw [mk_len hB, h b (by simp)]), ih]
def lift (n : Nat) (ps : List Nat) (o : Row) : Row := (List.range n).map fun p => decide (p ∈ ps) && get o (ps.idxOf p)
theorem lift_len (n : Nat) (ps : List Nat) (o : Row) : (lift n ps o).length = n := by simp [lift]
theorem get_lift {n : Nat} {ps : List Nat} {o : Row} (p : Nat) : get (lift n ps o) p = (decide (p < n) && (decide (p ∈ ps) && get o (ps.idxOf p))) := by
  unfold lift
  rw [get_map_range]
theorem at_lift {n : Nat} {ps : List Nat} {o : Row} (nd : ps.Nodup) (hp : ∀ p ∈ ps, p < n) (ho : o.length = ps.length) : at' (lift n ps o) ps = o := by
  show ps.map (get (lift n ps o)) = o
  refine List.ext_getElem (by rw [List.length_map, ho]) fun i h1 h2 => ?_
  have hi : i < ps.length := by rw [List.length_map] at h1; exact h1
  rw [List.getElem_map, get_lift]
  have hm : ps[i] ∈ ps := List.getElem_mem hi
  have e : ps.idxOf ps[i] = i := by
    refine (List.getElem_inj (h₀ := List.idxOf_lt_length_of_mem hm) (h₁ := hi) nd).mp ?_
    exact List.getElem_idxOf (List.idxOf_lt_length_of_mem hm)
  rw [e]
  simp [hp _ hm, hm, get, h2]
theorem fold_at (f : Nat → Bool) : ∀ {ps : List Nat} {o : Row}, ps.Nodup → o.length = ps.length → ps.foldr (fun l acc => xor (f l && get o (ps.idxOf l)) acc) false = dot (ps.map f) o
  | [], [], _, _ => rfl
  | p :: ps, x :: o, nd, h => by
    obtain ⟨n1, n2⟩ := List.nodup_cons.mp nd
    have ih := fold_at f (ps := ps) (o := o) n2 (by simpa using h)
    have cong : ∀ (l : List Nat), (∀ y ∈ l, y ≠ p) → l.foldr (fun l acc => xor (f l && get (x :: o) ((p :: ps).idxOf l)) acc) false = l.foldr (fun l acc => xor (f l && get o (ps.idxOf l)) acc) false := by
      intro l
      induction l with
      | nil => intro _; rfl
      | cons y l ihl =>
        intro hl
        rw [List.foldr_cons, List.foldr_cons, ihl fun z hz => hl z (by simp [hz])]
        have e : (p :: ps).idxOf y = ps.idxOf y + 1 := by
          rw [List.idxOf_cons]
          have : (p == y) = false := by simp; exact fun e => hl y (by simp) e.symm
          rw [this]; rfl
        rw [e, get_cons1]
    rw [List.foldr_cons, cong ps fun y hy e => n1 (by rw [← e]; exact hy), ih, List.map_cons, dot]
    have e0 : (p :: ps).idxOf p = 0 := by simp
    rw [e0, get_cons0]
theorem dot_lift {n : Nat} {ps : List Nat} {b o : Row} (nd : ps.Nodup) (hp : ∀ p ∈ ps, p < n) (ho : o.length = ps.length) (hb : b.length = n) : dot b (lift n ps o) = dot (at' b ps) o := by
  rw [dot_xs hb (lift_len n ps o)]
  have e : ∀ i, i < n → (get b i && get (lift n ps o) i) = ((get b i && get o (ps.idxOf i)) && decide (i ∈ ps)) := fun i hi => by
    rw [get_lift]
    simp only [hi, decide_true, Bool.true_and]
    cases get b i <;> cases get o (ps.idxOf i) <;> cases decide (i ∈ ps) <;> rfl
  rw [xs_congr e, xs_mem (fun i => get b i && get o (ps.idxOf i)) n nd hp]
  exact fold_at (get b) nd ho
end GF

set_option Elab.async false
set_option linter.all false
set_option maxRecDepth 100000
set_option maxHeartbeats 1000000
namespace KC
open PySem PySem.Spec PyProof.Rows L2 Mi

theorem mapW_sub {α : Type} {f : D → (Option D → Prop) → Prop} (e g : α → D) : ∀ (xs : List α) {P : List D → Prop}, (∀ x ∈ xs, ∀ k : Option D → Prop, k (some (g x)) → k none → f (e x) k) → (∀ ys : List α, (∀ y ∈ ys, y ∈ xs) → ys.length ≤ xs.length → P (ys.map g)) → mapW (xs.map e) f P
  | [], P, _, h => h [] (fun _ h => h) (Nat.le_refl _)
  | x :: xs, P, hf, h => by
    refine hf x (by simp) _ ?_ ?_
    · exact mapW_sub e g xs (fun z hz => hf z (by simp [hz])) fun ys hy hl => h (x :: ys) (fun y hy' => by
        rcases List.mem_cons.mp hy' with rfl | q
        · simp
        · simp [hy y q]) (by simp; omega)
    · exact mapW_sub e g xs (fun z hz => hf z (by simp [hz])) fun ys hy hl => h ys (fun y q => by simp [hy y q]) (by simp; omega)
theorem mapW_any {α : Type} {f : D → (Option D → Prop) → Prop} {R : D → Prop} (e : α → D) (xs : List α) {P : List D → Prop} (hf : ∀ x ∈ xs, ∀ k : Option D → Prop, (∀ y, R y → k (some y)) → f (e x) k) (h : ∀ ys : List D, ys.length = xs.length → (∀ y ∈ ys, R y) → P ys) : mapW (xs.map e) f P :=
  mapW_rel (R := fun _ y => R y) e xs hf fun ys hl hys => h ys hl fun y hy => by
    obtain ⟨i, hi⟩ := List.mem_iff_getElem?.mp hy
    have hlt := (List.getElem?_eq_some_iff.mp hi).1
    exact hys i (xs[i]'(by omega)) y (List.getElem?_eq_getElem (by omega)) hi
theorem ne_repr {k L : Nat} {d : D} {P : Bool → Prop} (t : Tr k L d) (hk : k ≤ 60) (hL : L ≤ 16777216) (h : P false) : reprW [d] fun a => reprW [d] fun b => notB (eqW a b) P :=
  t.repr hk hL (t.repr hk hL (ne_same t.ok h))
theorem bits_map : ∀ f : Rw, bitsOf (f.map bit) = some f
  | [] => rfl
  | b :: f => by
    rw [List.map_cons]
    cases b <;> simp [bit, bitsOf, bits_map f]
theorem rowOf_row {n : Nat} {f : Rw} (h : f.length = n) : rowOf n (rowD f) = some f := by
  unfold rowD
  simp only [rowOf]
  rw [if_pos (by rw [List.length_map]; exact h), bits_map]
theorem odd_nil {n : Nat} {B : List Rw} {f : Rw} (h : GF.Len n B) (hf : f ∈ GF.free n (GF.told n B)) : oddAt B f = [] := by
  have hall : ∀ b ∈ B, GF.dot b f = false := fun b hb =>
    (GF.free_iff (GF.told_red h) (h b hb)).mpr ((GF.told_sp h b).mpr (GF.Sp.mem h hb)) f hf
  unfold oddAt
  rw [List.filter_eq_nil_iff.mpr, List.map_nil]
  intro p hp
  have := hall p.1 (List.mem_of_getElem? (List.mem_zipIdx_iff_getElem?.mp hp))
  simp [this]
def Vok (d : D) : Prop := Vd 9999 6 d ∧ M d ≤ 10000
theorem Vok.tr {d : D} (h : Vok d) : Tr 6 10000 d := by
  have q := h.1.tr (by omega)
  exact ⟨q.dep, q.sh, Nat.le_trans q.len h.2, q.ok⟩
theorem Vok.lens {d : D} (h : Vok d) : ∀ w ds, pairOf d = some (w, .tuple ds) → ds.length ≤ 16777216 := fun w ds e => by
  have := pairOf_eq e
  subst this
  have h2 := h.2
  have := MA_len ds
  simp only [M, KC.MA] at h2
  omega

theorem mapW_subl {α : Type} {f : D → (Option D → Prop) → Prop} (e g : α → D) : ∀ (xs : List α) {P : List D → Prop}, (∀ x ∈ xs, ∀ k : Option D → Prop, k (some (g x)) → k none → f (e x) k) → (∀ ys : List α, ys.Sublist xs → P (ys.map g)) → mapW (xs.map e) f P
  | [], P, _, h => h [] (List.Sublist.refl _)
  | x :: xs, P, hf, h => by
    refine hf x (by simp) _ ?_ ?_
    · exact mapW_subl e g xs (fun z hz => hf z (by simp [hz])) fun ys hy => h (x :: ys) (List.Sublist.cons_cons x hy)
    · exact mapW_subl e g xs (fun z hz => hf z (by simp [hz])) fun ys hy => h ys (List.Sublist.cons x hy)
end KC

set_option Elab.async false
set_option linter.all false
set_option maxRecDepth 100000
set_option maxHeartbeats 4000000
namespace K70
open PySem PySem.Spec PyProof.Rows L2 Mi KC
-- marks_at(row, places)
def N_marks_at : List Str := ["row", "places", "place"]
def m_marks_at : MSs := (.cons (.ret (.blt .tuple (.cons (.comp [("place", 2)] (.name 2) (.seq (.var 1)) .yes (.idx (.var 0) (.var 2))) .nil))) .nil)
def F_marks_at : Fm := denF N_marks_at (denSs m_marks_at)
-- seen_at(code, places)
def N_seen_at : List Str := ["code", "places", "row"]
def m_seen_at : MSs := (.cons (.ret (.tup (.cons (.blt .len (.cons (.var 1) .nil)) (.cons (.call "told_rows" 1 F_told_rows (.cons (.comp [("row", 2)] (.name 2) (.seq (.idx (.var 0) (.int 1))) .yes (.call "marks_at" 2 F_marks_at (.cons (.var 2) (.cons (.var 1) .nil)))) .nil)) .nil)))) .nil)
def F_seen_at : Fm := denF N_seen_at (denSs m_seen_at)
-- rank_at(code, places)
def N_rank_at : List Str := ["code", "places"]
def m_rank_at : MSs := (.cons (.ret (.ite (.truth (.var 1)) (.blt .len (.cons (.idx (.call "seen_at" 2 F_seen_at (.cons (.var 0) (.cons (.var 1) .nil))) (.int 1)) .nil)) (.int 0))) .nil)
def F_rank_at : Fm := denF N_rank_at (denSs m_rank_at)
-- marks_paper(code, places, marks)
def N_marks_paper : List Str := ["code", "places", "marks", "lot", "other", "row", "late", "place", "i"]
def m_marks_paper : MSs := (.cons (.ite (.not (.truth (.var 1))) (.cons (.ret (.tup (.cons (.str "row") (.cons (.bin .mul (.tup (.cons (.int 0) .nil)) (.idx (.var 0) (.int 0))) .nil)))) .nil) .nil) (.cons (.set 3 (.val (.call "lot_that_makes" 2 F_lot_that_makes (.cons (.comp [("row", 5)] (.name 5) (.seq (.idx (.var 0) (.int 1))) .yes (.call "marks_at" 2 F_marks_at (.cons (.var 5) (.cons (.var 1) .nil)))) (.cons (.var 2) .nil))))) (.cons (.ite (.cmp .isn (.var 3) .non) (.cons (.ret (.tup (.cons (.str "row") (.cons (.call "sum_of_rows" 2 F_sum_of_rows (.cons (.idx (.var 0) (.int 0)) (.cons (.comp [("i", 8)] (.name 8) (.seq (.var 3)) .yes (.idx (.idx (.var 0) (.int 1)) (.var 8))) .nil))) .nil)))) .nil) .nil) (.cons (.set 4 (.val (.idx (.comp [("late", 6)] (.name 6) (.seq (.call "free_base" 1 F_free_base (.cons (.call "seen_at" 2 F_seen_at (.cons (.var 0) (.cons (.var 1) .nil))) .nil))) (.not (.truth (.call "are_even" 2 F_are_even (.cons (.var 6) (.cons (.var 2) .nil))))) (.var 6)) (.int 0)))) (.cons (.ret (.tup (.cons (.str "none") (.cons (.blt .tuple (.cons (.comp [("place", 7)] (.name 7) (.range1 (.cons (.idx (.var 0) (.int 0)) .nil)) .yes (.ite (.cmp .inn (.var 7) (.var 1)) (.idx (.var 4) (.index (.var 1) (.var 7))) (.int 0))) .nil)) .nil)))) .nil)))))
def F_marks_paper : Fm := denF N_marks_paper (denSs m_marks_paper)
-- judge_marks(code, places, marks, value)
def N_judge_marks : List Str := ["code", "places", "marks", "value", "row", "wrong", "odd", "place", "mark"]
def m_judge_marks : MSs := (.cons (.ite (.bool (.or (.not (.truth (.call "is_worded" 2 F_is_worded (.cons (.var 3) (.cons (.tup (.cons (.str "row") (.cons (.str "none") .nil))) .nil))))) (.or1 (.not (.truth (.call "is_row" 2 F_is_row (.cons (.idx (.var 0) (.int 0)) (.cons (.idx (.var 3) (.int 1)) .nil)))))))) (.cons (.ret (.tup (.cons (.str "form") .nil))) .nil) .nil) (.cons (.set 4 (.val (.idx (.var 3) (.int 1)))) (.cons (.ite (.cmp .eq (.idx (.var 3) (.int 0)) (.str "row")) (.cons (.set 5 (.val (.comp [("place", 7), ("mark", 8)] (.seq (.cons (.name 7) (.cons (.name 8) .nil))) (.zipS (.cons (.var 1) (.cons (.var 2) .nil))) (.cmp .ne (.idx (.var 4) (.var 7)) (.var 8)) (.var 7)))) (.cons (.ite (.truth (.var 5)) (.cons (.ret (.tup (.cons (.str "place") (.cons (.idx (.var 5) (.int 0)) .nil)))) .nil) .nil) (.cons (.ret (.ite (.truth (.call "has_row" 2 F_has_row (.cons (.var 0) (.cons (.var 4) .nil)))) .non (.tup (.cons (.str "out") .nil)))) .nil))) .nil) (.cons (.set 5 (.val (.comp [("place", 7)] (.name 7) (.range1 (.cons (.idx (.var 0) (.int 0)) .nil)) (.bool (.and (.cmp .nin (.var 7) (.var 1)) (.and1 (.cmp .eq (.idx (.var 4) (.var 7)) (.int 1))))) (.var 7)))) (.cons (.ite (.truth (.var 5)) (.cons (.ret (.tup (.cons (.str "place") (.cons (.idx (.var 5) (.int 0)) .nil)))) .nil) .nil) (.cons (.set 6 (.val (.call "first_odd" 2 F_first_odd (.cons (.idx (.var 0) (.int 1)) (.cons (.var 4) .nil))))) (.cons (.ite (.cmp .isn (.var 6) .non) (.cons (.ret (.tup (.cons (.str "base") (.cons (.var 6) .nil)))) .nil) .nil) (.cons (.ret (.ite (.truth (.call "are_even" 2 F_are_even (.cons (.call "marks_at" 2 F_marks_at (.cons (.var 4) (.cons (.var 1) .nil))) (.cons (.var 2) .nil)))) (.tup (.cons (.str "even") .nil)) .non)) .nil))))))))
def F_judge_marks : Fm := denF N_judge_marks (denSs m_judge_marks)
-- marks_count(code, places, marks)
def N_marks_count : List Str := ["code", "places", "marks"]
def m_marks_count : MSs := (.cons (.ite (.cmp .eq (.idx (.call "marks_paper" 3 F_marks_paper (.cons (.var 0) (.cons (.var 1) (.cons (.var 2) .nil)))) (.int 0)) (.str "none")) (.cons (.ret (.int 0)) .nil) .nil) (.cons (.ret (.bin .shl (.int 1) (.bin .sub (.blt .len (.cons (.idx (.var 0) (.int 1)) .nil)) (.call "rank_at" 2 F_rank_at (.cons (.var 0) (.cons (.var 1) .nil)))))) .nil))
def F_marks_count : Fm := denF N_marks_count (denSs m_marks_count)
-- _law_places(source, n)
def N__law_places : List Str := ["source", "n", "found", "p"]
def m__law_places : MSs := (.cons (.set 2 (.val (.blt .tuple (.cons (.comp [("p", 3)] (.name 3) (.range1 (.cons (.var 1) .nil)) (.cmp .eq (.call "_law_pick" 2 F__law_pick (.src 0 (.cons (.int 2) .nil))) (.int 0)) (.var 3)) .nil)))) (.cons (.ret (.ite (.cmp .ne (.var 2) (.tup .nil)) (.var 2) (.tup (.cons (.call "_law_pick" 2 F__law_pick (.src 0 (.cons (.var 1) .nil))) .nil)))) .nil))
def F__law_places : Fm := denF N__law_places (denSs m__law_places)
-- _law_at(row, places)
def N__law_at : List Str := ["row", "places", "p"]
def m__law_at : MSs := (.cons (.ret (.blt .tuple (.cons (.comp [("p", 2)] (.name 2) (.seq (.var 1)) .yes (.idx (.var 0) (.var 2))) .nil))) .nil)
def F__law_at : Fm := denF N__law_at (denSs m__law_at)
-- _law_seen(code, places)
def N__law_seen : List Str := ["code", "places", "row"]
def m__law_seen : MSs := (.cons (.ret (.tup (.cons (.blt .len (.cons (.var 1) .nil)) (.cons (.call "_law_told" 2 F__law_told (.cons (.blt .len (.cons (.var 1) .nil)) (.cons (.comp [("row", 2)] (.name 2) (.seq (.idx (.var 0) (.int 1))) .yes (.call "_law_at" 2 F__law_at (.cons (.var 2) (.cons (.var 1) .nil)))) .nil))) .nil)))) .nil)
def F__law_seen : Fm := denF N__law_seen (denSs m__law_seen)
-- _law_fault(code, places, marks, value)
def N__law_fault : List Str := ["code", "places", "marks", "value", "wrong", "n", "base", "p", "i", "row", "mark"]
def m__law_fault : MSs := (.cons (.asg (.seq (.cons (.name 5) (.cons (.name 6) .nil))) (.var 0)) (.cons (.ite (.bool (.or (.not (.truth (.isi .tuple (.var 3)))) (.or (.cmp .ne (.blt .len (.cons (.var 3) .nil)) (.int 2)) (.or (.not (.truth (.isi .str (.idx (.var 3) (.int 0))))) (.or1 (.cmp .nin (.idx (.var 3) (.int 0)) (.tup (.cons (.str "row") (.cons (.str "none") .nil))))))))) (.cons (.ret (.tup (.cons (.str "form") .nil))) .nil) .nil) (.cons (.ite (.not (.truth (.call "_law_is_row" 2 F__law_is_row (.cons (.var 5) (.cons (.idx (.var 3) (.int 1)) .nil))))) (.cons (.ret (.tup (.cons (.str "form") .nil))) .nil) .nil) (.cons (.ite (.cmp .eq (.idx (.var 3) (.int 0)) (.str "row")) (.cons (.set 4 (.val (.comp [("p", 7), ("mark", 10)] (.seq (.cons (.name 7) (.cons (.name 10) .nil))) (.zip (.cons (.var 1) (.cons (.var 2) .nil))) (.cmp .ne (.idx (.idx (.var 3) (.int 1)) (.var 7)) (.var 10)) (.var 7)))) (.cons (.ret (.ite (.cmp .ne (.var 4) (.lst .nil)) (.tup (.cons (.str "place") (.cons (.idx (.var 4) (.int 0)) .nil))) (.ite (.truth (.call "_law_has" 2 F__law_has (.cons (.var 0) (.cons (.idx (.var 3) (.int 1)) .nil)))) .non (.tup (.cons (.str "out") .nil))))) .nil)) .nil) (.cons (.set 4 (.val (.comp [("p", 7)] (.name 7) (.range1 (.cons (.var 5) .nil)) (.bool (.and (.cmp .nin (.var 7) (.var 1)) (.and1 (.cmp .eq (.idx (.idx (.var 3) (.int 1)) (.var 7)) (.int 1))))) (.var 7)))) (.cons (.ite (.cmp .ne (.var 4) (.lst .nil)) (.cons (.ret (.tup (.cons (.str "place") (.cons (.idx (.var 4) (.int 0)) .nil)))) .nil) .nil) (.cons (.set 4 (.val (.comp [("i", 8), ("row", 9)] (.seq (.cons (.name 8) (.cons (.name 9) .nil))) (.enum (.cons (.var 6) .nil)) (.truth (.call "_law_is_odd" 2 F__law_is_odd (.cons (.var 9) (.cons (.idx (.var 3) (.int 1)) .nil)))) (.var 8)))) (.cons (.ite (.cmp .ne (.var 4) (.lst .nil)) (.cons (.ret (.tup (.cons (.str "base") (.cons (.idx (.var 4) (.int 0)) .nil)))) .nil) .nil) (.cons (.ret (.ite (.cmp .eq (.bin .mod (.blt .int (.cons (.blt .sum (.cons (.comp [("p", 7), ("mark", 10)] (.seq (.cons (.name 7) (.cons (.name 10) .nil))) (.zip (.cons (.var 1) (.cons (.var 2) .nil))) .yes (.bin .mul (.idx (.idx (.var 3) (.int 1)) (.var 7)) (.var 10))) .nil)) .nil)) (.int 2)) (.int 1)) .non (.tup (.cons (.str "even") .nil)))) .nil)))))))))
def F__law_fault : Fm := denF N__law_fault (denSs m__law_fault)
-- law(script)
def N_law : List Str := ["script", "source", "lap", "code", "told", "places", "marks", "seen", "is_there", "due", "turn", "own", "values", "value", "n", "kept", "some", "shown"]
def m_law : MSs := (.cons (.for' (.name 2) (.range1 (.cons (.int 5) .nil)) (.cons (.set 3 (.val (.call "_law_code" 2 F__law_code (.src 1 (.cons (.idx (.lst (.cons (.int 4) (.cons (.int 8) (.cons (.int 16) (.cons (.int 12) (.cons (.int 16) .nil)))))) (.var 2)) .nil))))) (.cons (.par3 14 15 16 (.val (.idx (.var 3) (.int 0))) (.val (.blt .repr (.cons (.var 3) .nil))) (.val (.call "_law_some_row" 2 F__law_some_row (.src 1 (.cons (.var 3) .nil))))) (.cons (.set 5 (.val (.ite (.cmp .eq (.call "_law_pick" 2 F__law_pick (.src 1 (.cons (.int 9) .nil))) (.int 0)) (.tup .nil) (.call "_law_places" 2 F__law_places (.src 1 (.cons (.var 14) .nil)))))) (.cons (.set 6 (.val (.call "_law_at" 2 F__law_at (.cons (.ite (.cmp .eq (.call "_law_pick" 2 F__law_pick (.src 1 (.cons (.int 2) .nil))) (.int 0)) (.var 16) (.call "_law_row" 2 F__law_row (.src 1 (.cons (.var 14) .nil)))) (.cons (.var 5) .nil))))) (.cons (.set 7 (.val (.ite (.cmp .ne (.var 5) (.tup .nil)) (.call "_law_seen" 2 F__law_seen (.cons (.var 3) (.cons (.var 5) .nil))) (.tup (.cons (.int 0) (.cons (.tup .nil) .nil)))))) (.cons (.set 8 (.val (.or (.cmp .eq (.var 5) (.tup .nil)) (.one (.call "_law_has" 2 F__law_has (.cons (.var 7) (.cons (.var 6) .nil))))))) (.cons (.set 4 (.val (.call "marks_paper" 3 F_marks_paper (.cons (.var 3) (.cons (.var 5) (.cons (.var 6) .nil)))))) (.cons (.ite (.bool (.or (.cmp .isn (.call "_law_fault" 4 F__law_fault (.cons (.var 3) (.cons (.var 5) (.cons (.var 6) (.cons (.var 4) .nil))))) .non) (.or1 (.cmp .ne (.idx (.var 4) (.int 0)) (.idx (.lst (.cons (.str "none") (.cons (.str "row") .nil))) (.blt .int (.cons (.var 8) .nil))))))) (.cons (.ret (.bl false)) .nil) .nil) (.cons (.set 9 (.val (.int 1))) (.cons (.for' (.name 10) (.range1 (.cons (.bin .sub (.blt .len (.cons (.idx (.var 3) (.int 1)) .nil)) (.blt .len (.cons (.idx (.var 7) (.int 1)) .nil))) .nil)) (.cons (.set 9 (.val (.bin .mul (.var 9) (.int 2)))) .nil)) (.cons (.ite (.bool (.or (.cmp .ne (.blt .repr (.cons (.call "marks_count" 3 F_marks_count (.cons (.var 3) (.cons (.var 5) (.cons (.var 6) .nil)))) .nil)) (.blt .repr (.cons (.ite (.truth (.var 8)) (.var 9) (.int 0)) .nil))) (.or1 (.cmp .ne (.blt .repr (.cons (.call "marks_paper" 3 F_marks_paper (.cons (.var 3) (.cons (.var 5) (.cons (.var 6) .nil)))) .nil)) (.blt .repr (.cons (.var 4) .nil)))))) (.cons (.ret (.bl false)) .nil) .nil) (.cons (.set 11 (.val (.lst (.cons (.var 4) (.cons (.tup (.cons (.str "row") (.cons (.var 16) .nil))) (.cons (.tup (.cons (.str "none") (.cons (.call "_law_some_row" 2 F__law_some_row (.src 1 (.cons (.call "_law_other" 1 F__law_other (.cons (.var 3) .nil)) .nil))) .nil))) (.cons (.tup (.cons (.str "none") (.cons (.call "_law_row" 2 F__law_row (.src 1 (.cons (.var 14) .nil))) .nil))) (.cons (.tup (.cons (.str "row") (.cons (.call "_law_row" 2 F__law_row (.src 1 (.cons (.var 14) .nil))) .nil))) .nil)))))))) (.cons (.set 12 (.val (.bin .add (.bin .add (.var 11) (.comp [("turn", 10)] (.name 10) (.range1 (.cons (.int 8) .nil)) .yes (.call "_law_bent" 2 F__law_bent (.src 1 (.cons (.call "_law_of" 2 F__law_of (.src 1 (.cons (.bin .add (.var 11) (.bin .mul (.lst (.cons (.var 4) .nil)) (.int 4))) .nil))) .nil))))) (.lst (.cons .non (.cons (.tup .nil) (.cons (.idx (.var 4) (.int 1)) (.cons (.str "row") (.cons (.blt .list (.cons (.var 4) .nil)) .nil))))))))) (.cons (.for' (.name 13) (.seq (.bin .add (.var 12) (.lst (.cons (.call "_law_bent" 2 F__law_bent (.src 1 (.cons (.call "_law_bent" 2 F__law_bent (.src 1 (.cons (.var 4) .nil))) .nil))) .nil)))) (.cons (.set 17 (.val (.blt .repr (.cons (.var 13) .nil)))) (.cons (.ite (.bool (.or (.cmp .ne (.blt .repr (.cons (.call "judge_marks" 4 F_judge_marks (.cons (.var 3) (.cons (.var 5) (.cons (.var 6) (.cons (.var 13) .nil))))) .nil)) (.blt .repr (.cons (.call "_law_fault" 4 F__law_fault (.cons (.var 3) (.cons (.var 5) (.cons (.var 6) (.cons (.var 13) .nil))))) .nil))) (.or1 (.cmp .ne (.blt .repr (.cons (.var 13) .nil)) (.var 17))))) (.cons (.ret (.bl false)) .nil) .nil) .nil))) (.cons (.ite (.cmp .ne (.blt .repr (.cons (.var 3) .nil)) (.var 15)) (.cons (.ret (.bl false)) .nil) .nil) .nil)))))))))))))))) (.cons (.set 3 (.val (.tup (.cons (.int 4) (.cons (.tup (.cons (.tup (.cons (.int 1) (.cons (.int 1) (.cons (.int 0) (.cons (.int 0) .nil))))) (.cons (.tup (.cons (.int 0) (.cons (.int 1) (.cons (.int 1) (.cons (.int 0) .nil))))) .nil))) .nil))))) (.cons (.set 4 (.val (.lst (.cons (.call "marks_count" 3 F_marks_count (.cons (.var 3) (.cons (.tup (.cons (.int 0) (.cons (.int 1) .nil))) (.cons (.tup (.cons (.int 1) (.cons (.int 1) .nil))) .nil)))) (.cons (.call "marks_count" 3 F_marks_count (.cons (.var 3) (.cons (.tup (.cons (.int 3) .nil)) (.cons (.tup (.cons (.int 1) .nil)) .nil)))) (.cons (.call "judge_marks" 4 F_judge_marks (.cons (.var 3) (.cons (.tup (.cons (.int 3) .nil)) (.cons (.tup (.cons (.int 1) .nil)) (.cons (.tup (.cons (.str "none") (.cons (.tup (.cons (.int 0) (.cons (.int 0) (.cons (.int 0) (.cons (.int 1) .nil))))) .nil))) .nil))))) .nil)))))) (.cons (.ret (.cmp .eq (.blt .repr (.cons (.var 4) .nil)) (.blt .repr (.cons (.lst (.cons (.int 1) (.cons (.int 0) (.cons .non .nil)))) .nil)))) .nil))))
end K70

set_option Elab.async false
set_option linter.all false
set_option maxRecDepth 100000
set_option maxHeartbeats 1000000
namespace K70
open PySem PySem.Spec PyProof.Rows L2 Mi KC

theorem ite_go {t : W Bool} {u v : W D} {P : D → Prop} (h : t fun k => if k = true then u P else v P) : iteW t u v P := h
theorem l_marks_at {r : Rw} {ps : List Nat} (hp : ∀ p ∈ ps, p < r.length) {P : D → Prop} (hP : P (rowD (GF.at' r ps))) : F_marks_at [.v (rowD r), .v (natsD ps)] P := by
  unfold F_marks_at N_marks_at m_marks_at
  (simp only [denF, startE, denSs, denS, seqS, denX, denE, denT, denW, denA, denC, denG, denGs, denI, denO, Bop.w, Cop.w, Bl.w, compF, bodyW, wipeE, setW, gSeqW, gConsW, gNilW, lenGs, enumW, itemsW, zipW, List.length_cons, List.length_nil, List.replicate, List.append, List.cons_append, List.nil_append, List.map_cons, List.map_nil, List.set, List.getElem?_cons_zero, List.getElem?_cons_succ, Option.some.injEq, Slot.v.injEq, Slot.own.injEq, exists_eq_left', true_and, and_true, reduceCtorEq, false_or, or_false, if_true, if_false, Bool.false_eq_true])
  show mapW (ps.map nat) _ _
  refine mapW_all (α := Nat) nat (fun p => bit (GF.get r p)) _ (fun p hq k hk => ?_) ?_
  · (simp only [denF, startE, denSs, denS, seqS, denX, denE, denT, denW, denA, denC, denG, denGs, denI, denO, Bop.w, Cop.w, Bl.w, compF, bodyW, wipeE, setW, gSeqW, gConsW, gNilW, lenGs, enumW, itemsW, zipW, List.length_cons, List.length_nil, List.replicate, List.append, List.cons_append, List.nil_append, List.map_cons, List.map_nil, List.set, List.getElem?_cons_zero, List.getElem?_cons_succ, Option.some.injEq, Slot.v.injEq, Slot.own.injEq, exists_eq_left', true_and, and_true, reduceCtorEq, false_or, or_false, if_true, if_false, Bool.false_eq_true])
    exact idx_row (hp p hq) hk
  · have e : ps.map (fun p => bit (GF.get r p)) = (GF.at' r ps).map bit := by unfold GF.at'; rw [List.map_map]; rfl
    rw [e]; exact hP
theorem l_law_at {r : Rw} {ps : List Nat} (hp : ∀ p ∈ ps, p < r.length) {P : D → Prop} (hP : P (rowD (GF.at' r ps))) : F__law_at [.v (rowD r), .v (natsD ps)] P := by
  unfold F__law_at N__law_at m__law_at
  (simp only [denF, startE, denSs, denS, seqS, denX, denE, denT, denW, denA, denC, denG, denGs, denI, denO, Bop.w, Cop.w, Bl.w, compF, bodyW, wipeE, setW, gSeqW, gConsW, gNilW, lenGs, enumW, itemsW, zipW, List.length_cons, List.length_nil, List.replicate, List.append, List.cons_append, List.nil_append, List.map_cons, List.map_nil, List.set, List.getElem?_cons_zero, List.getElem?_cons_succ, Option.some.injEq, Slot.v.injEq, Slot.own.injEq, exists_eq_left', true_and, and_true, reduceCtorEq, false_or, or_false, if_true, if_false, Bool.false_eq_true])
  show mapW (ps.map nat) _ _
  refine mapW_all (α := Nat) nat (fun p => bit (GF.get r p)) _ (fun p hq k hk => ?_) ?_
  · (simp only [denF, startE, denSs, denS, seqS, denX, denE, denT, denW, denA, denC, denG, denGs, denI, denO, Bop.w, Cop.w, Bl.w, compF, bodyW, wipeE, setW, gSeqW, gConsW, gNilW, lenGs, enumW, itemsW, zipW, List.length_cons, List.length_nil, List.replicate, List.append, List.cons_append, List.nil_append, List.map_cons, List.map_nil, List.set, List.getElem?_cons_zero, List.getElem?_cons_succ, Option.some.injEq, Slot.v.injEq, Slot.own.injEq, exists_eq_left', true_and, and_true, reduceCtorEq, false_or, or_false, if_true, if_false, Bool.false_eq_true])
    exact idx_row (hp p hq) hk
  · have e : ps.map (fun p => bit (GF.get r p)) = (GF.at' r ps).map bit := by unfold GF.at'; rw [List.map_map]; rfl
    rw [e]; exact hP
abbrev S (B : List Rw) (ps : List Nat) : List Rw := B.map fun r => GF.at' r ps
abbrev T (B : List Rw) (ps : List Nat) : List Rw := GF.told ps.length (S B ps)
theorem map_S (B : List Rw) (ps : List Nat) : B.map (fun r => rowD (GF.at' r ps)) = (S B ps).map rowD := by rw [List.map_map]; rfl
theorem l_seen_at {n : Nat} {B : List Rw} {ps : List Nat} (h : GF.Len n B) (hs : B.length ≤ 1000) (h1 : 1 ≤ ps.length) (hp : ∀ p ∈ ps, p < n) {P : D → Prop} (hP : P (codeD ps.length (T B ps))) : F_seen_at [.v (codeD n B), .v (natsD ps)] P := by
  unfold F_seen_at N_seen_at m_seen_at
  (simp only [denF, startE, denSs, denS, seqS, denX, denE, denT, denW, denA, denC, denG, denGs, denI, denO, Bop.w, Cop.w, Bl.w, compF, bodyW, wipeE, setW, gSeqW, gConsW, gNilW, lenGs, enumW, itemsW, zipW, List.length_cons, List.length_nil, List.replicate, List.append, List.cons_append, List.nil_append, List.map_cons, List.map_nil, List.set, List.getElem?_cons_zero, List.getElem?_cons_succ, Option.some.injEq, Slot.v.injEq, Slot.own.injEq, exists_eq_left', true_and, and_true, reduceCtorEq, false_or, or_false, if_true, if_false, Bool.false_eq_true])
  show idxW (codeD n B) (.int 1) _
  refine code_1 ?_
  refine mapW_all (α := Rw) rowD (fun r => rowD (GF.at' r ps)) B (fun r hr k hk => ?_) ?_
  · (simp only [denF, startE, denSs, denS, seqS, denX, denE, denT, denW, denA, denC, denG, denGs, denI, denO, Bop.w, Cop.w, Bl.w, compF, bodyW, wipeE, setW, gSeqW, gConsW, gNilW, lenGs, enumW, itemsW, zipW, List.length_cons, List.length_nil, List.replicate, List.append, List.cons_append, List.nil_append, List.map_cons, List.map_nil, List.set, List.getElem?_cons_zero, List.getElem?_cons_succ, Option.some.injEq, Slot.v.injEq, Slot.own.injEq, exists_eq_left', true_and, and_true, reduceCtorEq, false_or, or_false, if_true, if_false, Bool.false_eq_true])
    exact l_marks_at (fun p hq => by rw [h r hr]; exact hp p hq) hk
  · rw [map_S]
    refine l_told_rows (.inl rfl) h1 (GF.at_all ps) (by simpa using hs) ⟨by decide, ?_⟩
    rw [List.length_map]
    exact hP
theorem l_law_seen {n : Nat} {B : List Rw} {ps : List Nat} (h : GF.Len n B) (hs : B.length ≤ 1000) (h1 : ps.length ≤ 1000) (hp : ∀ p ∈ ps, p < n) {P : D → Prop} (hP : P (codeD ps.length (T B ps))) : F__law_seen [.v (codeD n B), .v (natsD ps)] P := by
  unfold F__law_seen N__law_seen m__law_seen
  (simp only [denF, startE, denSs, denS, seqS, denX, denE, denT, denW, denA, denC, denG, denGs, denI, denO, Bop.w, Cop.w, Bl.w, compF, bodyW, wipeE, setW, gSeqW, gConsW, gNilW, lenGs, enumW, itemsW, zipW, List.length_cons, List.length_nil, List.replicate, List.append, List.cons_append, List.nil_append, List.map_cons, List.map_nil, List.set, List.getElem?_cons_zero, List.getElem?_cons_succ, Option.some.injEq, Slot.v.injEq, Slot.own.injEq, exists_eq_left', true_and, and_true, reduceCtorEq, false_or, or_false, if_true, if_false, Bool.false_eq_true])
  show idxW (codeD n B) (.int 1) _
  refine code_1 ?_
  refine mapW_all (α := Rw) rowD (fun r => rowD (GF.at' r ps)) B (fun r hr k hk => ?_) ?_
  · (simp only [denF, startE, denSs, denS, seqS, denX, denE, denT, denW, denA, denC, denG, denGs, denI, denO, Bop.w, Cop.w, Bl.w, compF, bodyW, wipeE, setW, gSeqW, gConsW, gNilW, lenGs, enumW, itemsW, zipW, List.length_cons, List.length_nil, List.replicate, List.append, List.cons_append, List.nil_append, List.map_cons, List.map_nil, List.set, List.getElem?_cons_zero, List.getElem?_cons_succ, Option.some.injEq, Slot.v.injEq, Slot.own.injEq, exists_eq_left', true_and, and_true, reduceCtorEq, false_or, or_false, if_true, if_false, Bool.false_eq_true])
    exact l_law_at (fun p hq => by rw [h r hr]; exact hp p hq) hk
  · rw [map_S, List.length_map]
    exact l_told (.inl rfl) h1 (GF.at_all ps) (by simpa using hs) ⟨by decide, hP⟩
theorem rank0 (X : List Rw) : GF.rank 0 X = 0 := rfl
theorem l_rank_at {n : Nat} {B : List Rw} {ps : List Nat} (h : GF.Len n B) (hs : B.length ≤ 1000) (hp : ∀ p ∈ ps, p < n) {P : D → Prop} (hP : P (.int (GF.rank ps.length (S B ps) : Nat))) : F_rank_at [.v (codeD n B), .v (natsD ps)] P := by
  unfold F_rank_at N_rank_at m_rank_at
  (simp only [denF, startE, denSs, denS, seqS, denX, denE, denT, denW, denA, denC, denG, denGs, denI, denO, Bop.w, Cop.w, Bl.w, compF, bodyW, wipeE, setW, gSeqW, gConsW, gNilW, lenGs, enumW, itemsW, zipW, List.length_cons, List.length_nil, List.replicate, List.append, List.cons_append, List.nil_append, List.map_cons, List.map_nil, List.set, List.getElem?_cons_zero, List.getElem?_cons_succ, Option.some.injEq, Slot.v.injEq, Slot.own.injEq, exists_eq_left', true_and, and_true, reduceCtorEq, false_or, or_false, if_true, if_false, Bool.false_eq_true])
  show if (!(ps.map nat).isEmpty) = true then _ else _
  cases ps with
  | nil => exact hP
  | cons p r =>
    refine l_seen_at h hs (by simp) hp (code_1 ?_)
    show P (.int (((T B (p :: r)).map rowD).length : Nat))
    rw [List.length_map]
    exact hP
/-! ### the paper -/
def outs (B : List Rw) (ps : List Nat) (mk : Rw) : List Rw := (GF.free ps.length (GF.told ps.length (T B ps))).filter fun f => GF.dot f mk
def paper (n : Nat) (B : List Rw) (ps : List Nat) (mk : Rw) : D := match ps with
  | [] => .tuple [.str "row", rowD (GF.zer n)]
  | _ :: _ => match GF.lot (S B ps) mk with
    | some c => .tuple [.str "row", rowD (GF.mk n B c)]
    | none => .tuple [.str "none", rowD (GF.lift n ps ((outs B ps mk).getD 0 []))]
theorem outs_ne {B : List Rw} {ps : List Nat} {mk : Rw} (hr : mk.length = ps.length) (hl : GF.lot (S B ps) mk = none) : ∃ f r, outs B ps mk = f :: r ∧ f ∈ GF.free ps.length (T B ps) ∧ GF.dot f mk = true := by
  have hS : GF.Len ps.length (S B ps) := GF.at_all ps
  have hno : ¬ GF.Sp ps.length (S B ps) mk := fun h2 => by
    obtain ⟨c, e⟩ := GF.lot_ex hS hr h2
    rw [hl] at e; cases e
  have eT : GF.told ps.length (T B ps) = T B ps := GF.told_told hS
  have e0 : outs B ps mk = (GF.free ps.length (T B ps)).filter fun f => GF.dot f mk := by unfold outs; rw [eT]
  cases z : outs B ps mk with
  | cons f r =>
    have : f ∈ outs B ps mk := by rw [z]; simp
    rw [e0] at this
    have := List.mem_filter.mp this
    exact ⟨f, r, rfl, this.1, this.2⟩
  | nil =>
    refine absurd ?_ hno
    rw [← GF.told_sp hS mk, ← GF.free_iff (GF.told_red hS) hr]
    intro f hf
    rw [e0] at z
    have := List.filter_eq_nil_iff.mp z f hf
    rw [GF.dot_comm]
    simpa using this
theorem index_nats {ps : List Nat} {p : Nat} (h : p ∈ ps) {P : D → Prop} (hP : P (.int (ps.idxOf p : Nat))) : indexW (natsD ps) (nat p) P := by
  refine ⟨ps.map fun p => ((p : Nat) : Int), (p : Nat), .inr (by unfold natsD; rw [List.map_map]; rfl), rfl, List.mem_map.mpr ⟨p, h, rfl⟩, ?_⟩
  have e : (ps.map fun p => ((p : Nat) : Int)).idxOf ((p : Nat) : Int) = ps.idxOf p := by
    clear h hP
    induction ps with
    | nil => rfl
    | cons q ps ih =>
      rw [List.map_cons, List.idxOf_cons, List.idxOf_cons, ih]
      have : (((q : Nat) : Int) == ((p : Nat) : Int)) = (q == p) := by rw [Bool.eq_iff_iff, beq_iff_eq, beq_iff_eq]; omega
      rw [this]
  rw [e]; exact hP
theorem lots_lt {K : Nat} {c : Rw} (hc : c.length = K) : ∀ i ∈ GF.ones c, i < K := fun i hi => by
  have := GF.mem_ones.mp hi
  have q : i < c.length := Nat.lt_of_not_le fun q => by rw [GF.get_out q] at this; cases this
  omega
theorem l_paper {n : Nat} {B : List Rw} {ps : List Nat} {mk : Rw} (hn : 1 ≤ n) (hn2 : n ≤ 1000) (h : GF.Len n B) (hs : B.length ≤ 900) (hp : ∀ p ∈ ps, p < n) (hl : ps.length ≤ 1000) (hr : mk.length = ps.length) {P : D → Prop} (hP : P (paper n B ps mk)) :
    F_marks_paper [.v (codeD n B), .v (natsD ps), .v (rowD mk)] P := by
  unfold F_marks_paper N_marks_paper m_marks_paper
  (simp only [denF, startE, denSs, denS, seqS, denX, denE, denT, denW, denA, denC, denG, denGs, denI, denO, Bop.w, Cop.w, Bl.w, compF, bodyW, wipeE, setW, gSeqW, gConsW, gNilW, lenGs, enumW, itemsW, zipW, List.length_cons, List.length_nil, List.replicate, List.append, List.cons_append, List.nil_append, List.map_cons, List.map_nil, List.set, List.getElem?_cons_zero, List.getElem?_cons_succ, Option.some.injEq, Slot.v.injEq, Slot.own.injEq, exists_eq_left', true_and, and_true, reduceCtorEq, false_or, or_false, if_true, if_false, Bool.false_eq_true])
  have hS : GF.Len ps.length (S B ps) := GF.at_all ps
  show if (!(!(ps.map nat).isEmpty)) = true then _ else _
  cases hps : ps with
  | nil =>
    subst hps
    simp only [List.map_nil, List.isEmpty_nil, Bool.not_true, Bool.not_false, if_true]
    exact ⟨by decide, code_0 (zeros hn hn2 ⟨by decide, hP⟩)⟩
  | cons p0 ps0 =>
    rw [← hps]
    have he : ((ps.map nat).isEmpty) = false := by rw [hps]; rfl
    have h1 : 1 ≤ ps.length := by rw [hps]; simp
    rw [he]
    simp only [Bool.not_false, Bool.not_true, Bool.false_eq_true, if_false]
    refine code_1 ?_
    refine mapW_all (α := Rw) rowD (fun r => rowD (GF.at' r ps)) B (fun r hr k hk => ?_) ?_
    · (simp only [denF, startE, denSs, denS, seqS, denX, denE, denT, denW, denA, denC, denG, denGs, denI, denO, Bop.w, Cop.w, Bl.w, compF, bodyW, wipeE, setW, gSeqW, gConsW, gNilW, lenGs, enumW, itemsW, zipW, List.length_cons, List.length_nil, List.replicate, List.append, List.cons_append, List.nil_append, List.map_cons, List.map_nil, List.set, List.getElem?_cons_zero, List.getElem?_cons_succ, Option.some.injEq, Slot.v.injEq, Slot.own.injEq, exists_eq_left', true_and, and_true, reduceCtorEq, false_or, or_false, if_true, if_false, Bool.false_eq_true])
      exact l_marks_at (fun p hq => by rw [h r hr]; exact hp p hq) hk
    · rw [map_S]
      refine l_lot (.inl rfl) hS (by simpa using (by omega : B.length ≤ 1000)) hr ?_
      have hP' : P (match GF.lot (S B ps) mk with
        | some c => .tuple [.str "row", rowD (GF.mk n B c)]
        | none => .tuple [.str "none", rowD (GF.lift n ps ((outs B ps mk).getD 0 []))]) := by
        unfold paper at hP
        rw [hps] at hP ⊢
        exact hP
      cases hlot : GF.lot (S B ps) mk with
      | some c =>
        rw [hlot] at hP'
        obtain ⟨hc, _⟩ := GF.lot_some hS hr hlot
        have hc' : c.length = B.length := by simpa using hc
        have hlt := lots_lt hc'
        show idxW (codeD n B) (.int 0) _
        refine code_0 ?_
        show mapW ((GF.ones c).map nat) _ _
        refine mapW_all (α := Nat) nat (fun i => rowD (B.getD i [])) _ (fun i hi k hk => ?_) ?_
        · have hib := hlt i hi
          have hB : B[i]? = some B[i] := List.getElem?_eq_getElem hib
          have e0 : B.getD i [] = B[i] := by simp [List.getD, hB]
          rw [e0] at hk
          (simp only [denF, startE, denSs, denS, seqS, denX, denE, denT, denW, denA, denC, denG, denGs, denI, denO, Bop.w, Cop.w, Bl.w, compF, bodyW, wipeE, setW, gSeqW, gConsW, gNilW, lenGs, enumW, itemsW, zipW, List.length_cons, List.length_nil, List.replicate, List.append, List.cons_append, List.nil_append, List.map_cons, List.map_nil, List.set, List.getElem?_cons_zero, List.getElem?_cons_succ, Option.some.injEq, Slot.v.injEq, Slot.own.injEq, exists_eq_left', true_and, and_true, reduceCtorEq, false_or, or_false, if_true, if_false, Bool.false_eq_true])
          refine code_1 (idx_tuple (by rw [List.getElem?_map, hB]; rfl) hk)
        · have e1 : (GF.ones c).map (fun i => rowD (B.getD i [])) = ((GF.ones c).map fun i => B.getD i []).map rowD := by rw [List.map_map]; rfl
          rw [e1]
          have hLen : GF.Len n ((GF.ones c).map fun i => B.getD i []) := fun x hx => by
            obtain ⟨i, hi, rfl⟩ := List.mem_map.mp hx
            have e0 : B.getD i [] = B[i]'(hlt i hi) := by simp [List.getD, hlt i hi]
            rw [e0]; exact h _ (List.getElem_mem _)
          refine l_sum_of_rows (.inl rfl) hn hn2 hLen ⟨by decide, ?_⟩
          rw [GF.sum_ones h hc']
          exact hP'
      | none =>
        rw [hlot] at hP'
        show F_seen_at _ _
        refine l_seen_at h (by omega) h1 hp ?_
        have hT := (GF.told_red hS).len
        have hTl : (T B ps).length ≤ 1000 := by
          have := GF.told_len hS
          have e : (S B ps).length = B.length := by simp
          unfold T
          omega
        refine l_free_base h1 hl hT hTl ?_
        obtain ⟨f, r, e, hf, _⟩ := outs_ne hr hlot
        refine mapW_of (α := Rw) rowD (fun f => if GF.dot f mk then some (rowD f) else none) _ (fun f hf k hk => ?_) ?_
        · (simp only [denF, startE, denSs, denS, seqS, denX, denE, denT, denW, denA, denC, denG, denGs, denI, denO, Bop.w, Cop.w, Bl.w, compF, bodyW, wipeE, setW, gSeqW, gConsW, gNilW, lenGs, enumW, itemsW, zipW, List.length_cons, List.length_nil, List.replicate, List.append, List.cons_append, List.nil_append, List.map_cons, List.map_nil, List.set, List.getElem?_cons_zero, List.getElem?_cons_succ, Option.some.injEq, Slot.v.injEq, Slot.own.injEq, exists_eq_left', true_and, and_true, reduceCtorEq, false_or, or_false, if_true, if_false, Bool.false_eq_true])
          refine l_are_even (by rw [hr, GF.free_len _ _ f hf]) ?_
          show if (!(!GF.dot f mk)) = true then _ else _
          rw [Bool.not_not]
          cases z : GF.dot f mk <;> rw [z] at hk <;> exact hk
        · rw [fm_if]
          have eo : (GF.free ps.length (GF.told ps.length (T B ps))).filter (fun f => GF.dot f mk) = outs B ps mk := rfl
          rw [eo]
          have hfl : f.length = ps.length := GF.free_len _ _ f hf
          have e0 : (outs B ps mk).getD 0 [] = f := by rw [e]; rfl
          rw [e0] at hP'
          refine idx_list (i := 0) (d := rowD f) (by rw [e]; rfl) ?_
          refine code_0 ⟨⟨by omega, by omega⟩, ?_⟩
          rw [Int.toNat_natCast, rangeD0]
          refine mapW_all (α := Nat) (fun i => .int (i : Nat)) (fun p => bit (decide (p ∈ ps) && GF.get f (ps.idxOf p))) _ (fun p hq k hk => ?_) ?_
          · (simp only [denF, startE, denSs, denS, seqS, denX, denE, denT, denW, denA, denC, denG, denGs, denI, denO, Bop.w, Cop.w, Bl.w, compF, bodyW, wipeE, setW, gSeqW, gConsW, gNilW, lenGs, enumW, itemsW, zipW, List.length_cons, List.length_nil, List.replicate, List.append, List.cons_append, List.nil_append, List.map_cons, List.map_nil, List.set, List.getElem?_cons_zero, List.getElem?_cons_succ, Option.some.injEq, Slot.v.injEq, Slot.own.injEq, exists_eq_left', true_and, and_true, reduceCtorEq, false_or, or_false, if_true, if_false, Bool.false_eq_true])
            refine ite_go ?_
            refine in_nats (j := p) (fun x hx => by have := hp x hx; omega) ?_
            by_cases hm : p ∈ ps
            · simp only [hm, decide_true, Bool.true_and] at hk
              simp only [hm, decide_true, if_true]
              refine ⟨trivial, index_nats hm ?_⟩
              exact idx_row (by rw [hfl]; exact List.idxOf_lt_length_of_mem hm) hk
            · simp only [hm, decide_false, Bool.false_and] at hk
              simp only [hm, decide_false, Bool.false_eq_true, if_false]
              exact hk
          · have e2 : (List.range n).map (fun p => bit (decide (p ∈ ps) && GF.get f (ps.idxOf p))) = (GF.lift n ps f).map bit := by unfold GF.lift; rw [List.map_map]; rfl
            rw [e2]
            exact ⟨by decide, hP'⟩

/-! ### judged -/
def rowBad (ps : List Nat) (mk r : Rw) : List Nat := ((ps.zip mk).filter fun p => GF.get r p.1 != p.2).map (·.1)
def noneBad (n : Nat) (ps : List Nat) (r : Rw) : List Nat := (List.range n).filter fun p => !decide (p ∈ ps) && GF.get r p
def inSp (n : Nat) (B : List Rw) (r : Rw) : Bool := (GF.free n (GF.told n B)).all fun f => !GF.dot r f
def valJ (n : Nat) (B : List Rw) (ps : List Nat) (mk : Rw) (w : Str) (r : Rw) : D :=
  if w = Str.ofString "row" then firstW "place" (rowBad ps mk r) (if inSp n B r then .none else w1 "out")
  else firstW "place" (noneBad n ps r) (firstW "base" (oddAt B r) (if GF.dot (GF.at' r ps) mk then .none else w1 "even"))
def wds : List Str := [Str.ofString "row", Str.ofString "none"]
def judge (n : Nat) (B : List Rw) (ps : List Nat) (mk : Rw) (d : D) : D := match pairOf d with
  | some (w, v) => if w ∈ wds then (match rowOf n v with
    | some r => valJ n B ps mk w r
    | none => w1 "form") else w1 "form"
  | none => w1 "form"
theorem pairs_nb (ps : List Nat) (mk : Rw) : pairs (ps.map nat) (mk.map bit) = (ps.zip mk).map fun p => PyData.tuple [nat p.1, bit p.2] := by
  simp [pairs, List.zip_map]
theorem ps_lt {n : Nat} {ps : List Nat} (hn2 : n ≤ 1000) (hp : ∀ p ∈ ps, p < n) : ∀ x ∈ ps, x < 1000000000 := fun x hx => by have := hp x hx; omega
theorem bad_map (ps : List Nat) (mk r : Rw) : ((ps.zip mk).filter fun p => GF.get r p.1 != p.2).map (fun p => nat p.1) = (rowBad ps mk r).map nat := by unfold rowBad; rw [List.map_map]; rfl
theorem bad_lt {n : Nat} {ps : List Nat} {mk r : Rw} (hp : ∀ p ∈ ps, p < n) : ∀ x ∈ rowBad ps mk r, x < n := fun x hx => by
  obtain ⟨p, h1, rfl⟩ := List.mem_map.mp hx
  exact hp _ (List.of_mem_zip (List.mem_filter.mp h1).1).1
theorem l_judge {n : Nat} {B : List Rw} {ps : List Nat} {mk : Rw} {d : D} (hn : 1 ≤ n) (hn2 : n ≤ 1000) (h : GF.Len n B) (hs : B.length ≤ 900) (hp : ∀ p ∈ ps, p < n) (hr : mk.length = ps.length) (hw : ∀ w v, pairOf d = some (w, v) → PyData.strOk w = true)
    {P : D → Prop} (hP : P (judge n B ps mk d)) : F_judge_marks [.v (codeD n B), .v (natsD ps), .v (rowD mk), .v d] P := by
  unfold F_judge_marks N_judge_marks m_judge_marks
  (simp only [denF, startE, denSs, denS, seqS, denX, denE, denT, denW, denA, denC, denG, denGs, denI, denO, Bop.w, Cop.w, Bl.w, compF, bodyW, wipeE, setW, gSeqW, gConsW, gNilW, lenGs, enumW, itemsW, zipW, List.length_cons, List.length_nil, List.replicate, List.append, List.cons_append, List.nil_append, List.map_cons, List.map_nil, List.set, List.getElem?_cons_zero, List.getElem?_cons_succ, Option.some.injEq, Slot.v.injEq, Slot.own.injEq, exists_eq_left', true_and, and_true, reduceCtorEq, false_or, or_false, if_true, if_false, Bool.false_eq_true])
  simp only [orT, notB]
  refine ⟨by decide, l_worded (ws := wds) hw (by decide +kernel) ?_⟩
  unfold judge at hP
  cases hd : pairOf d with
  | none =>
    simp only [hd] at hP
    exact ⟨by decide, hP⟩
  | some p =>
    obtain ⟨w, v⟩ := p
    simp only [hd] at hP
    have okW := hw w v hd
    have ed := pairOf_eq hd
    subst ed
    by_cases hm : w ∈ wds
    · rw [if_pos hm] at hP
      simp only [hm, decide_true, truthW, Bool.not_true, Bool.false_eq_true, if_false]
      refine code_0 ⟨v, rfl, l_is_row ?_⟩
      cases hv : rowOf n v with
      | none =>
        simp only [hv] at hP
        exact ⟨by decide, hP⟩
      | some r =>
        simp only [hv] at hP
        obtain ⟨ev, hrl⟩ := rowOf_eq hv
        subst ev
        simp only [Option.isSome_some, Bool.not_true, Bool.false_eq_true, if_false]
        refine ⟨_, rfl, .str w, rfl, eq_str okW (by decide +kernel) ?_⟩
        unfold valJ at hP
        by_cases hw1 : w = Str.ofString "row"
        · rw [if_pos hw1] at hP
          simp only [hw1, decide_true, if_true]
          show zipSW [natsD ps, rowD mk] _
          refine ⟨by simp [hr], ?_⟩
          rw [pairs_nb]
          refine mapW_of (α := Nat × Bool) _ (fun p => if GF.get r p.1 != p.2 then some (nat p.1) else none) _ (fun ⟨q, m⟩ hx k hk => ?_) ?_
          · have hq : q < n := hp q (List.of_mem_zip hx).1
            show gSeqW _ _ _ _ _
            (simp only [denF, startE, denSs, denS, seqS, denX, denE, denT, denW, denA, denC, denG, denGs, denI, denO, Bop.w, Cop.w, Bl.w, compF, bodyW, wipeE, setW, gSeqW, gConsW, gNilW, lenGs, enumW, itemsW, zipW, List.length_cons, List.length_nil, List.replicate, List.append, List.cons_append, List.nil_append, List.map_cons, List.map_nil, List.set, List.getElem?_cons_zero, List.getElem?_cons_succ, Option.some.injEq, Slot.v.injEq, Slot.own.injEq, exists_eq_left', true_and, and_true, reduceCtorEq, false_or, or_false, if_true, if_false, Bool.false_eq_true])
            refine idx_row (by omega) (eq_bit (P := fun c => if (!c) = true then k (some (nat q)) else k none) ?_)
            show if (GF.get r q != m) = true then k (some (nat q)) else k none
            cases z : (GF.get r q != m) <;> simp only [z] at hk <;> exact hk
          · rw [fm_if (fun p : Nat × Bool => GF.get r p.1 != p.2) (fun p => nat p.1), bad_map]
            cases z : rowBad ps mk r with
            | nil =>
              rw [z] at hP
              show F_has_row _ _
              refine l_has_row hn hn2 h (by omega) hrl ?_
              show if inSp n B r = true then _ else _
              cases z2 : inSp n B r with
              | true => simp only [firstW, z2, if_true] at hP; exact hP
              | false => simp only [firstW, z2, Bool.false_eq_true, if_false] at hP; exact ⟨by decide, hP⟩
            | cons i l =>
              rw [z] at hP
              exact idx_list (i := 0) (d := nat i) rfl ⟨by decide, hP⟩
        · rw [if_neg hw1] at hP
          simp only [hw1, decide_false, Bool.false_eq_true, if_false]
          refine code_0 ⟨⟨by omega, by omega⟩, ?_⟩
          rw [Int.toNat_natCast, rangeD0]
          refine mapW_of (α := Nat) (fun i => .int (i : Nat)) (fun p => if !decide (p ∈ ps) && GF.get r p then some (nat p) else none) _ (fun q hq k hk => ?_) ?_
          · have hq := List.mem_range.mp hq
            (simp only [denF, startE, denSs, denS, seqS, denX, denE, denT, denW, denA, denC, denG, denGs, denI, denO, Bop.w, Cop.w, Bl.w, compF, bodyW, wipeE, setW, gSeqW, gConsW, gNilW, lenGs, enumW, itemsW, zipW, List.length_cons, List.length_nil, List.replicate, List.append, List.cons_append, List.nil_append, List.map_cons, List.map_nil, List.set, List.getElem?_cons_zero, List.getElem?_cons_succ, Option.some.injEq, Slot.v.injEq, Slot.own.injEq, exists_eq_left', true_and, and_true, reduceCtorEq, false_or, or_false, if_true, if_false, Bool.false_eq_true])
            simp only [andT, notB]
            refine in_nats (j := q) (ps_lt hn2 hp) ?_
            by_cases hqp : q ∈ ps
            · simp only [hqp, decide_true, Bool.not_true, Bool.false_and, Bool.false_eq_true, if_false] at hk ⊢
              exact hk
            · simp only [hqp, decide_false, Bool.not_false, Bool.true_and, if_true] at hk ⊢
              refine idx_row (by omega) (eq_one ?_)
              cases z : GF.get r q <;> simp only [z] at hk <;> exact hk
          · rw [fm_if]
            have ed : (List.range n).filter (fun p => !decide (p ∈ ps) && GF.get r p) = noneBad n ps r := rfl
            rw [ed]
            cases z : noneBad n ps r with
            | cons i l =>
              rw [z] at hP
              exact idx_list (i := 0) (d := nat i) rfl ⟨by decide, hP⟩
            | nil =>
              rw [z] at hP
              show idxW (codeD n B) (.int 1) _
              refine code_1 (l_first_odd h hrl ?_)
              cases ho : oddAt B r with
              | cons i l =>
                rw [ho] at hP
                exact ⟨by decide, hP⟩
              | nil =>
                rw [ho] at hP
                simp only [firstD, isNone, Bool.not_true, Bool.false_eq_true, if_false]
                refine ite_go (l_marks_at (fun p hq => by rw [hrl]; exact hp p hq) (l_are_even (by rw [GF.at_len, hr]) ?_))
                show if (!GF.dot (GF.at' r ps) mk) = true then _ else _
                cases z2 : GF.dot (GF.at' r ps) mk with
                | true => simp only [firstW, z2, if_true] at hP; exact hP
                | false => simp only [firstW, z2, Bool.false_eq_true, if_false] at hP; exact ⟨by decide, hP⟩
    · rw [if_neg hm] at hP
      simp only [hm, decide_false, truthW, Bool.not_false, if_true]
      exact ⟨by decide, hP⟩

theorem cnt_at (r : Rw) : ∀ (ps : List Nat) (mk : Rw), ((ps.zip mk).map fun p => (((GF.get r p.1 && p.2).toNat : Nat) : Int)).sum = (GF.cnt (GF.at' r ps) mk : Nat)
  | [], _ => rfl
  | _ :: _, [] => rfl
  | p :: ps, m :: mk => by
    have ih := cnt_at r ps mk
    unfold GF.at' at ih ⊢
    rw [List.zip_cons_cons, List.map_cons, List.sum_cons, ih]
    simp [GF.cnt]
theorem l_fault {n : Nat} {B : List Rw} {ps : List Nat} {mk : Rw} {d : D} (hn : 1 ≤ n) (hn2 : n ≤ 1000) (hI : Ind n B) (hs : B.length ≤ 900) (hp : ∀ p ∈ ps, p < n) (hr : mk.length = ps.length) (hw : ∀ w v, pairOf d = some (w, v) → PyData.strOk w = true)
    {P : D → Prop} (hP : P (judge n B ps mk d)) : F__law_fault [.v (codeD n B), .v (natsD ps), .v (rowD mk), .v d] P := by
  have h := hI.1
  unfold F__law_fault N__law_fault m__law_fault
  (simp only [denF, startE, denSs, denS, seqS, denX, denE, denT, denW, denA, denC, denG, denGs, denI, denO, Bop.w, Cop.w, Bl.w, compF, bodyW, wipeE, setW, gSeqW, gConsW, gNilW, lenGs, enumW, itemsW, zipW, List.length_cons, List.length_nil, List.replicate, List.append, List.cons_append, List.nil_append, List.map_cons, List.map_nil, List.set, List.getElem?_cons_zero, List.getElem?_cons_succ, Option.some.injEq, Slot.v.injEq, Slot.own.injEq, exists_eq_left', true_and, and_true, reduceCtorEq, false_or, or_false, if_true, if_false, Bool.false_eq_true])
  have ec : codeD n B = .tuple [.int (n : Nat), .tuple (B.map rowD)] := rfl
  rw [ec]
  refine ⟨rfl, rfl, ?_⟩
  rw [← ec]
  cases d <;> try exact ⟨by decide, hP⟩
  rename_i ds
  simp only [orT, isD, truthW, notB, Bool.not_true, Bool.false_eq_true, if_false, lenW]
  refine eq_int ?_
  match ds, hw, hP with
  | [], _, hP => exact ⟨by decide, hP⟩
  | [x1], _, hP => cases x1 <;> exact ⟨by decide, hP⟩
  | x :: y :: z :: r, _, hP =>
    have e : ((((x :: y :: z :: r).length : Nat) : Int) == 2) = false := by simp; omega
    have e2 : pairOf (.tuple (x :: y :: z :: r)) = none := by
      unfold pairOf
      split
      · rename_i h; simp at h
      · rfl
    unfold judge at hP
    rw [e2] at hP
    rw [e]
    exact ⟨by decide, hP⟩
  | [x, v], hw, hP =>
    refine ⟨x, rfl, ?_⟩
    cases x <;> try exact ⟨by decide, hP⟩
    rename_i w
    have hd : pairOf (.tuple [.str w, v]) = some (w, v) := rfl
    have okW := hw w v hd
    unfold judge at hP
    simp only [hd] at hP
    simp only [Bool.not_true, Bool.false_eq_true, if_false]
    refine ⟨.str w, rfl, by decide, in_words (ws := wds) okW (by decide +kernel) ?_⟩
    by_cases hm : w ∈ wds
    · rw [if_pos hm] at hP
      simp only [hm, decide_true, Bool.not_true, Bool.false_eq_true, if_false]
      refine ⟨v, rfl, l_law_is_row ?_⟩
      cases hv : rowOf n v with
      | none =>
        simp only [hv] at hP
        exact ⟨by decide, hP⟩
      | some r =>
        simp only [hv] at hP
        obtain ⟨ev, hrl⟩ := rowOf_eq hv
        subst ev
        simp only [Option.isSome_some, Bool.not_true, Bool.false_eq_true, if_false]
        refine ⟨.str w, rfl, eq_str okW (by decide +kernel) ?_⟩
        unfold valJ at hP
        have hnl : ∀ {xs : List Nat}, (∀ x ∈ xs, x < n) → ∀ x ∈ xs, x < 1000000000 := fun h x hx => by have := h x hx; omega
        by_cases hw1 : w = Str.ofString "row"
        · rw [if_pos hw1] at hP
          have e1 : decide (w = Str.ofString "row") = true := by simp [hw1]
          rw [e1]
          simp only [if_true]
          show mapW (pairs (ps.map nat) (mk.map bit)) _ _
          rw [pairs_nb]
          refine mapW_of (α := Nat × Bool) _ (fun p => if GF.get r p.1 != p.2 then some (nat p.1) else none) _ (fun ⟨q, m⟩ hx k hk => ?_) ?_
          · have hq : q < n := hp q (List.of_mem_zip hx).1
            show gSeqW _ _ _ _ _
            (simp only [denF, startE, denSs, denS, seqS, denX, denE, denT, denW, denA, denC, denG, denGs, denI, denO, Bop.w, Cop.w, Bl.w, compF, bodyW, wipeE, setW, gSeqW, gConsW, gNilW, lenGs, enumW, itemsW, zipW, List.length_cons, List.length_nil, List.replicate, List.append, List.cons_append, List.nil_append, List.map_cons, List.map_nil, List.set, List.getElem?_cons_zero, List.getElem?_cons_succ, Option.some.injEq, Slot.v.injEq, Slot.own.injEq, exists_eq_left', true_and, and_true, reduceCtorEq, false_or, or_false, if_true, if_false, Bool.false_eq_true])
            refine ⟨_, rfl, idx_row (by omega) (eq_bit (P := fun c => if (!c) = true then k (some (nat q)) else k none) ?_)⟩
            show if (GF.get r q != m) = true then k (some (nat q)) else k none
            cases z : (GF.get r q != m) <;> simp only [z] at hk <;> exact hk
          · rw [fm_if (fun p : Nat × Bool => GF.get r p.1 != p.2) (fun p => nat p.1), bad_map]
            refine ite_go ⟨by decide, ne_nilN (P := fun k => if k = true then _ else _) (hnl (bad_lt hp)) ?_⟩
            cases z : rowBad ps mk r with
            | cons i l =>
              rw [z] at hP
              exact idx_list (i := 0) (d := nat i) rfl ⟨by decide, hP⟩
            | nil =>
              rw [z] at hP
              simp only [List.isEmpty_nil, Bool.not_true, Bool.false_eq_true, if_false]
              refine ite_go ⟨_, rfl, l_law_has hn2 h hs hrl ?_⟩
              have e3 : decide (GF.rank n (B ++ [r]) = B.length) = inSp n B r := by
                unfold inSp
                rw [Bool.eq_iff_iff, decide_eq_true_iff, rank_iff hI hrl, has_iff h hrl]
              rw [e3]
              cases z2 : inSp n B r with
              | true => simp only [firstW, z2, if_true] at hP; exact hP
              | false => simp only [firstW, z2, Bool.false_eq_true, if_false] at hP; exact ⟨by decide, hP⟩
        · rw [if_neg hw1] at hP
          have e1 : decide (w = Str.ofString "row") = false := by simp [hw1]
          rw [e1]
          simp only [Bool.false_eq_true, if_false]
          refine ⟨⟨by omega, by omega⟩, ?_⟩
          rw [Int.toNat_natCast, rangeD0]
          refine mapW_of (α := Nat) (fun i => .int (i : Nat)) (fun p => if !decide (p ∈ ps) && GF.get r p then some (nat p) else none) _ (fun q hq k hk => ?_) ?_
          · have hq := List.mem_range.mp hq
            (simp only [denF, startE, denSs, denS, seqS, denX, denE, denT, denW, denA, denC, denG, denGs, denI, denO, Bop.w, Cop.w, Bl.w, compF, bodyW, wipeE, setW, gSeqW, gConsW, gNilW, lenGs, enumW, itemsW, zipW, List.length_cons, List.length_nil, List.replicate, List.append, List.cons_append, List.nil_append, List.map_cons, List.map_nil, List.set, List.getElem?_cons_zero, List.getElem?_cons_succ, Option.some.injEq, Slot.v.injEq, Slot.own.injEq, exists_eq_left', true_and, and_true, reduceCtorEq, false_or, or_false, if_true, if_false, Bool.false_eq_true])
            simp only [andT]
            refine in_nats (j := q) (ps_lt hn2 hp) ?_
            by_cases hqp : q ∈ ps
            · simp only [hqp, decide_true, Bool.not_true, Bool.false_and, Bool.false_eq_true, if_false] at hk ⊢
              exact hk
            · simp only [hqp, decide_false, Bool.not_false, Bool.true_and, if_true] at hk ⊢
              refine ⟨_, rfl, idx_row (by omega) (eq_one ?_)⟩
              cases z : GF.get r q <;> simp only [z] at hk <;> exact hk
          · rw [fm_if]
            have ed : (List.range n).filter (fun p => !decide (p ∈ ps) && GF.get r p) = noneBad n ps r := rfl
            rw [ed]
            have hnb : ∀ x ∈ noneBad n ps r, x < n := fun x hx => List.mem_range.mp (List.mem_filter.mp hx).1
            refine ⟨by decide, ne_nilN (P := fun k => if k = true then _ else _) (hnl hnb) ?_⟩
            cases z : noneBad n ps r with
            | cons i l =>
              rw [z] at hP
              exact idx_list (i := 0) (d := nat i) rfl ⟨by decide, hP⟩
            | nil =>
              rw [z] at hP
              simp only [List.isEmpty_nil, Bool.not_true, Bool.false_eq_true, if_false]
              rw [enumRowsD]
              refine mapW_of (α := Rw × Nat) _ (fun p => if GF.dot p.1 r then some (nat p.2) else none) _ (fun ⟨b, i⟩ hx k hk => ?_) ?_
              · show gSeqW _ _ _ _ _
                (simp only [denF, startE, denSs, denS, seqS, denX, denE, denT, denW, denA, denC, denG, denGs, denI, denO, Bop.w, Cop.w, Bl.w, compF, bodyW, wipeE, setW, gSeqW, gConsW, gNilW, lenGs, enumW, itemsW, zipW, List.length_cons, List.length_nil, List.replicate, List.append, List.cons_append, List.nil_append, List.map_cons, List.map_nil, List.set, List.getElem?_cons_zero, List.getElem?_cons_succ, Option.some.injEq, Slot.v.injEq, Slot.own.injEq, exists_eq_left', true_and, and_true, reduceCtorEq, false_or, or_false, if_true, if_false, Bool.false_eq_true])
                refine ⟨_, rfl, l_is_odd ?_⟩
                show if (GF.dot b r) = true then k (some (nat i)) else k none
                cases z : GF.dot b r <;> simp only [z] at hk <;> exact hk
              · rw [fm_if (fun p : Rw × Nat => GF.dot p.1 r) (fun p => nat p.2)]
                have e : (B.zipIdx.filter fun p => GF.dot p.1 r).map (fun p => nat p.2) = (oddAt B r).map nat := by unfold oddAt; rw [List.map_map]; rfl
                rw [e]
                have hbd : ∀ x ∈ oddAt B r, x < 1000000000 := fun x hx => by
                  obtain ⟨p, hp, rfl⟩ := List.mem_map.mp hx
                  have := (List.getElem?_eq_some_iff.mp (List.mem_zipIdx_iff_getElem?.mp (List.mem_filter.mp hp).1)).1
                  omega
                refine ⟨by decide, ne_nilN (P := fun k => if k = true then _ else _) hbd ?_⟩
                cases ho : oddAt B r with
                | cons i l =>
                  rw [ho] at hP
                  exact idx_list (i := 0) (d := nat i) rfl ⟨by decide, hP⟩
                | nil =>
                  rw [ho] at hP
                  simp only [List.isEmpty_nil, Bool.not_true, Bool.false_eq_true, if_false]
                  refine ite_go ?_
                  show mapW (pairs (ps.map nat) (mk.map bit)) _ _
                  rw [pairs_nb]
                  refine mapW_all (α := Nat × Bool) _ (fun p => .int ((GF.get r p.1 && p.2).toNat : Nat)) _ (fun ⟨q, m⟩ hx k hk => ?_) ?_
                  · have hq : q < n := hp q (List.of_mem_zip hx).1
                    show gSeqW _ _ _ _ _
                    (simp only [denF, startE, denSs, denS, seqS, denX, denE, denT, denW, denA, denC, denG, denGs, denI, denO, Bop.w, Cop.w, Bl.w, compF, bodyW, wipeE, setW, gSeqW, gConsW, gNilW, lenGs, enumW, itemsW, zipW, List.length_cons, List.length_nil, List.replicate, List.append, List.cons_append, List.nil_append, List.map_cons, List.map_nil, List.set, List.getElem?_cons_zero, List.getElem?_cons_succ, Option.some.injEq, Slot.v.injEq, Slot.own.injEq, exists_eq_left', true_and, and_true, reduceCtorEq, false_or, or_false, if_true, if_false, Bool.false_eq_true])
                    refine ⟨_, rfl, idx_row (by omega) (mul_bits hk)⟩
                  · have e5 : intsOf ((ps.zip mk).map fun p => PyData.int (((GF.get r p.1 && p.2).toNat : Nat) : Int)) = some ((ps.zip mk).map fun p => (((GF.get r p.1 && p.2).toNat : Nat) : Int)) := by
                      have := intsOf_map ((ps.zip mk).map fun p => (((GF.get r p.1 && p.2).toNat : Nat) : Int))
                      rw [List.map_map] at this
                      exact this
                    refine ⟨_, e5, ?_⟩
                    rw [cnt_at]
                    refine ⟨by decide, ?_⟩
                    rw [mod2]
                    refine eq_int ?_
                    have e6 : (((GF.cnt (GF.at' r ps) mk % 2 : Nat) : Int) == 1) = GF.dot (GF.at' r ps) mk := by
                      rw [← GF.cnt_dot, Bool.eq_iff_iff]
                      simp
                      omega
                    rw [e6]
                    cases z2 : GF.dot (GF.at' r ps) mk with
                    | true => simp only [firstW, z2, if_true] at hP; exact hP
                    | false => simp only [firstW, z2, Bool.false_eq_true, if_false] at hP; exact ⟨by decide, hP⟩
    · rw [if_neg hm] at hP
      simp only [hm, decide_false, Bool.not_false, if_true]
      exact ⟨by decide, hP⟩

def there (B : List Rw) (ps : List Nat) (mk : Rw) : Bool := ps.isEmpty || (GF.lot (S B ps) mk).isSome
theorem zip_at (r : Rw) : ∀ (ps : List Nat), ∀ p ∈ ps.zip (GF.at' r ps), GF.get r p.1 = p.2
  | [], p, h => by simp [GF.at'] at h
  | q :: ps, p, h => by
    have h : p ∈ (q, GF.get r q) :: ps.zip (GF.at' r ps) := h
    rcases List.mem_cons.mp h with rfl | h
    · rfl
    · exact zip_at r ps p h
theorem bad_nil {r mk : Rw} {ps : List Nat} (h : GF.at' r ps = mk) : rowBad ps mk r = [] := by
  subst h
  unfold rowBad
  rw [List.filter_eq_nil_iff.mpr, List.map_nil]
  intro p hp
  simp [zip_at r ps p hp]
theorem row_wds : Str.ofString "row" ∈ wds := by unfold wds; simp
theorem none_wds : Str.ofString "none" ∈ wds := by unfold wds; simp
theorem none_row : ¬ Str.ofString "none" = Str.ofString "row" := by decide +kernel
structure Good (n : Nat) (ps : List Nat) : Prop where
  nd : ps.Nodup
  lt : ∀ p ∈ ps, p < n
  len : ps.length ≤ n
theorem in_sp {n : Nat} {B : List Rw} {r : Rw} (h : GF.Len n B) (hv : GF.Sp n B r) : inSp n B r = true := (has_iff h (hv.len h)).mpr hv
theorem paper_ok {n : Nat} {B : List Rw} {ps : List Nat} {mk : Rw} (hn : n ≤ 16) (h : GF.Len n B) (g : Good n ps) (hr : mk.length = ps.length) :
    judge n B ps mk (paper n B ps mk) = .none ∧ ∃ v, paper n B ps mk = .tuple [.str (if there B ps mk then "row" else "none"), v] ∧ Vd 999 1 v ∧ M v ≤ 300 := by
  have hS : GF.Len ps.length (S B ps) := GF.at_all ps
  have vr : ∀ r : Rw, r.length = n → Vd 999 1 (rowD r) ∧ M (rowD r) ≤ 300 := fun r hr => ⟨(vd_row r).mono (by omega) (by omega), by rw [M_row]; omega⟩
  have jrow : ∀ r : Rw, r.length = n → GF.Sp n B r → GF.at' r ps = mk → judge n B ps mk (.tuple [.str "row", rowD r]) = .none := fun r hl hs ha => by
    unfold judge
    simp only [pairOf]
    rw [if_pos row_wds, rowOf_row hl]
    unfold valJ
    simp only [if_true]
    rw [bad_nil ha, in_sp h hs]
    rfl
  cases hps : ps with
  | nil =>
    subst hps
    have hm : mk = [] := List.eq_nil_of_length_eq_zero (by simpa using hr)
    subst hm
    refine ⟨jrow _ (GF.zer_len n) .zero rfl, _, rfl, vr _ (GF.zer_len n)⟩
  | cons p0 ps0 =>
    rw [← hps]
    have hne : ps.isEmpty = false := by rw [hps]; rfl
    have hpap : paper n B ps mk = (match GF.lot (S B ps) mk with
        | some c => .tuple [.str "row", rowD (GF.mk n B c)]
        | none => .tuple [.str "none", rowD (GF.lift n ps ((outs B ps mk).getD 0 []))]) := by
      unfold paper
      rw [hps]
    have hth : there B ps mk = (GF.lot (S B ps) mk).isSome := by unfold there; rw [hne]; rfl
    rw [hpap, hth]
    cases hlot : GF.lot (S B ps) mk with
    | some c =>
      obtain ⟨hc, hm⟩ := GF.lot_some hS hr hlot
      have hl := GF.mk_len (c := c) h
      refine ⟨jrow _ hl (GF.mk_sp h) ?_, _, rfl, vr _ hl⟩
      rw [GF.at_mk ps h]
      exact hm
    | none =>
      obtain ⟨f, r, e, hf, hd⟩ := outs_ne hr hlot
      have e0 : (outs B ps mk).getD 0 [] = f := by rw [e]; rfl
      have hfl : f.length = ps.length := GF.free_len _ _ f hf
      have hl := GF.lift_len n ps f
      refine ⟨?_, _, rfl, ?_⟩
      · simp only [e0]
        unfold judge
        simp only [pairOf]
        rw [if_pos none_wds, rowOf_row hl]
        unfold valJ
        dsimp only
        rw [if_neg none_row, GF.at_lift g.nd g.lt hfl, hd]
        have e1 : noneBad n ps (GF.lift n ps f) = [] := by
          unfold noneBad
          rw [List.filter_eq_nil_iff]
          intro p _
          rw [GF.get_lift]
          cases decide (p ∈ ps) <;> simp
        have e2 : oddAt B (GF.lift n ps f) = [] := by
          unfold oddAt
          rw [List.filter_eq_nil_iff.mpr, List.map_nil]
          intro p hp
          have hb : p.1 ∈ B := List.mem_of_getElem? (List.mem_zipIdx_iff_getElem?.mp hp)
          rw [GF.dot_lift g.nd g.lt hfl (h _ hb)]
          have := (GF.free_iff (GF.told_red hS) (GF.at_len p.1 ps)).mpr ((GF.told_sp hS _).mpr (GF.Sp.mem hS (List.mem_map.mpr ⟨p.1, hb, rfl⟩))) f hf
          simp [this]
        rw [e1, e2]
        rfl
      · rw [e0]
        exact vr _ hl
def count (B : List Rw) (ps : List Nat) (mk : Rw) : Nat := if there B ps mk then 2 ^ (B.length - GF.rank ps.length (S B ps)) else 0
theorem l_count {n : Nat} {B : List Rw} {ps : List Nat} {mk : Rw} (hn : 1 ≤ n) (hn2 : n ≤ 16) (h : GF.Len n B) (hs : B.length ≤ 900) (g : Good n ps) (hr : mk.length = ps.length) {P : D → Prop} (hP : P (.int (count B ps mk : Nat))) :
    F_marks_count [.v (codeD n B), .v (natsD ps), .v (rowD mk)] P := by
  obtain ⟨_, v, e, _, _⟩ := paper_ok hn2 h g hr
  have hS : GF.Len ps.length (S B ps) := GF.at_all ps
  have hrk : GF.rank ps.length (S B ps) ≤ B.length := by
    have := GF.rank_le hS
    simpa using this
  unfold F_marks_count N_marks_count m_marks_count
  (simp only [denF, startE, denSs, denS, seqS, denX, denE, denT, denW, denA, denC, denG, denGs, denI, denO, Bop.w, Cop.w, Bl.w, compF, bodyW, wipeE, setW, gSeqW, gConsW, gNilW, lenGs, enumW, itemsW, zipW, List.length_cons, List.length_nil, List.replicate, List.append, List.cons_append, List.nil_append, List.map_cons, List.map_nil, List.set, List.getElem?_cons_zero, List.getElem?_cons_succ, Option.some.injEq, Slot.v.injEq, Slot.own.injEq, exists_eq_left', true_and, and_true, reduceCtorEq, false_or, or_false, if_true, if_false, Bool.false_eq_true])
  refine l_paper hn (by omega) h hs g.lt (by have := g.len; omega) hr ?_
  rw [e]
  unfold count at hP
  refine ⟨_, rfl, ?_⟩
  cases ht : there B ps mk with
  | true =>
    rw [ht] at hP
    simp only [if_true] at hP ⊢
    refine eq_str (by decide +kernel) (by decide +kernel) ?_
    have e1 : decide (Str.ofString "row" = Str.ofString "none") = false := by decide +kernel
    rw [e1]
    simp only [Bool.false_eq_true, if_false]
    refine code_1 ?_
    simp only [lenW, List.length_map]
    refine l_rank_at h (by omega) g.lt ?_
    refine ⟨⟨by omega, by omega, by decide⟩, ?_⟩
    have e2 : (1 : Int) * 2 ^ (((B.length : Nat) : Int) - ((GF.rank ps.length (S B ps) : Nat) : Int)).toNat = ((2 ^ (B.length - GF.rank ps.length (S B ps)) : Nat) : Int) := by
      have : (((B.length : Nat) : Int) - ((GF.rank ps.length (S B ps) : Nat) : Int)).toNat = B.length - GF.rank ps.length (S B ps) := by omega
      rw [this]
      simp
    rw [e2]
    exact hP
  | false =>
    rw [ht] at hP
    simp only [Bool.false_eq_true, if_false] at hP ⊢
    refine eq_str (by decide +kernel) (by decide +kernel) ?_
    have e1 : decide (Str.ofString "none" = Str.ofString "none") = true := by simp
    rw [e1]
    exact hP
theorem tm_natsD {xs : List Nat} (h : ∀ x ∈ xs, x < 1000000000) : Tm 1 (xs.length * 12 + 3) (natsD xs) := tm_nats h
theorem eq_tnil {xs : List Nat} (h : ∀ x ∈ xs, x < 1000000000) {P : Bool → Prop} (hP : P xs.isEmpty) : eqW (natsD xs) (.tuple []) P := by
  refine ⟨(tm_nats h).shaped (by decide), by decide, ?_⟩
  have e : PyData.eqv (natsD xs) (.tuple []) = xs.isEmpty := by
    unfold natsD
    cases xs <;> simp [PyData.eqv, PyData.eqvAll]
  rw [e]; exact hP
theorem good_nil (n : Nat) : Good n [] := ⟨List.nodup_nil, fun p h => by simp at h, Nat.zero_le _⟩
theorem l_places {n : Nat} (hn : 1 ≤ n) (hn2 : n ≤ 1000) {P : D → Prop} (hP : ∀ ps, Good n ps → P (natsD ps)) : F__law_places [.src, .v (.int (n : Nat))] P := by
  unfold F__law_places N__law_places m__law_places
  (simp only [denF, startE, denSs, denS, seqS, denX, denE, denT, denW, denA, denC, denG, denGs, denI, denO, Bop.w, Cop.w, Bl.w, compF, bodyW, wipeE, setW, gSeqW, gConsW, gNilW, lenGs, enumW, itemsW, zipW, List.length_cons, List.length_nil, List.replicate, List.append, List.cons_append, List.nil_append, List.map_cons, List.map_nil, List.set, List.getElem?_cons_zero, List.getElem?_cons_succ, Option.some.injEq, Slot.v.injEq, Slot.own.injEq, exists_eq_left', true_and, and_true, reduceCtorEq, false_or, or_false, if_true, if_false, Bool.false_eq_true])
  refine ⟨⟨by omega, by omega⟩, ?_⟩
  rw [Int.toNat_natCast, rangeD0]
  refine mapW_subl (α := Nat) (fun i => .int (i : Nat)) nat _ (fun q hq k h1 h2 => ?_) fun ps hps => ?_
  · (simp only [denF, startE, denSs, denS, seqS, denX, denE, denT, denW, denA, denC, denG, denGs, denI, denO, Bop.w, Cop.w, Bl.w, compF, bodyW, wipeE, setW, gSeqW, gConsW, gNilW, lenGs, enumW, itemsW, zipW, List.length_cons, List.length_nil, List.replicate, List.append, List.cons_append, List.nil_append, List.map_cons, List.map_nil, List.set, List.getElem?_cons_zero, List.getElem?_cons_succ, Option.some.injEq, Slot.v.injEq, Slot.own.injEq, exists_eq_left', true_and, and_true, reduceCtorEq, false_or, or_false, if_true, if_false, Bool.false_eq_true])
    refine l_pick _ _ (by omega) (by omega) fun r _ _ => eq_int ?_
    cases (r == 0)
    · exact h2
    · exact h1
  · have g : Good n ps := ⟨hps.nodup List.nodup_range, fun p h => List.mem_range.mp (hps.subset h), by have := hps.length_le; simpa using this⟩
    have ego : ∀ {Q : D → Prop}, Q (natsD ps) → tupleW [.list (ps.map nat)] Q := fun q => q
    refine ego (ite_go ⟨by decide, eq_tnil (P := fun b => if (!b) = true then _ else _) (fun x hx => by have := g.lt x hx; omega) ?_⟩)
    cases ps.isEmpty with
    | false => exact hP ps g
    | true =>
      simp only [Bool.not_true, Bool.false_eq_true, if_false]
      refine l_pick _ _ (by omega) (by omega) fun r r0 r1 => ⟨by decide, ?_⟩
      obtain ⟨i, rfl⟩ : ∃ z : Nat, r = (z : Nat) := ⟨r.toNat, by omega⟩
      exact hP [i] ⟨by simp, fun p h => by rw [List.mem_singleton.mp h]; omega, by simp; omega⟩

theorem ch_places {n : Nat} (hn : 1 ≤ n) (hn2 : n ≤ 1000) {K : D → Prop} (hK : ∀ ps, Good n ps → K (natsD ps)) :
    iteW (fun P => F__law_pick [.src, .v (.int 9)] fun d => eqW d (.int 0) P) (fun P => 0 ≤ 16777216 ∧ P (.tuple [])) (fun P => F__law_places [.src, .v (.int (n : Nat))] P) K := by
  refine ite_go (l_pick _ _ (by omega) (by omega) fun r _ _ => eq_int ?_)
  cases (r == 0) with
  | true => exact ⟨by decide, hK [] (good_nil n)⟩
  | false => exact l_places hn hn2 hK
theorem ch_row {n : Nat} {s : Rw} (hn2 : n ≤ 1000) (hs : s.length = n) {K : D → Prop} (hK : ∀ r : Rw, r.length = n → K (rowD r)) :
    iteW (fun P => F__law_pick [.src, .v (.int 2)] fun d => eqW d (.int 0) P) (fun P => P (rowD s)) (fun P => F__law_row [.src, .v (.int (n : Nat))] P) K := by
  refine ite_go (l_pick _ _ (by omega) (by omega) fun r _ _ => eq_int ?_)
  cases (r == 0) with
  | true => exact hK s hs
  | false => exact l_row hn2 hK
theorem T_nil (B : List Rw) : T B [] = [] := rfl
theorem ch_seen {n : Nat} {B : List Rw} {ps : List Nat} (h : GF.Len n B) (hs : B.length ≤ 1000) (hn : n ≤ 1000) (g : Good n ps) {K : D → Prop} (hK : K (codeD ps.length (T B ps))) :
    iteW (fun P => 0 ≤ 16777216 ∧ notB (eqW (natsD ps) (.tuple [])) P) (fun P => F__law_seen [.v (codeD n B), .v (natsD ps)] P) (fun P => 0 ≤ 16777216 ∧ 0 + 1 + 1 ≤ 16777216 ∧ P (.tuple [.int 0, .tuple []])) K := by
  refine ite_go ⟨by decide, eq_tnil (P := fun b => if (!b) = true then _ else _) (fun x hx => by have := g.lt x hx; omega) ?_⟩
  cases hps : ps.isEmpty with
  | true =>
    have : ps = [] := by simpa using hps
    subst this
    exact ⟨by decide, by decide, hK⟩
  | false => exact l_law_seen h hs (by have := g.len; omega) g.lt hK
theorem vd_judge {n : Nat} {B : List Rw} {ps : List Nat} {mk : Rw} (d : D) (hn : n ≤ 16) (hB : B.length ≤ 16) (hp : ∀ p ∈ ps, p < n) : Tr 1 100 (judge n B ps mk d) := by
  have hf : ∀ {s : String}, okS (Str.ofString s) → Tr 1 100 (w1 (Str.ofString s)) := fun {s} hs => by
    have q := (tm_w1 hs).tr (by omega)
    exact ⟨q.dep, q.sh, Nat.le_trans q.len (by simp only [w1, M, KC.MA]; omega), q.ok⟩
  have hform := hf (oks "form" (by decide +kernel))
  have hn2 : Tr 1 100 .none := by
    have q := (Vd.non (c := 9) (k := 1)).tr (by omega)
    exact ⟨q.dep, q.sh, Nat.le_trans q.len (by simp only [M]; omega), q.ok⟩
  have hw : ∀ {s : String} {xs : List Nat} {e : D}, okS (Str.ofString s) → (∀ x ∈ xs, x < 1000) → Tr 1 100 e → Tr 1 100 (firstW (Str.ofString s) xs e) := fun {s xs e} hs hx he => by
    cases xs with
    | nil => exact he
    | cons i r =>
      have q := (vd_w2 hs (i := i) (by have := hx i (by simp); omega)).tr (by omega)
      exact ⟨q.dep, q.sh, Nat.le_trans q.len (by simp only [w2, nat, M, KC.MA]; omega), q.ok⟩
  unfold judge
  cases pairOf d with
  | none => exact hform
  | some p =>
    obtain ⟨w, v⟩ := p
    dsimp only
    split
    · cases rowOf n v with
      | none => exact hform
      | some r =>
        dsimp only
        unfold valJ
        split
        · refine hw (oks "place" (by decide +kernel)) (fun x hx => by have := bad_lt hp x hx; omega) ?_
          split
          · exact hn2
          · exact hf (oks "out" (by decide +kernel))
        · refine hw (oks "place" (by decide +kernel)) (fun x hx => by have := List.mem_range.mp (List.mem_filter.mp hx).1; omega) ?_
          refine hw (oks "base" (by decide +kernel)) (fun x hx => ?_) ?_
          · obtain ⟨p, hp, rfl⟩ := List.mem_map.mp hx
            have := (List.getElem?_eq_some_iff.mp (List.mem_zipIdx_iff_getElem?.mp (List.mem_filter.mp hp).1)).1
            omega
          · split
            · exact hn2
            · exact hf (oks "even" (by decide +kernel))
    · exact hform
theorem ch_there {n : Nat} {B : List Rw} {ps : List Nat} {mk : Rw} (h : GF.Len n B) (hs : B.length ≤ 900) (hn : n ≤ 900) (g : Good n ps) (hr : mk.length = ps.length) {K : D → Prop} (hK : K (.bool (there B ps mk))) :
    orV (fun P => 0 ≤ 16777216 ∧ valB (eqW (natsD ps) (.tuple [])) P) (fun P => F__law_has [.v (codeD ps.length (T B ps)), .v (rowD mk)] P) K := by
  have hS : GF.Len ps.length (S B ps) := GF.at_all ps
  refine ⟨by decide, eq_tnil (P := fun b => _) (fun x hx => by have := g.lt x hx; omega) ?_⟩
  unfold there at hK
  cases hps : ps.isEmpty with
  | true => rw [hps] at hK; exact hK
  | false =>
    rw [hps] at hK
    have hT := (GF.told_red hS).len
    have hTl : (T B ps).length ≤ 900 := by
      have := GF.told_len hS
      have e : (S B ps).length = B.length := by simp
      unfold T
      omega
    refine l_law_has (by have := g.len; omega) hT hTl hr ?_
    have hI : Ind ps.length (T B ps) := ⟨hT, by rw [GF.told_told hS]⟩
    have e : decide (GF.rank ps.length (T B ps ++ [mk]) = (T B ps).length) = (GF.lot (S B ps) mk).isSome := by
      rw [Bool.eq_iff_iff, decide_eq_true_iff, rank_iff hI hr, GF.lot_iff hS hr]
      exact GF.told_sp hS mk
    rw [e]
    exact hK
theorem law_true : denSs m_law (lawEnv N_law) lawEnds := by
  unfold m_law N_law lawEnv
  (simp only [denF, startE, denSs, denS, seqS, denX, denE, denT, denW, denA, denC, denG, denGs, denI, denO, Bop.w, Cop.w, Bl.w, compF, bodyW, wipeE, setW, gSeqW, gConsW, gNilW, lenGs, enumW, itemsW, zipW, List.length_cons, List.length_nil, List.replicate, List.append, List.cons_append, List.nil_append, List.map_cons, List.map_nil, List.set, List.getElem?_cons_zero, List.getElem?_cons_succ, Option.some.injEq, Slot.v.injEq, Slot.own.injEq, exists_eq_left', true_and, and_true, reduceCtorEq, false_or, or_false, if_true, if_false, Bool.false_eq_true])
  refine ⟨⟨by omega, by omega⟩, ?_⟩
  rw [show (5 : Int).toNat = 5 from rfl, rangeD0]
  refine forS_ind (α := Nat) (fun i => .int (i : Nat)) (fun rest env => (∀ i ∈ rest, i < 5) ∧ ∃ x2 x3 x4 x5 x6 x7 x8 x9 x10 x11 x12 x13 x14 x15 x16 x17, env = [.no, .src, x2, x3, x4, x5, x6, x7, x8, x9, x10, x11, x12, x13, x14, x15, x16, x17]) ?st ?dn _ _ ⟨fun i hi => List.mem_range.mp hi, _, _, _, _, _, _, _, _, _, _, _, _, _, _, _, _, rfl⟩
  case dn =>
    rintro env ⟨_, x2, x3, x4, x5, x6, x7, x8, x9, x10, x11, x12, x13, x14, x15, x16, x17, rfl⟩
    (simp only [denF, startE, denSs, denS, seqS, denX, denE, denT, denW, denA, denC, denG, denGs, denI, denO, Bop.w, Cop.w, Bl.w, compF, bodyW, wipeE, setW, gSeqW, gConsW, gNilW, lenGs, enumW, itemsW, zipW, List.length_cons, List.length_nil, List.replicate, List.append, List.cons_append, List.nil_append, List.map_cons, List.map_nil, List.set, List.getElem?_cons_zero, List.getElem?_cons_succ, Option.some.injEq, Slot.v.injEq, Slot.own.injEq, exists_eq_left', true_and, and_true, reduceCtorEq, false_or, or_false, if_true, if_false, Bool.false_eq_true])
    simp only [show (0 + 1 + 1 + 1 + 1 ≤ 16777216) = True by decide, show (0 + 1 + 1 + 1 ≤ 16777216) = True by decide, show (0 + 1 + 1 ≤ 16777216) = True by decide, show (0 + 1 ≤ 16777216) = True by decide, show (0 ≤ 16777216) = True by decide, true_and]
    have h4 : GF.Len 4 [[true, true, false, false], [false, true, true, false]] := by unfold GF.Len; decide
    have g01 : Good 4 [0, 1] := ⟨by decide, by decide, by decide⟩
    have g3 : Good 4 [3] := ⟨by decide, by decide, by decide⟩
    refine l_count (n := 4) (B := [[true, true, false, false], [false, true, true, false]]) (ps := [0, 1]) (mk := [true, true]) (by omega) (by omega) h4 (by decide) g01 rfl ?_
    rw [show count [[true, true, false, false], [false, true, true, false]] [0, 1] [true, true] = 1 by decide +kernel]
    refine l_count (n := 4) (B := [[true, true, false, false], [false, true, true, false]]) (ps := [3]) (mk := [true]) (by omega) (by omega) h4 (by decide) g3 rfl ?_
    rw [show count [[true, true, false, false], [false, true, true, false]] [3] [true] = 0 by decide +kernel]
    refine l_judge (n := 4) (B := [[true, true, false, false], [false, true, true, false]]) (ps := [3]) (mk := [true]) (d := .tuple [.str "none", rowD [false, false, false, true]]) (by omega) (by omega) h4 (by decide) g3.lt rfl (fun w v e => ?_) ?_
    · simp only [pairOf, Option.some.injEq, Prod.mk.injEq] at e
      rw [← e.1]
      decide +kernel
    · have ej : judge 4 [[true, true, false, false], [false, true, true, false]] [3] [true] (.tuple [.str "none", rowD [false, false, false, true]]) = .none := by
        unfold judge valJ
        simp only [pairOf]
        rw [if_pos none_wds, rowOf_row (n := 4) (f := [false, false, false, true]) rfl]
        dsimp only
        rw [if_neg none_row]
        rfl
      rw [ej]
      have tl : Tr 2 100 (.list [.int 1, .int 0, .none]) := by
        have q := (Vd.lst (c := 9) (k := 1) (ds := [.int 1, .int 0, .none]) fun d hd => by
          simp only [List.mem_cons, List.not_mem_nil, or_false] at hd
          rcases hd with rfl | rfl | rfl
          · exact .int (by decide)
          · exact .int (by decide)
          · exact .non).tr (by omega)
        exact ⟨q.dep, q.sh, Nat.le_trans q.len (by simp only [M, KC.MA]; omega), q.ok⟩
      exact tl.repr (by omega) (by omega) (tl.repr (by omega) (by omega) (eq_same tl.ok rfl))
  case st =>
    rintro i rest env ⟨hi, x2, x3, x4, x5, x6, x7, x8, x9, x10, x11, x12, x13, x14, x15, x16, x17, rfl⟩ F hF
    have h5 := hi i (by simp)
    have hF' : ∀ x2 x3 x4 x5 x6 x7 x8 x9 x10 x11 x12 x13 x14 x15 x16 x17, F [.no, .src, x2, x3, x4, x5, x6, x7, x8, x9, x10, x11, x12, x13, x14, x15, x16, x17] := fun x2 x3 x4 x5 x6 x7 x8 x9 x10 x11 x12 x13 x14 x15 x16 x17 => hF _ ⟨fun j hj => hi j (by simp [hj]), x2, x3, x4, x5, x6, x7, x8, x9, x10, x11, x12, x13, x14, x15, x16, x17, rfl⟩
    (simp only [denF, startE, denSs, denS, seqS, denX, denE, denT, denW, denA, denC, denG, denGs, denI, denO, Bop.w, Cop.w, Bl.w, compF, bodyW, wipeE, setW, gSeqW, gConsW, gNilW, lenGs, enumW, itemsW, zipW, List.length_cons, List.length_nil, List.replicate, List.append, List.cons_append, List.nil_append, List.map_cons, List.map_nil, List.set, List.getElem?_cons_zero, List.getElem?_cons_succ, Option.some.injEq, Slot.v.injEq, Slot.own.injEq, exists_eq_left', true_and, and_true, reduceCtorEq, false_or, or_false, if_true, if_false, Bool.false_eq_true])
    have hm : ∃ m : Nat, ([PyData.int 4, PyData.int 8, PyData.int 16, PyData.int 12, PyData.int 16] : List D)[i]? = some (.int (m : Nat)) ∧ 1 ≤ m ∧ m ≤ 16 := by
      match i, h5 with
      | 0, _ => exact ⟨4, rfl, by omega, by omega⟩
      | 1, _ => exact ⟨8, rfl, by omega, by omega⟩
      | 2, _ => exact ⟨16, rfl, by omega, by omega⟩
      | 3, _ => exact ⟨12, rfl, by omega, by omega⟩
      | 4, _ => exact ⟨16, rfl, by omega, by omega⟩
    obtain ⟨m, hm0, hm1, hm2⟩ := hm
    refine ⟨by decide, idx_list hm0 (l_code hm1 (by omega) fun n B n1 n2 hI hl => ?_)⟩
    have n2' : n ≤ 16 := by omega
    have tc := tm_code (n := n) (rows := B) (by omega) hI.1 (by omega)
    refine code_0 (tc.repr (by omega) (by omega) (l_some_row n1 (by omega) hI.1 fun some hsome => ?_))
    have hsl : some.length = n := hsome.len hI.1
    refine ch_places n1 (by omega) fun ps g => ?_
    refine ch_row (by omega) hsl fun r0 hr0 => ?_
    refine l_law_at (fun p hp => by rw [hr0]; exact g.lt p hp) ?_
    have hml := GF.at_len r0 ps
    generalize GF.at' r0 ps = mk at *
    refine ch_seen hI.1 (by omega) (by omega) g ?_
    refine ch_there hI.1 (by omega) (by omega) g hml ?_
    have pap : ∀ {Q : D → Prop}, Q (paper n B ps mk) → F_marks_paper [.v (codeD n B), .v (natsD ps), .v (rowD mk)] Q := fun {Q} hQ => l_paper n1 (by omega) hI.1 (by omega) g.lt (by have := g.len; omega) hml hQ
    refine pap ?_
    obtain ⟨hpok, v, hv, hvd, hvM⟩ := paper_ok (by omega) hI.1 g hml
    generalize hb : there B ps mk = b at *
    generalize hp : paper n B ps mk = told at *
    have okb : okS (if b = true then Str.ofString "row" else Str.ofString "none") := by cases b <;> exact oks _ (by decide +kernel)
    have hw2 : ∃ w : String, (if b = true then Str.ofString "row" else Str.ofString "none") = Str.ofString w := by cases b <;> exact ⟨_, rfl⟩
    obtain ⟨w, ew⟩ := hw2
    rw [ew] at hv okb
    have vt : Vd 999 2 told := by rw [hv]; exact vd_pair okb hvd
    have Mt : M told ≤ 400 := by rw [hv, M_pair]; omega
    have vokt : Vok told := ⟨vt.mono (by omega) (by omega), by omega⟩
    simp only [orT]
    refine l_fault n1 (by omega) hI (by omega) g.lt hml vt.word ?_
    rw [hpok]
    simp only [isNone, Bool.not_true, Bool.false_eq_true, if_false]
    have idx0 : ∀ {Q : Bool → Prop}, Q false → idxW told (.int 0) fun d => 0 + 1 + 1 ≤ 16777216 ∧ intW [.bool b] fun e => idxW (.list [.str "none", .str "row"]) e fun e => notB (eqW d e) Q := fun {Q} h => by
      rw [hv]
      refine ⟨.str w, rfl, by decide, ?_⟩
      rw [← ew]
      cases b
      · exact ⟨_, rfl, ne_same (by decide +kernel) h⟩
      · exact ⟨_, rfl, ne_same (by decide +kernel) h⟩
    have idx1 : ∀ {Q : D → Prop}, Q v → idxW told (.int 1) Q := fun {Q} h => by rw [hv]; exact ⟨_, rfl, h⟩
    have lst : ∀ {Q : D → Prop}, Q (.list [.str w, v]) → listW [told] Q := fun {Q} h => by rw [hv]; exact h
    refine idx0 ?_
    simp only [Bool.false_eq_true, if_false]
    have hS : GF.Len ps.length (S B ps) := GF.at_all ps
    have hTl : (T B ps).length ≤ B.length := by
      have := GF.told_len hS
      have e : (S B ps).length = B.length := by simp
      unfold T
      omega
    have erk : GF.rank ps.length (S B ps) = (T B ps).length := rfl
    refine code_1 ?_
    simp only [lenW, List.length_map]
    refine code_1 ?_
    simp only [lenW, List.length_map, subW]
    refine ⟨⟨by omega, by omega⟩, ?_⟩
    have e9 : (((B.length : Nat) : Int) - (((T B ps).length : Nat) : Int)).toNat = B.length - (T B ps).length := by omega
    rw [e9, rangeD0]
    refine forS_ind (α := Nat) (fun i => .int (i : Nat)) (fun rest env => ∃ done, List.range (B.length - (T B ps).length) = done ++ rest ∧ ∃ y10, env = [.no, .src, .v (.int (i : Nat)), .v (codeD n B), .v told, .v (natsD ps), .v (rowD mk), .v (codeD ps.length (T B ps)), .v (.bool b), .v (.int ((2 ^ done.length : Nat) : Int)), y10, x11, x12, x13, .v (.int (n : Nat)), .v (.str (codeD n B).shown), .v (rowD some), x17]) ?st2 ?dn2 _ _ ⟨[], rfl, _, rfl⟩
    case st2 =>
      rintro t rest2 env ⟨done, e, y10, rfl⟩ F2 hF2
      (simp only [denF, startE, denSs, denS, seqS, denX, denE, denT, denW, denA, denC, denG, denGs, denI, denO, Bop.w, Cop.w, Bl.w, compF, bodyW, wipeE, setW, gSeqW, gConsW, gNilW, lenGs, enumW, itemsW, zipW, List.length_cons, List.length_nil, List.replicate, List.append, List.cons_append, List.nil_append, List.map_cons, List.map_nil, List.set, List.getElem?_cons_zero, List.getElem?_cons_succ, Option.some.injEq, Slot.v.injEq, Slot.own.injEq, exists_eq_left', true_and, and_true, reduceCtorEq, false_or, or_false, if_true, if_false, Bool.false_eq_true])
      refine ⟨.inr (.inl (by decide)), ?_⟩
      have e8 : ((2 ^ done.length : Nat) : Int) * 2 = ((2 ^ (done ++ [t]).length : Nat) : Int) := by
        rw [List.length_append, List.length_singleton, Nat.pow_succ, Int.natCast_mul]
        rfl
      rw [e8]
      exact hF2 _ ⟨done ++ [t], by rw [e]; simp, _, rfl⟩
    case dn2 =>
      rintro env ⟨done, e, y10, rfl⟩
      rw [List.append_nil] at e
      have hdl : done.length = B.length - (T B ps).length := by rw [← e]; simp
      rw [hdl]
      (simp only [denF, startE, denSs, denS, seqS, denX, denE, denT, denW, denA, denC, denG, denGs, denI, denO, Bop.w, Cop.w, Bl.w, compF, bodyW, wipeE, setW, gSeqW, gConsW, gNilW, lenGs, enumW, itemsW, zipW, List.length_cons, List.length_nil, List.replicate, List.append, List.cons_append, List.nil_append, List.map_cons, List.map_nil, List.set, List.getElem?_cons_zero, List.getElem?_cons_succ, Option.some.injEq, Slot.v.injEq, Slot.own.injEq, exists_eq_left', true_and, and_true, reduceCtorEq, false_or, or_false, if_true, if_false, Bool.false_eq_true])
      have hc : count B ps mk = if b = true then 2 ^ (B.length - (T B ps).length) else 0 := by
        unfold count
        rw [hb]
        rfl
      have hpow : 2 ^ (B.length - (T B ps).length) ≤ 2 ^ 16 := Nat.pow_le_pow_right (by omega) (by omega)
      refine l_count n1 n2' hI.1 (by omega) g hml ?_
      rw [hc]
      generalize 2 ^ (B.length - (T B ps).length) = pw at *
      have cnt0 : ∀ {Q : Bool → Prop}, Q false → reprW [.int ((if b = true then pw else 0 : Nat) : Int)] fun d => iteW (fun P => truthW (.bool b) P) (fun P => P (.int (pw : Nat))) (fun P => P (.int 0)) fun d_1 => reprW [d_1] fun e => notB (eqW d e) Q := fun {Q} h => by
        have ti : ∀ k : Nat, k ≤ pw → Mi.Tm 0 10 (.int (k : Nat)) := fun k hk => Tm.int1 (by omega)
        cases b
        · refine (ti 0 (by omega)).repr (by omega) (by omega) ?_
          refine ite_go ?_
          simp only [truthW, Bool.false_eq_true, if_false]
          exact (ti 0 (by omega)).repr (by omega) (by omega) (ne_same (ti 0 (by omega)).ok h)
        · refine (ti pw (by omega)).repr (by omega) (by omega) ?_
          refine ite_go ?_
          simp only [truthW, if_true]
          exact (ti pw (by omega)).repr (by omega) (by omega) (ne_same (ti pw (by omega)).ok h)
      refine cnt0 ?_
      simp only [Bool.false_eq_true, if_false]
      refine pap ?_
      refine ne_repr vokt.tr (by omega) (by omega) ?_
      simp only [Bool.false_eq_true, if_false]
      refine ⟨by decide, l_law_other (by omega) hI.1 (by omega) ?_⟩
      refine l_some_row n1 (by omega) (GF.told_red (GF.free_len _ _)).len fun o ho => ?_
      have hol : o.length = n := ho.len (GF.told_red (GF.free_len _ _)).len
      refine ⟨by decide, l_row (by omega) fun r3 hr3 => ⟨by decide, l_row (by omega) fun r4 hr4 => ?_⟩⟩
      refine ⟨by decide, by decide, ⟨by omega, by omega⟩, ?_⟩
      rw [show (8 : Int).toNat = 8 from rfl, rangeD0]
      have hown : ∀ d ∈ [told, .tuple [.str "row", rowD some], .tuple [.str "none", rowD o], .tuple [.str "none", rowD r3], .tuple [.str "row", rowD r4]], Vd 999 2 d ∧ M d ≤ 400 := fun d hd => by
        have vin := oks "row" (by decide +kernel)
        have vout := oks "none" (by decide +kernel)
        have vr : ∀ r : Rw, r.length = n → Vd 999 2 (.tuple [.str "row", rowD r]) ∧ M (.tuple [.str "row", rowD r]) ≤ 400 := fun r h => ⟨vd_pair vin ((vd_row r).mono (by omega) (by omega)), by rw [M_pair, M_row]; omega⟩
        have vn : ∀ r : Rw, r.length = n → Vd 999 2 (.tuple [.str "none", rowD r]) ∧ M (.tuple [.str "none", rowD r]) ≤ 400 := fun r h => ⟨vd_pair vout ((vd_row r).mono (by omega) (by omega)), by rw [M_pair, M_row]; omega⟩
        simp only [List.mem_cons, List.not_mem_nil, or_false] at hd
        rcases hd with rfl | rfl | rfl | rfl | rfl
        · exact ⟨vt, Mt⟩
        · exact vr _ hsl
        · exact vn _ hol
        · exact vn _ hr3
        · exact vr _ hr4
      generalize hownE : [told, .tuple [.str "row", rowD some], .tuple [.str "none", rowD o], .tuple [.str "none", rowD r3], .tuple [.str "row", rowD r4]] = own at *
      have ownl : own.length = 5 := by rw [← hownE]; rfl
      refine mapW_any (α := Nat) (R := Vok) (fun i => .int (i : Nat)) _ (fun q hq k hk => ?_) fun ys hyl hys => ?_
      · (simp only [denF, startE, denSs, denS, seqS, denX, denE, denT, denW, denA, denC, denG, denGs, denI, denO, Bop.w, Cop.w, Bl.w, compF, bodyW, wipeE, setW, gSeqW, gConsW, gNilW, lenGs, enumW, itemsW, zipW, List.length_cons, List.length_nil, List.replicate, List.append, List.cons_append, List.nil_append, List.map_cons, List.map_nil, List.set, List.getElem?_cons_zero, List.getElem?_cons_succ, Option.some.injEq, Slot.v.injEq, Slot.own.injEq, exists_eq_left', true_and, and_true, reduceCtorEq, false_or, or_false, if_true, if_false, Bool.false_eq_true])
        refine ⟨by decide, ⟨by decide, by decide, by simp⟩, ?_⟩
        refine ⟨by simp; omega, l_law_of ?_ (by simp; omega) fun d hd => ?_⟩
        · intro e
          have := congrArg List.length e
          simp at this
        · have hd2 : Vd 999 2 d ∧ M d ≤ 400 := by
            rcases List.mem_append.mp hd with z | z
            · exact hown d z
            · have : d = told := by simpa using z
              rw [this]; exact ⟨vt, Mt⟩
          refine l_bent 12 hd2.1 (by omega) (by omega) (by omega) (by omega) fun r h1 h2 => hk r ⟨h1.mono (by omega) (by omega), by omega⟩
      · rw [List.length_range] at hyl
        refine ⟨by omega, by decide, idx1 (lst ⟨by decide, by simp; omega, ?_⟩)⟩
        refine l_bent 12 vt (by omega) (by omega) (by omega) (by omega) fun b1 g1 g2 => ?_
        refine l_bent 12 g1 (by omega) (by omega) (by omega) (by omega) fun b2 g3 g4 => ?_
        refine ⟨by decide, by simp; omega, ?_⟩
        have hall : ∀ d ∈ own ++ ys ++ [.none, .tuple [], v, .str "row", .list [.str w, v]] ++ [b2], Vok d := fun d hd => by
          simp only [List.mem_append, List.mem_cons, List.not_mem_nil, or_false] at hd
          rcases hd with ((hd | hd) | rfl | rfl | rfl | rfl | rfl) | rfl
          · have := hown d hd
            exact ⟨this.1.mono (by omega) (by omega), by omega⟩
          · exact hys d hd
          · exact ⟨.non, by simp only [M]; omega⟩
          · exact ⟨.tup fun d hd => by simp at hd, by simp only [M, KC.MA]; omega⟩
          · exact ⟨hvd.mono (by omega) (by omega), by omega⟩
          · exact ⟨.str (oks "row" (by decide +kernel)), by simp only [M]; omega⟩
          · refine ⟨.lst fun x hx => ?_, by simp only [M, KC.MA]; omega⟩
            simp only [List.mem_cons, List.not_mem_nil, or_false] at hx
            rcases hx with rfl | rfl
            · exact .str okb
            · exact hvd.mono (by omega) (by omega)
          · exact ⟨g3.mono (by omega) (by omega), by omega⟩
        generalize own ++ ys ++ [.none, .tuple [], v, .str "row", .list [.str w, v]] ++ [b2] = vals at *
        refine forS_indD (fun rest env => (∀ d ∈ rest, Vok d) ∧ ∃ y4 y7 y8 y9 y10 y11 y12 y13 y14 y16 y17, env = [.no, .src, .v (.int (i : Nat)), .v (codeD n B), y4, .v (natsD ps), .v (rowD mk), y7, y8, y9, y10, y11, y12, y13, y14, .v (.str (codeD n B).shown), y16, y17]) ?st3 ?dn3 vals _ ⟨hall, _, _, _, _, _, _, _, _, _, _, _, rfl⟩
        case dn3 =>
          rintro env ⟨_, y4, y7, y8, y9, y10, y11, y12, y13, y14, y16, y17, rfl⟩
          (simp only [denF, startE, denSs, denS, seqS, denX, denE, denT, denW, denA, denC, denG, denGs, denI, denO, Bop.w, Cop.w, Bl.w, compF, bodyW, wipeE, setW, gSeqW, gConsW, gNilW, lenGs, enumW, itemsW, zipW, List.length_cons, List.length_nil, List.replicate, List.append, List.cons_append, List.nil_append, List.map_cons, List.map_nil, List.set, List.getElem?_cons_zero, List.getElem?_cons_succ, Option.some.injEq, Slot.v.injEq, Slot.own.injEq, exists_eq_left', true_and, and_true, reduceCtorEq, false_or, or_false, if_true, if_false, Bool.false_eq_true])
          refine tc.repr (by omega) (by omega) (ne_same tc.ok ?_)
          simp only [Bool.false_eq_true, if_false]
          exact hF' _ _ _ _ _ _ _ _ _ _ _ _ _ _ _ _
        case st3 =>
          rintro d rest env ⟨hd, y4, y7, y8, y9, y10, y11, y12, y13, y14, y16, y17, rfl⟩ F2 hF2
          have hv1 := hd d (by simp)
          have tj := vd_judge (n := n) (B := B) (ps := ps) (mk := mk) d (by omega) (by omega) g.lt
          (simp only [denF, startE, denSs, denS, seqS, denX, denE, denT, denW, denA, denC, denG, denGs, denI, denO, Bop.w, Cop.w, Bl.w, compF, bodyW, wipeE, setW, gSeqW, gConsW, gNilW, lenGs, enumW, itemsW, zipW, List.length_cons, List.length_nil, List.replicate, List.append, List.cons_append, List.nil_append, List.map_cons, List.map_nil, List.set, List.getElem?_cons_zero, List.getElem?_cons_succ, Option.some.injEq, Slot.v.injEq, Slot.own.injEq, exists_eq_left', true_and, and_true, reduceCtorEq, false_or, or_false, if_true, if_false, Bool.false_eq_true])
          refine hv1.tr.repr (by omega) (by omega) ?_
          refine l_judge n1 (by omega) hI.1 (by omega) g.lt hml hv1.1.word (tj.repr (by omega) (by omega) ?_)
          refine l_fault n1 (by omega) hI (by omega) g.lt hml hv1.1.word (tj.repr (by omega) (by omega) (ne_same tj.ok ?_))
          simp only [Bool.false_eq_true, if_false]
          refine hv1.tr.repr (by omega) (by omega) (ne_same hv1.tr.ok ?_)
          simp only [Bool.false_eq_true, if_false]
          exact hF2 _ ⟨fun x hx => hd x (by simp [hx]), _, _, _, _, _, _, _, _, _, _, _, rfl⟩
end K70

set_option Elab.async false
set_option linter.all false
set_option maxRecDepth 100000
set_option maxHeartbeats 4000000
namespace K70
open PySem PySem.Spec PyProof.Rows L2 Mi KC
/-! ### the text -/
def topS (i : Nat) : Stmt := PySem.Challenge.pw_signedframes_k70_rows_with_told_marks.main.body.getD i (.Pass ⟨0, 0, 0, 0⟩)
abbrev s_sum_of : Stmt := topS 1
abbrev s_are_even : Stmt := topS 3
abbrev s_first_one : Stmt := topS 4
abbrev s_told_rows : Stmt := topS 5
abbrev s_sum_of_rows : Stmt := topS 6
abbrev s_free_base : Stmt := topS 8
abbrev s_has_row : Stmt := topS 9
abbrev s_lot_that_makes : Stmt := topS 10
abbrev s_reduced : Stmt := topS 11
abbrev s_is_integer : Stmt := topS 12
abbrev s_is_row : Stmt := topS 13
abbrev s_is_worded : Stmt := topS 14
abbrev s_first_odd : Stmt := topS 15
abbrev s_marks_at : Stmt := topS 17
abbrev s_seen_at : Stmt := topS 18
abbrev s_rank_at : Stmt := topS 19
abbrev s_marks_paper : Stmt := topS 20
abbrev s_judge_marks : Stmt := topS 21
abbrev s_marks_count : Stmt := topS 22
abbrev s__law_source : Stmt := topS 24
abbrev s__law_pick : Stmt := topS 25
abbrev s__law_of : Stmt := topS 26
abbrev s__law_mixed : Stmt := topS 27
abbrev s__law_sum : Stmt := topS 28
abbrev s__law_told : Stmt := topS 29
abbrev s__law_row : Stmt := topS 30
abbrev s__law_base : Stmt := topS 31
abbrev s__law_code : Stmt := topS 32
abbrev s__law_some_row : Stmt := topS 33
abbrev s__law_is_odd : Stmt := topS 34
abbrev s__law_leading : Stmt := topS 35
abbrev s__law_free : Stmt := topS 36
abbrev s__law_other : Stmt := topS 37
abbrev s__law_has : Stmt := topS 38
abbrev s__law_number : Stmt := topS 39
abbrev s__law_are_below : Stmt := topS 40
abbrev s__law_is_row : Stmt := topS 41
abbrev s__law_bent : Stmt := topS 42
abbrev s__law_places : Stmt := topS 43
abbrev s__law_at : Stmt := topS 44
abbrev s__law_seen : Stmt := topS 45
abbrev s__law_fault : Stmt := topS 46
abbrev s_law : Stmt := topS 47
theorem sc_sum_of : FnScope N_sum_of ["one", "other"] (defScope s_sum_of) := ⟨rfl, rfl, rfl, by decide +kernel, rfl, by decide +kernel, by decide +kernel⟩
theorem ck_sum_of : chkSs (defScope s_sum_of) (defScope s_sum_of) N_sum_of m_sum_of (defBody s_sum_of) = true := by decide +kernel
def d_sum_of : He.DefD := ⟨("sum_of", none), "sum_of", "sum_of", defArgs s_sum_of, defBody s_sum_of, defScope s_sum_of, [], []⟩
theorem sc_are_even : FnScope N_are_even ["one", "other"] (defScope s_are_even) := ⟨rfl, rfl, rfl, by decide +kernel, rfl, by decide +kernel, by decide +kernel⟩
theorem ck_are_even : chkSs (defScope s_are_even) (defScope s_are_even) N_are_even m_are_even (defBody s_are_even) = true := by decide +kernel
def d_are_even : He.DefD := ⟨("are_even", none), "are_even", "are_even", defArgs s_are_even, defBody s_are_even, defScope s_are_even, [], []⟩
theorem sc_first_one : FnScope N_first_one ["row"] (defScope s_first_one) := ⟨rfl, rfl, rfl, by decide +kernel, rfl, by decide +kernel, by decide +kernel⟩
theorem ck_first_one : chkSs (defScope s_first_one) (defScope s_first_one) N_first_one m_first_one (defBody s_first_one) = true := by decide +kernel
def d_first_one : He.DefD := ⟨("first_one", none), "first_one", "first_one", defArgs s_first_one, defBody s_first_one, defScope s_first_one, [], []⟩
theorem sc_told_rows : FnScope N_told_rows ["rows"] (defScope s_told_rows) := ⟨rfl, rfl, rfl, by decide +kernel, rfl, by decide +kernel, by decide +kernel⟩
theorem ck_told_rows : chkSs (defScope s_told_rows) (defScope s_told_rows) N_told_rows m_told_rows (defBody s_told_rows) = true := by decide +kernel
def d_told_rows : He.DefD := ⟨("told_rows", none), "told_rows", "told_rows", defArgs s_told_rows, defBody s_told_rows, defScope s_told_rows, [], []⟩
theorem sc_sum_of_rows : FnScope N_sum_of_rows ["n", "rows"] (defScope s_sum_of_rows) := ⟨rfl, rfl, rfl, by decide +kernel, rfl, by decide +kernel, by decide +kernel⟩
theorem ck_sum_of_rows : chkSs (defScope s_sum_of_rows) (defScope s_sum_of_rows) N_sum_of_rows m_sum_of_rows (defBody s_sum_of_rows) = true := by decide +kernel
def d_sum_of_rows : He.DefD := ⟨("sum_of_rows", none), "sum_of_rows", "sum_of_rows", defArgs s_sum_of_rows, defBody s_sum_of_rows, defScope s_sum_of_rows, [], []⟩
theorem sc_free_base : FnScope N_free_base ["code"] (defScope s_free_base) := ⟨rfl, rfl, rfl, by decide +kernel, rfl, by decide +kernel, by decide +kernel⟩
theorem ck_free_base : chkSs (defScope s_free_base) (defScope s_free_base) N_free_base m_free_base (defBody s_free_base) = true := by decide +kernel
def d_free_base : He.DefD := ⟨("free_base", none), "free_base", "free_base", defArgs s_free_base, defBody s_free_base, defScope s_free_base, [], []⟩
theorem sc_has_row : FnScope N_has_row ["code", "row"] (defScope s_has_row) := ⟨rfl, rfl, rfl, by decide +kernel, rfl, by decide +kernel, by decide +kernel⟩
theorem ck_has_row : chkSs (defScope s_has_row) (defScope s_has_row) N_has_row m_has_row (defBody s_has_row) = true := by decide +kernel
def d_has_row : He.DefD := ⟨("has_row", none), "has_row", "has_row", defArgs s_has_row, defBody s_has_row, defScope s_has_row, [], []⟩
theorem sc_lot_that_makes : FnScope N_lot_that_makes ["rows", "row"] (defScope s_lot_that_makes) := ⟨rfl, rfl, rfl, by decide +kernel, rfl, by decide +kernel, by decide +kernel⟩
theorem ck_lot_that_makes : chkSs (defScope s_lot_that_makes) (defScope s_lot_that_makes) N_lot_that_makes m_lot_that_makes (defBody s_lot_that_makes) = true := by decide +kernel
def d_lot_that_makes : He.DefD := ⟨("lot_that_makes", none), "lot_that_makes", "lot_that_makes", defArgs s_lot_that_makes, defBody s_lot_that_makes, defScope s_lot_that_makes, [], []⟩
theorem sc_reduced : FnScope N_reduced ["pair", "found"] (defScope s_reduced) := ⟨rfl, rfl, rfl, by decide +kernel, rfl, by decide +kernel, by decide +kernel⟩
theorem ck_reduced : chkSs (defScope s_reduced) (defScope s_reduced) N_reduced m_reduced (defBody s_reduced) = true := by decide +kernel
def d_reduced : He.DefD := ⟨("reduced", none), "reduced", "reduced", defArgs s_reduced, defBody s_reduced, defScope s_reduced, [], []⟩
theorem sc_is_integer : FnScope N_is_integer ["value"] (defScope s_is_integer) := ⟨rfl, rfl, rfl, by decide +kernel, rfl, by decide +kernel, by decide +kernel⟩
theorem ck_is_integer : chkSs (defScope s_is_integer) (defScope s_is_integer) N_is_integer m_is_integer (defBody s_is_integer) = true := by decide +kernel
def d_is_integer : He.DefD := ⟨("is_integer", none), "is_integer", "is_integer", defArgs s_is_integer, defBody s_is_integer, defScope s_is_integer, [], []⟩
theorem sc_is_row : FnScope N_is_row ["n", "value"] (defScope s_is_row) := ⟨rfl, rfl, rfl, by decide +kernel, rfl, by decide +kernel, by decide +kernel⟩
theorem ck_is_row : chkSs (defScope s_is_row) (defScope s_is_row) N_is_row m_is_row (defBody s_is_row) = true := by decide +kernel
def d_is_row : He.DefD := ⟨("is_row", none), "is_row", "is_row", defArgs s_is_row, defBody s_is_row, defScope s_is_row, [], []⟩
theorem sc_is_worded : FnScope N_is_worded ["value", "words"] (defScope s_is_worded) := ⟨rfl, rfl, rfl, by decide +kernel, rfl, by decide +kernel, by decide +kernel⟩
theorem ck_is_worded : chkSs (defScope s_is_worded) (defScope s_is_worded) N_is_worded m_is_worded (defBody s_is_worded) = true := by decide +kernel
def d_is_worded : He.DefD := ⟨("is_worded", none), "is_worded", "is_worded", defArgs s_is_worded, defBody s_is_worded, defScope s_is_worded, [], []⟩
theorem sc_first_odd : FnScope N_first_odd ["base", "row"] (defScope s_first_odd) := ⟨rfl, rfl, rfl, by decide +kernel, rfl, by decide +kernel, by decide +kernel⟩
theorem ck_first_odd : chkSs (defScope s_first_odd) (defScope s_first_odd) N_first_odd m_first_odd (defBody s_first_odd) = true := by decide +kernel
def d_first_odd : He.DefD := ⟨("first_odd", none), "first_odd", "first_odd", defArgs s_first_odd, defBody s_first_odd, defScope s_first_odd, [], []⟩
theorem sc_marks_at : FnScope N_marks_at ["row", "places"] (defScope s_marks_at) := ⟨rfl, rfl, rfl, by decide +kernel, rfl, by decide +kernel, by decide +kernel⟩
theorem ck_marks_at : chkSs (defScope s_marks_at) (defScope s_marks_at) N_marks_at m_marks_at (defBody s_marks_at) = true := by decide +kernel
def d_marks_at : He.DefD := ⟨("marks_at", none), "marks_at", "marks_at", defArgs s_marks_at, defBody s_marks_at, defScope s_marks_at, [], []⟩
theorem sc_seen_at : FnScope N_seen_at ["code", "places"] (defScope s_seen_at) := ⟨rfl, rfl, rfl, by decide +kernel, rfl, by decide +kernel, by decide +kernel⟩
theorem ck_seen_at : chkSs (defScope s_seen_at) (defScope s_seen_at) N_seen_at m_seen_at (defBody s_seen_at) = true := by decide +kernel
def d_seen_at : He.DefD := ⟨("seen_at", none), "seen_at", "seen_at", defArgs s_seen_at, defBody s_seen_at, defScope s_seen_at, [], []⟩
theorem sc_rank_at : FnScope N_rank_at ["code", "places"] (defScope s_rank_at) := ⟨rfl, rfl, rfl, by decide +kernel, rfl, by decide +kernel, by decide +kernel⟩
theorem ck_rank_at : chkSs (defScope s_rank_at) (defScope s_rank_at) N_rank_at m_rank_at (defBody s_rank_at) = true := by decide +kernel
def d_rank_at : He.DefD := ⟨("rank_at", none), "rank_at", "rank_at", defArgs s_rank_at, defBody s_rank_at, defScope s_rank_at, [], []⟩
theorem sc_marks_paper : FnScope N_marks_paper ["code", "places", "marks"] (defScope s_marks_paper) := ⟨rfl, rfl, rfl, by decide +kernel, rfl, by decide +kernel, by decide +kernel⟩
theorem ck_marks_paper : chkSs (defScope s_marks_paper) (defScope s_marks_paper) N_marks_paper m_marks_paper (defBody s_marks_paper) = true := by decide +kernel
def d_marks_paper : He.DefD := ⟨("marks_paper", none), "marks_paper", "marks_paper", defArgs s_marks_paper, defBody s_marks_paper, defScope s_marks_paper, [], []⟩
theorem sc_judge_marks : FnScope N_judge_marks ["code", "places", "marks", "value"] (defScope s_judge_marks) := ⟨rfl, rfl, rfl, by decide +kernel, rfl, by decide +kernel, by decide +kernel⟩
theorem ck_judge_marks : chkSs (defScope s_judge_marks) (defScope s_judge_marks) N_judge_marks m_judge_marks (defBody s_judge_marks) = true := by decide +kernel
def d_judge_marks : He.DefD := ⟨("judge_marks", none), "judge_marks", "judge_marks", defArgs s_judge_marks, defBody s_judge_marks, defScope s_judge_marks, [], []⟩
theorem sc_marks_count : FnScope N_marks_count ["code", "places", "marks"] (defScope s_marks_count) := ⟨rfl, rfl, rfl, by decide +kernel, rfl, by decide +kernel, by decide +kernel⟩
theorem ck_marks_count : chkSs (defScope s_marks_count) (defScope s_marks_count) N_marks_count m_marks_count (defBody s_marks_count) = true := by decide +kernel
def d_marks_count : He.DefD := ⟨("marks_count", none), "marks_count", "marks_count", defArgs s_marks_count, defBody s_marks_count, defScope s_marks_count, [], []⟩
theorem sc__law_source : FnScope ["script", "mixed", "cell"] ["script"] (defScope s__law_source) := ⟨rfl, rfl, rfl, by decide +kernel, rfl, by decide +kernel, by decide +kernel⟩
theorem ck__law_source : isSrcDef (defScope s__law_source) (defBody s__law_source) = true := by decide +kernel
def d__law_source : He.DefD := ⟨("_law_source", none), "_law_source", "_law_source", defArgs s__law_source, defBody s__law_source, defScope s__law_source, [], []⟩
theorem sc__law_pick : FnScope N__law_pick ["source", "many"] (defScope s__law_pick) := ⟨rfl, rfl, rfl, by decide +kernel, rfl, by decide +kernel, by decide +kernel⟩
theorem ck__law_pick : chkSs (defScope s__law_pick) (defScope s__law_pick) N__law_pick m__law_pick (defBody s__law_pick) = true := by decide +kernel
def d__law_pick : He.DefD := ⟨("_law_pick", none), "_law_pick", "_law_pick", defArgs s__law_pick, defBody s__law_pick, defScope s__law_pick, [], []⟩
theorem sc__law_of : FnScope N__law_of ["source", "some"] (defScope s__law_of) := ⟨rfl, rfl, rfl, by decide +kernel, rfl, by decide +kernel, by decide +kernel⟩
theorem ck__law_of : chkSs (defScope s__law_of) (defScope s__law_of) N__law_of m__law_of (defBody s__law_of) = true := by decide +kernel
def d__law_of : He.DefD := ⟨("_law_of", none), "_law_of", "_law_of", defArgs s__law_of, defBody s__law_of, defScope s__law_of, [], []⟩
theorem sc__law_mixed : FnScope N__law_mixed ["source", "things"] (defScope s__law_mixed) := ⟨rfl, rfl, rfl, by decide +kernel, rfl, by decide +kernel, by decide +kernel⟩
theorem ck__law_mixed : chkSs (defScope s__law_mixed) (defScope s__law_mixed) N__law_mixed m__law_mixed (defBody s__law_mixed) = true := by decide +kernel
def d__law_mixed : He.DefD := ⟨("_law_mixed", none), "_law_mixed", "_law_mixed", defArgs s__law_mixed, defBody s__law_mixed, defScope s__law_mixed, [], []⟩
theorem sc__law_sum : FnScope N__law_sum ["one", "other"] (defScope s__law_sum) := ⟨rfl, rfl, rfl, by decide +kernel, rfl, by decide +kernel, by decide +kernel⟩
theorem ck__law_sum : chkSs (defScope s__law_sum) (defScope s__law_sum) N__law_sum m__law_sum (defBody s__law_sum) = true := by decide +kernel
def d__law_sum : He.DefD := ⟨("_law_sum", none), "_law_sum", "_law_sum", defArgs s__law_sum, defBody s__law_sum, defScope s__law_sum, [], []⟩
theorem sc__law_told : FnScope N__law_told ["n", "rows"] (defScope s__law_told) := ⟨rfl, rfl, rfl, by decide +kernel, rfl, by decide +kernel, by decide +kernel⟩
theorem ck__law_told : chkSs (defScope s__law_told) (defScope s__law_told) N__law_told m__law_told (defBody s__law_told) = true := by decide +kernel
def d__law_told : He.DefD := ⟨("_law_told", none), "_law_told", "_law_told", defArgs s__law_told, defBody s__law_told, defScope s__law_told, [], []⟩
theorem sc__law_row : FnScope N__law_row ["source", "n"] (defScope s__law_row) := ⟨rfl, rfl, rfl, by decide +kernel, rfl, by decide +kernel, by decide +kernel⟩
theorem ck__law_row : chkSs (defScope s__law_row) (defScope s__law_row) N__law_row m__law_row (defBody s__law_row) = true := by decide +kernel
def d__law_row : He.DefD := ⟨("_law_row", none), "_law_row", "_law_row", defArgs s__law_row, defBody s__law_row, defScope s__law_row, [], []⟩
theorem sc__law_base : FnScope N__law_base ["source", "n", "k"] (defScope s__law_base) := ⟨rfl, rfl, rfl, by decide +kernel, rfl, by decide +kernel, by decide +kernel⟩
theorem ck__law_base : chkSs (defScope s__law_base) (defScope s__law_base) N__law_base m__law_base (defBody s__law_base) = true := by decide +kernel
def d__law_base : He.DefD := ⟨("_law_base", none), "_law_base", "_law_base", defArgs s__law_base, defBody s__law_base, defScope s__law_base, [], []⟩
theorem sc__law_code : FnScope N__law_code ["source", "most"] (defScope s__law_code) := ⟨rfl, rfl, rfl, by decide +kernel, rfl, by decide +kernel, by decide +kernel⟩
theorem ck__law_code : chkSs (defScope s__law_code) (defScope s__law_code) N__law_code m__law_code (defBody s__law_code) = true := by decide +kernel
def d__law_code : He.DefD := ⟨("_law_code", none), "_law_code", "_law_code", defArgs s__law_code, defBody s__law_code, defScope s__law_code, [], []⟩
theorem sc__law_some_row : FnScope N__law_some_row ["source", "code"] (defScope s__law_some_row) := ⟨rfl, rfl, rfl, by decide +kernel, rfl, by decide +kernel, by decide +kernel⟩
theorem ck__law_some_row : chkSs (defScope s__law_some_row) (defScope s__law_some_row) N__law_some_row m__law_some_row (defBody s__law_some_row) = true := by decide +kernel
def d__law_some_row : He.DefD := ⟨("_law_some_row", none), "_law_some_row", "_law_some_row", defArgs s__law_some_row, defBody s__law_some_row, defScope s__law_some_row, [], []⟩
theorem sc__law_is_odd : FnScope N__law_is_odd ["one", "other"] (defScope s__law_is_odd) := ⟨rfl, rfl, rfl, by decide +kernel, rfl, by decide +kernel, by decide +kernel⟩
theorem ck__law_is_odd : chkSs (defScope s__law_is_odd) (defScope s__law_is_odd) N__law_is_odd m__law_is_odd (defBody s__law_is_odd) = true := by decide +kernel
def d__law_is_odd : He.DefD := ⟨("_law_is_odd", none), "_law_is_odd", "_law_is_odd", defArgs s__law_is_odd, defBody s__law_is_odd, defScope s__law_is_odd, [], []⟩
theorem sc__law_leading : FnScope N__law_leading ["base"] (defScope s__law_leading) := ⟨rfl, rfl, rfl, by decide +kernel, rfl, by decide +kernel, by decide +kernel⟩
theorem ck__law_leading : chkSs (defScope s__law_leading) (defScope s__law_leading) N__law_leading m__law_leading (defBody s__law_leading) = true := by decide +kernel
def d__law_leading : He.DefD := ⟨("_law_leading", none), "_law_leading", "_law_leading", defArgs s__law_leading, defBody s__law_leading, defScope s__law_leading, [], []⟩
theorem sc__law_free : FnScope N__law_free ["n", "rows"] (defScope s__law_free) := ⟨rfl, rfl, rfl, by decide +kernel, rfl, by decide +kernel, by decide +kernel⟩
theorem ck__law_free : chkSs (defScope s__law_free) (defScope s__law_free) N__law_free m__law_free (defBody s__law_free) = true := by decide +kernel
def d__law_free : He.DefD := ⟨("_law_free", none), "_law_free", "_law_free", defArgs s__law_free, defBody s__law_free, defScope s__law_free, [], []⟩
theorem sc__law_other : FnScope N__law_other ["code"] (defScope s__law_other) := ⟨rfl, rfl, rfl, by decide +kernel, rfl, by decide +kernel, by decide +kernel⟩
theorem ck__law_other : chkSs (defScope s__law_other) (defScope s__law_other) N__law_other m__law_other (defBody s__law_other) = true := by decide +kernel
def d__law_other : He.DefD := ⟨("_law_other", none), "_law_other", "_law_other", defArgs s__law_other, defBody s__law_other, defScope s__law_other, [], []⟩
theorem sc__law_has : FnScope N__law_has ["code", "row"] (defScope s__law_has) := ⟨rfl, rfl, rfl, by decide +kernel, rfl, by decide +kernel, by decide +kernel⟩
theorem ck__law_has : chkSs (defScope s__law_has) (defScope s__law_has) N__law_has m__law_has (defBody s__law_has) = true := by decide +kernel
def d__law_has : He.DefD := ⟨("_law_has", none), "_law_has", "_law_has", defArgs s__law_has, defBody s__law_has, defScope s__law_has, [], []⟩
theorem sc__law_number : FnScope N__law_number ["value"] (defScope s__law_number) := ⟨rfl, rfl, rfl, by decide +kernel, rfl, by decide +kernel, by decide +kernel⟩
theorem ck__law_number : chkSs (defScope s__law_number) (defScope s__law_number) N__law_number m__law_number (defBody s__law_number) = true := by decide +kernel
def d__law_number : He.DefD := ⟨("_law_number", none), "_law_number", "_law_number", defArgs s__law_number, defBody s__law_number, defScope s__law_number, [], []⟩
theorem sc__law_are_below : FnScope N__law_are_below ["value", "most"] (defScope s__law_are_below) := ⟨rfl, rfl, rfl, by decide +kernel, rfl, by decide +kernel, by decide +kernel⟩
theorem ck__law_are_below : chkSs (defScope s__law_are_below) (defScope s__law_are_below) N__law_are_below m__law_are_below (defBody s__law_are_below) = true := by decide +kernel
def d__law_are_below : He.DefD := ⟨("_law_are_below", none), "_law_are_below", "_law_are_below", defArgs s__law_are_below, defBody s__law_are_below, defScope s__law_are_below, [], []⟩
theorem sc__law_is_row : FnScope N__law_is_row ["n", "value"] (defScope s__law_is_row) := ⟨rfl, rfl, rfl, by decide +kernel, rfl, by decide +kernel, by decide +kernel⟩
theorem ck__law_is_row : chkSs (defScope s__law_is_row) (defScope s__law_is_row) N__law_is_row m__law_is_row (defBody s__law_is_row) = true := by decide +kernel
def d__law_is_row : He.DefD := ⟨("_law_is_row", none), "_law_is_row", "_law_is_row", defArgs s__law_is_row, defBody s__law_is_row, defScope s__law_is_row, [], []⟩
theorem sc__law_bent : FnScope N__law_bent ["source", "value"] (defScope s__law_bent) := ⟨rfl, rfl, rfl, by decide +kernel, rfl, by decide +kernel, by decide +kernel⟩
theorem ck__law_bent (φ : Fm) : chkSs (defScope s__law_bent) (defScope s__law_bent) N__law_bent (m__law_bent φ) (defBody s__law_bent) = true := by kernel_rfl
def d__law_bent : He.DefD := ⟨("_law_bent", none), "_law_bent", "_law_bent", defArgs s__law_bent, defBody s__law_bent, defScope s__law_bent, [], []⟩
theorem sc__law_places : FnScope N__law_places ["source", "n"] (defScope s__law_places) := ⟨rfl, rfl, rfl, by decide +kernel, rfl, by decide +kernel, by decide +kernel⟩
theorem ck__law_places : chkSs (defScope s__law_places) (defScope s__law_places) N__law_places m__law_places (defBody s__law_places) = true := by decide +kernel
def d__law_places : He.DefD := ⟨("_law_places", none), "_law_places", "_law_places", defArgs s__law_places, defBody s__law_places, defScope s__law_places, [], []⟩
theorem sc__law_at : FnScope N__law_at ["row", "places"] (defScope s__law_at) := ⟨rfl, rfl, rfl, by decide +kernel, rfl, by decide +kernel, by decide +kernel⟩
theorem ck__law_at : chkSs (defScope s__law_at) (defScope s__law_at) N__law_at m__law_at (defBody s__law_at) = true := by decide +kernel
def d__law_at : He.DefD := ⟨("_law_at", none), "_law_at", "_law_at", defArgs s__law_at, defBody s__law_at, defScope s__law_at, [], []⟩
theorem sc__law_seen : FnScope N__law_seen ["code", "places"] (defScope s__law_seen) := ⟨rfl, rfl, rfl, by decide +kernel, rfl, by decide +kernel, by decide +kernel⟩
theorem ck__law_seen : chkSs (defScope s__law_seen) (defScope s__law_seen) N__law_seen m__law_seen (defBody s__law_seen) = true := by decide +kernel
def d__law_seen : He.DefD := ⟨("_law_seen", none), "_law_seen", "_law_seen", defArgs s__law_seen, defBody s__law_seen, defScope s__law_seen, [], []⟩
theorem sc__law_fault : FnScope N__law_fault ["code", "places", "marks", "value"] (defScope s__law_fault) := ⟨rfl, rfl, rfl, by decide +kernel, rfl, by decide +kernel, by decide +kernel⟩
theorem ck__law_fault : chkSs (defScope s__law_fault) (defScope s__law_fault) N__law_fault m__law_fault (defBody s__law_fault) = true := by decide +kernel
def d__law_fault : He.DefD := ⟨("_law_fault", none), "_law_fault", "_law_fault", defArgs s__law_fault, defBody s__law_fault, defScope s__law_fault, [], []⟩
theorem sc_law : FnScope N_law ["script"] (defScope s_law) := ⟨rfl, rfl, rfl, by decide +kernel, rfl, by decide +kernel, by decide +kernel⟩
theorem ck_law : isLaw (defScope s_law) N_law m_law (defBody s_law) = true := by decide +kernel
def d_law : He.DefD := ⟨("law", none), "law", "law", defArgs s_law, defBody s_law, defScope s_law, [], []⟩
def fn : List He.DefD := [d_sum_of, d_are_even, d_first_one, d_told_rows, d_sum_of_rows, d_free_base, d_has_row, d_lot_that_makes, d_reduced, d_is_integer, d_is_row, d_is_worded, d_first_odd, d_marks_at, d_seen_at, d_rank_at, d_marks_paper, d_judge_marks, d_marks_count, d__law_source, d__law_pick, d__law_of, d__law_mixed, d__law_sum, d__law_told, d__law_row, d__law_base, d__law_code, d__law_some_row, d__law_is_odd, d__law_leading, d__law_free, d__law_other, d__law_has, d__law_number, d__law_are_below, d__law_is_row, d__law_bent, d__law_places, d__law_at, d__law_seen, d__law_fault, d_law]
def fg : List He.Fa := [.glo "sum_of", .glo "are_even", .glo "first_one", .glo "told_rows", .glo "sum_of_rows", .glo "free_base", .glo "has_row", .glo "lot_that_makes", .glo "reduced", .glo "is_integer", .glo "is_row", .glo "is_worded", .glo "first_odd", .glo "marks_at", .glo "seen_at", .glo "rank_at", .glo "marks_paper", .glo "judge_marks", .glo "marks_count", .glo "_law_source", .glo "_law_pick", .glo "_law_of", .glo "_law_mixed", .glo "_law_sum", .glo "_law_told", .glo "_law_row", .glo "_law_base", .glo "_law_code", .glo "_law_some_row", .glo "_law_is_odd", .glo "_law_leading", .glo "_law_free", .glo "_law_other", .glo "_law_has", .glo "_law_number", .glo "_law_are_below", .glo "_law_is_row", .glo "_law_bent", .glo "_law_places", .glo "_law_at", .glo "_law_seen", .glo "_law_fault", .glo "law"]
abbrev fa : List He.Fa := fg ++ bltNames.map He.Fa.free
abbrev R : PySem.W.OpenRow := PySem.W.OpenLaw.row PySem.Challenge.rw_signedframes_k70_rows_with_told_marks
abbrev hk : PySem.W.Hook := hookS 4 fa fn
def ob (s : PySem.W.SharedT) : He.AlD × Bool := obsS 4 fa fn (HandSHeadRun.getT s)
theorem ob_eq (s : PySem.W.SharedT) : ob s = hk.obs s.abs := obsS_eq (HandSHeadRun.getT_eq s)
def ls0 : List Str := ["sum_of", "are_even", "first_one", "told_rows", "sum_of_rows", "free_base", "has_row", "lot_that_makes", "reduced", "is_integer", "is_row", "is_worded", "first_odd", "marks_at", "seen_at", "rank_at", "marks_paper", "judge_marks", "marks_count", "_law_source", "_law_pick", "_law_of", "_law_mixed", "_law_sum", "_law_told", "_law_row", "_law_base", "_law_code", "_law_some_row", "_law_is_odd"]
def ls1 : List Str := ["_law_leading", "_law_free", "_law_other", "_law_has", "_law_number", "_law_are_below", "_law_is_row", "_law_bent", "_law_places", "_law_at", "_law_seen", "_law_fault"]
def ls : List Str := ls0 ++ ls1
theorem run (w : World) : HandSHeadRun.RunEq R (PySem.W.view R.prog [47]) hk ob 2000 ls w := by
  intro os
  kernel_rfl
theorem facts {w : World} {K : PySem.W.Frag} {h : Heap} {mg : Str → Option Value} {f : Addr} (KX : K.In h) (c : He.SaysD fa fn K) (G : h.Ns mainGlobals mg) (hf : mg ("law" : Str) = some (.ref f)) :
    ∃ fd : FuncData, (∀ (s : Shared) (u : Value), BindsTo s fd ⟨[u], []⟩ [(("script" : Str), u)]) ∧ ∀ base : Heap, K.In base → base.Ns mainGlobals mg → (∃ o, base.get? sysModules = some o) → FnG PySem.Challenge.pw_signedframes_k70_rows_with_told_marks w K mg base 15 f fd ["script"] (spLaw K) := by
  obtain ⟨fd_sum_of, FF_sum_of⟩ := c.def_ 0 (d := d_sum_of) rfl
  obtain ⟨fd_are_even, FF_are_even⟩ := c.def_ 1 (d := d_are_even) rfl
  obtain ⟨fd_first_one, FF_first_one⟩ := c.def_ 2 (d := d_first_one) rfl
  obtain ⟨fd_told_rows, FF_told_rows⟩ := c.def_ 3 (d := d_told_rows) rfl
  obtain ⟨fd_sum_of_rows, FF_sum_of_rows⟩ := c.def_ 4 (d := d_sum_of_rows) rfl
  obtain ⟨fd_free_base, FF_free_base⟩ := c.def_ 5 (d := d_free_base) rfl
  obtain ⟨fd_has_row, FF_has_row⟩ := c.def_ 6 (d := d_has_row) rfl
  obtain ⟨fd_lot_that_makes, FF_lot_that_makes⟩ := c.def_ 7 (d := d_lot_that_makes) rfl
  obtain ⟨fd_reduced, FF_reduced⟩ := c.def_ 8 (d := d_reduced) rfl
  obtain ⟨fd_is_integer, FF_is_integer⟩ := c.def_ 9 (d := d_is_integer) rfl
  obtain ⟨fd_is_row, FF_is_row⟩ := c.def_ 10 (d := d_is_row) rfl
  obtain ⟨fd_is_worded, FF_is_worded⟩ := c.def_ 11 (d := d_is_worded) rfl
  obtain ⟨fd_first_odd, FF_first_odd⟩ := c.def_ 12 (d := d_first_odd) rfl
  obtain ⟨fd_marks_at, FF_marks_at⟩ := c.def_ 13 (d := d_marks_at) rfl
  obtain ⟨fd_seen_at, FF_seen_at⟩ := c.def_ 14 (d := d_seen_at) rfl
  obtain ⟨fd_rank_at, FF_rank_at⟩ := c.def_ 15 (d := d_rank_at) rfl
  obtain ⟨fd_marks_paper, FF_marks_paper⟩ := c.def_ 16 (d := d_marks_paper) rfl
  obtain ⟨fd_judge_marks, FF_judge_marks⟩ := c.def_ 17 (d := d_judge_marks) rfl
  obtain ⟨fd_marks_count, FF_marks_count⟩ := c.def_ 18 (d := d_marks_count) rfl
  obtain ⟨fd__law_source, FF__law_source⟩ := c.def_ 19 (d := d__law_source) rfl
  obtain ⟨fd__law_pick, FF__law_pick⟩ := c.def_ 20 (d := d__law_pick) rfl
  obtain ⟨fd__law_of, FF__law_of⟩ := c.def_ 21 (d := d__law_of) rfl
  obtain ⟨fd__law_mixed, FF__law_mixed⟩ := c.def_ 22 (d := d__law_mixed) rfl
  obtain ⟨fd__law_sum, FF__law_sum⟩ := c.def_ 23 (d := d__law_sum) rfl
  obtain ⟨fd__law_told, FF__law_told⟩ := c.def_ 24 (d := d__law_told) rfl
  obtain ⟨fd__law_row, FF__law_row⟩ := c.def_ 25 (d := d__law_row) rfl
  obtain ⟨fd__law_base, FF__law_base⟩ := c.def_ 26 (d := d__law_base) rfl
  obtain ⟨fd__law_code, FF__law_code⟩ := c.def_ 27 (d := d__law_code) rfl
  obtain ⟨fd__law_some_row, FF__law_some_row⟩ := c.def_ 28 (d := d__law_some_row) rfl
  obtain ⟨fd__law_is_odd, FF__law_is_odd⟩ := c.def_ 29 (d := d__law_is_odd) rfl
  obtain ⟨fd__law_leading, FF__law_leading⟩ := c.def_ 30 (d := d__law_leading) rfl
  obtain ⟨fd__law_free, FF__law_free⟩ := c.def_ 31 (d := d__law_free) rfl
  obtain ⟨fd__law_other, FF__law_other⟩ := c.def_ 32 (d := d__law_other) rfl
  obtain ⟨fd__law_has, FF__law_has⟩ := c.def_ 33 (d := d__law_has) rfl
  obtain ⟨fd__law_number, FF__law_number⟩ := c.def_ 34 (d := d__law_number) rfl
  obtain ⟨fd__law_are_below, FF__law_are_below⟩ := c.def_ 35 (d := d__law_are_below) rfl
  obtain ⟨fd__law_is_row, FF__law_is_row⟩ := c.def_ 36 (d := d__law_is_row) rfl
  obtain ⟨fd__law_bent, FF__law_bent⟩ := c.def_ 37 (d := d__law_bent) rfl
  obtain ⟨fd__law_places, FF__law_places⟩ := c.def_ 38 (d := d__law_places) rfl
  obtain ⟨fd__law_at, FF__law_at⟩ := c.def_ 39 (d := d__law_at) rfl
  obtain ⟨fd__law_seen, FF__law_seen⟩ := c.def_ 40 (d := d__law_seen) rfl
  obtain ⟨fd__law_fault, FF__law_fault⟩ := c.def_ 41 (d := d__law_fault) rfl
  obtain ⟨fd_law, FF_law⟩ := c.def_ 42 (d := d_law) rfl
  have e := hf.symm.trans (glo_of KX G c 42 rfl)
  cases e
  have b := FunD.bindsA (ps := ["script"]) FF_law (fun _ _ _ _ _ _ us hl => match us, hl with | [_], _ => rfl)
  refine ⟨fd_law, fun s v => b s [v] rfl, fun base _ _ hs => ?_⟩
  have T : TextOk K mg base := text_ok KX G c hs
  have k__law_source : FnG PySem.Challenge.pw_signedframes_k70_rows_with_told_marks w K mg base 1 (He.ga K "_law_source") fd__law_source ["script"] (spSrc K) := fn_src (x := "_law_source") (qual := "_law_source") (st := s__law_source) T FF__law_source sc__law_source ck__law_source
  have k_sum_of : Kn PySem.Challenge.pw_signedframes_k70_rows_with_told_marks w K mg base 1 "sum_of" 2 F_sum_of := kn_m (k := 0) (x := "sum_of") (qual := "sum_of") (st := s_sum_of) (mg := mg) T FF_sum_of (glo_of KX G c 0 rfl) sc_sum_of rfl (fun _ _ _ _ _ _ us hl => match us, hl with | [_, _], _ => rfl) ck_sum_of trivial
  have k_are_even : Kn PySem.Challenge.pw_signedframes_k70_rows_with_told_marks w K mg base 1 "are_even" 2 F_are_even := kn_m (k := 0) (x := "are_even") (qual := "are_even") (st := s_are_even) (mg := mg) T FF_are_even (glo_of KX G c 1 rfl) sc_are_even rfl (fun _ _ _ _ _ _ us hl => match us, hl with | [_, _], _ => rfl) ck_are_even trivial
  have k_first_one : Kn PySem.Challenge.pw_signedframes_k70_rows_with_told_marks w K mg base 1 "first_one" 1 F_first_one := kn_m (k := 0) (x := "first_one") (qual := "first_one") (st := s_first_one) (mg := mg) T FF_first_one (glo_of KX G c 2 rfl) sc_first_one rfl (fun _ _ _ _ _ _ us hl => match us, hl with | [_], _ => rfl) ck_first_one trivial
  have k_told_rows : Kn PySem.Challenge.pw_signedframes_k70_rows_with_told_marks w K mg base 2 "told_rows" 1 F_told_rows := kn_m (k := 1) (x := "told_rows") (qual := "told_rows") (st := s_told_rows) (mg := mg) T FF_told_rows (glo_of KX G c 3 rfl) sc_told_rows rfl (fun _ _ _ _ _ _ us hl => match us, hl with | [_], _ => rfl) ck_told_rows ⟨k_first_one.at (by decide), k_sum_of.at (by decide), k_first_one.at (by decide), k_sum_of.at (by decide), trivial⟩
  have k_sum_of_rows : Kn PySem.Challenge.pw_signedframes_k70_rows_with_told_marks w K mg base 2 "sum_of_rows" 2 F_sum_of_rows := kn_m (k := 1) (x := "sum_of_rows") (qual := "sum_of_rows") (st := s_sum_of_rows) (mg := mg) T FF_sum_of_rows (glo_of KX G c 4 rfl) sc_sum_of_rows rfl (fun _ _ _ _ _ _ us hl => match us, hl with | [_, _], _ => rfl) ck_sum_of_rows ⟨k_sum_of.at (by decide), trivial⟩
  have k_free_base : Kn PySem.Challenge.pw_signedframes_k70_rows_with_told_marks w K mg base 3 "free_base" 1 F_free_base := kn_m (k := 2) (x := "free_base") (qual := "free_base") (st := s_free_base) (mg := mg) T FF_free_base (glo_of KX G c 5 rfl) sc_free_base rfl (fun _ _ _ _ _ _ us hl => match us, hl with | [_], _ => rfl) ck_free_base ⟨k_told_rows.at (by decide), k_first_one.at (by decide), trivial⟩
  have k_has_row : Kn PySem.Challenge.pw_signedframes_k70_rows_with_told_marks w K mg base 4 "has_row" 2 F_has_row := kn_m (k := 3) (x := "has_row") (qual := "has_row") (st := s_has_row) (mg := mg) T FF_has_row (glo_of KX G c 6 rfl) sc_has_row rfl (fun _ _ _ _ _ _ us hl => match us, hl with | [_, _], _ => rfl) ck_has_row ⟨k_free_base.at (by decide), k_are_even.at (by decide), trivial⟩
  have k_reduced : Kn PySem.Challenge.pw_signedframes_k70_rows_with_told_marks w K mg base 2 "reduced" 2 F_reduced := kn_m (k := 1) (x := "reduced") (qual := "reduced") (st := s_reduced) (mg := mg) T FF_reduced (glo_of KX G c 8 rfl) sc_reduced rfl (fun _ _ _ _ _ _ us hl => match us, hl with | [_, _], _ => rfl) ck_reduced ⟨k_first_one.at (by decide), k_sum_of.at (by decide), trivial⟩
  have k_lot_that_makes : Kn PySem.Challenge.pw_signedframes_k70_rows_with_told_marks w K mg base 3 "lot_that_makes" 2 F_lot_that_makes := kn_m (k := 2) (x := "lot_that_makes") (qual := "lot_that_makes") (st := s_lot_that_makes) (mg := mg) T FF_lot_that_makes (glo_of KX G c 7 rfl) sc_lot_that_makes rfl (fun _ _ _ _ _ _ us hl => match us, hl with | [_, _], _ => rfl) ck_lot_that_makes ⟨k_reduced.at (by decide), k_reduced.at (by decide), trivial⟩
  have k_is_integer : Kn PySem.Challenge.pw_signedframes_k70_rows_with_told_marks w K mg base 1 "is_integer" 1 F_is_integer := kn_m (k := 0) (x := "is_integer") (qual := "is_integer") (st := s_is_integer) (mg := mg) T FF_is_integer (glo_of KX G c 9 rfl) sc_is_integer rfl (fun _ _ _ _ _ _ us hl => match us, hl with | [_], _ => rfl) ck_is_integer trivial
  have k_is_row : Kn PySem.Challenge.pw_signedframes_k70_rows_with_told_marks w K mg base 2 "is_row" 2 F_is_row := kn_m (k := 1) (x := "is_row") (qual := "is_row") (st := s_is_row) (mg := mg) T FF_is_row (glo_of KX G c 10 rfl) sc_is_row rfl (fun _ _ _ _ _ _ us hl => match us, hl with | [_, _], _ => rfl) ck_is_row ⟨k_is_integer.at (by decide), trivial⟩
  have k_is_worded : Kn PySem.Challenge.pw_signedframes_k70_rows_with_told_marks w K mg base 1 "is_worded" 2 F_is_worded := kn_m (k := 0) (x := "is_worded") (qual := "is_worded") (st := s_is_worded) (mg := mg) T FF_is_worded (glo_of KX G c 11 rfl) sc_is_worded rfl (fun _ _ _ _ _ _ us hl => match us, hl with | [_, _], _ => rfl) ck_is_worded trivial
  have k_first_odd : Kn PySem.Challenge.pw_signedframes_k70_rows_with_told_marks w K mg base 2 "first_odd" 2 F_first_odd := kn_m (k := 1) (x := "first_odd") (qual := "first_odd") (st := s_first_odd) (mg := mg) T FF_first_odd (glo_of KX G c 12 rfl) sc_first_odd rfl (fun _ _ _ _ _ _ us hl => match us, hl with | [_, _], _ => rfl) ck_first_odd ⟨k_are_even.at (by decide), trivial⟩
  have k_marks_at : Kn PySem.Challenge.pw_signedframes_k70_rows_with_told_marks w K mg base 1 "marks_at" 2 F_marks_at := kn_m (k := 0) (x := "marks_at") (qual := "marks_at") (st := s_marks_at) (mg := mg) T FF_marks_at (glo_of KX G c 13 rfl) sc_marks_at rfl (fun _ _ _ _ _ _ us hl => match us, hl with | [_, _], _ => rfl) ck_marks_at trivial
  have k_seen_at : Kn PySem.Challenge.pw_signedframes_k70_rows_with_told_marks w K mg base 3 "seen_at" 2 F_seen_at := kn_m (k := 2) (x := "seen_at") (qual := "seen_at") (st := s_seen_at) (mg := mg) T FF_seen_at (glo_of KX G c 14 rfl) sc_seen_at rfl (fun _ _ _ _ _ _ us hl => match us, hl with | [_, _], _ => rfl) ck_seen_at ⟨k_told_rows.at (by decide), k_marks_at.at (by decide), trivial⟩
  have k_rank_at : Kn PySem.Challenge.pw_signedframes_k70_rows_with_told_marks w K mg base 4 "rank_at" 2 F_rank_at := kn_m (k := 3) (x := "rank_at") (qual := "rank_at") (st := s_rank_at) (mg := mg) T FF_rank_at (glo_of KX G c 15 rfl) sc_rank_at rfl (fun _ _ _ _ _ _ us hl => match us, hl with | [_, _], _ => rfl) ck_rank_at ⟨k_seen_at.at (by decide), trivial⟩
  have k_marks_paper : Kn PySem.Challenge.pw_signedframes_k70_rows_with_told_marks w K mg base 4 "marks_paper" 3 F_marks_paper := kn_m (k := 3) (x := "marks_paper") (qual := "marks_paper") (st := s_marks_paper) (mg := mg) T FF_marks_paper (glo_of KX G c 16 rfl) sc_marks_paper rfl (fun _ _ _ _ _ _ us hl => match us, hl with | [_, _, _], _ => rfl) ck_marks_paper ⟨k_lot_that_makes.at (by decide), k_marks_at.at (by decide), k_sum_of_rows.at (by decide), k_free_base.at (by decide), k_seen_at.at (by decide), k_are_even.at (by decide), trivial⟩
  have k_judge_marks : Kn PySem.Challenge.pw_signedframes_k70_rows_with_told_marks w K mg base 5 "judge_marks" 4 F_judge_marks := kn_m (k := 4) (x := "judge_marks") (qual := "judge_marks") (st := s_judge_marks) (mg := mg) T FF_judge_marks (glo_of KX G c 17 rfl) sc_judge_marks rfl (fun _ _ _ _ _ _ us hl => match us, hl with | [_, _, _, _], _ => rfl) ck_judge_marks ⟨k_is_worded.at (by decide), k_is_row.at (by decide), k_has_row.at (by decide), k_first_odd.at (by decide), k_are_even.at (by decide), k_marks_at.at (by decide), trivial⟩
  have k_marks_count : Kn PySem.Challenge.pw_signedframes_k70_rows_with_told_marks w K mg base 5 "marks_count" 3 F_marks_count := kn_m (k := 4) (x := "marks_count") (qual := "marks_count") (st := s_marks_count) (mg := mg) T FF_marks_count (glo_of KX G c 18 rfl) sc_marks_count rfl (fun _ _ _ _ _ _ us hl => match us, hl with | [_, _, _], _ => rfl) ck_marks_count ⟨k_marks_paper.at (by decide), k_rank_at.at (by decide), trivial⟩
  have k__law_pick : Kn PySem.Challenge.pw_signedframes_k70_rows_with_told_marks w K mg base 1 "_law_pick" 2 F__law_pick := kn_m (k := 0) (x := "_law_pick") (qual := "_law_pick") (st := s__law_pick) (mg := mg) T FF__law_pick (glo_of KX G c 20 rfl) sc__law_pick rfl (fun _ _ _ _ _ _ us hl => match us, hl with | [_, _], _ => rfl) ck__law_pick trivial
  have k__law_of : Kn PySem.Challenge.pw_signedframes_k70_rows_with_told_marks w K mg base 2 "_law_of" 2 F__law_of := kn_m (k := 1) (x := "_law_of") (qual := "_law_of") (st := s__law_of) (mg := mg) T FF__law_of (glo_of KX G c 21 rfl) sc__law_of rfl (fun _ _ _ _ _ _ us hl => match us, hl with | [_, _], _ => rfl) ck__law_of ⟨k__law_pick.at (by decide), trivial⟩
  have k__law_mixed : Kn PySem.Challenge.pw_signedframes_k70_rows_with_told_marks w K mg base 2 "_law_mixed" 2 F__law_mixed := kn_m (k := 1) (x := "_law_mixed") (qual := "_law_mixed") (st := s__law_mixed) (mg := mg) T FF__law_mixed (glo_of KX G c 22 rfl) sc__law_mixed rfl (fun _ _ _ _ _ _ us hl => match us, hl with | [_, _], _ => rfl) ck__law_mixed ⟨k__law_pick.at (by decide), trivial⟩
  have k__law_sum : Kn PySem.Challenge.pw_signedframes_k70_rows_with_told_marks w K mg base 1 "_law_sum" 2 F__law_sum := kn_m (k := 0) (x := "_law_sum") (qual := "_law_sum") (st := s__law_sum) (mg := mg) T FF__law_sum (glo_of KX G c 23 rfl) sc__law_sum rfl (fun _ _ _ _ _ _ us hl => match us, hl with | [_, _], _ => rfl) ck__law_sum trivial
  have k__law_told : Kn PySem.Challenge.pw_signedframes_k70_rows_with_told_marks w K mg base 2 "_law_told" 2 F__law_told := kn_m (k := 1) (x := "_law_told") (qual := "_law_told") (st := s__law_told) (mg := mg) T FF__law_told (glo_of KX G c 24 rfl) sc__law_told rfl (fun _ _ _ _ _ _ us hl => match us, hl with | [_, _], _ => rfl) ck__law_told ⟨k__law_sum.at (by decide), k__law_sum.at (by decide), trivial⟩
  have k__law_row : Kn PySem.Challenge.pw_signedframes_k70_rows_with_told_marks w K mg base 3 "_law_row" 2 F__law_row := kn_m (k := 2) (x := "_law_row") (qual := "_law_row") (st := s__law_row) (mg := mg) T FF__law_row (glo_of KX G c 25 rfl) sc__law_row rfl (fun _ _ _ _ _ _ us hl => match us, hl with | [_, _], _ => rfl) ck__law_row ⟨k__law_of.at (by decide), k__law_pick.at (by decide), trivial⟩
  have k__law_base : Kn PySem.Challenge.pw_signedframes_k70_rows_with_told_marks w K mg base 4 "_law_base" 3 F__law_base := kn_m (k := 3) (x := "_law_base") (qual := "_law_base") (st := s__law_base) (mg := mg) T FF__law_base (glo_of KX G c 26 rfl) sc__law_base rfl (fun _ _ _ _ _ _ us hl => match us, hl with | [_, _, _], _ => rfl) ck__law_base ⟨k__law_row.at (by decide), k__law_told.at (by decide), k__law_mixed.at (by decide), k__law_told.at (by decide), k__law_pick.at (by decide), k__law_told.at (by decide), k__law_mixed.at (by decide), trivial⟩
  have k__law_code : Kn PySem.Challenge.pw_signedframes_k70_rows_with_told_marks w K mg base 5 "_law_code" 2 F__law_code := kn_m (k := 4) (x := "_law_code") (qual := "_law_code") (st := s__law_code) (mg := mg) T FF__law_code (glo_of KX G c 27 rfl) sc__law_code rfl (fun _ _ _ _ _ _ us hl => match us, hl with | [_, _], _ => rfl) ck__law_code ⟨k__law_pick.at (by decide), k__law_base.at (by decide), k__law_of.at (by decide), k__law_pick.at (by decide), k__law_pick.at (by decide), trivial⟩
  have k__law_some_row : Kn PySem.Challenge.pw_signedframes_k70_rows_with_told_marks w K mg base 2 "_law_some_row" 2 F__law_some_row := kn_m (k := 1) (x := "_law_some_row") (qual := "_law_some_row") (st := s__law_some_row) (mg := mg) T FF__law_some_row (glo_of KX G c 28 rfl) sc__law_some_row rfl (fun _ _ _ _ _ _ us hl => match us, hl with | [_, _], _ => rfl) ck__law_some_row ⟨k__law_pick.at (by decide), k__law_sum.at (by decide), trivial⟩
  have k__law_is_odd : Kn PySem.Challenge.pw_signedframes_k70_rows_with_told_marks w K mg base 1 "_law_is_odd" 2 F__law_is_odd := kn_m (k := 0) (x := "_law_is_odd") (qual := "_law_is_odd") (st := s__law_is_odd) (mg := mg) T FF__law_is_odd (glo_of KX G c 29 rfl) sc__law_is_odd rfl (fun _ _ _ _ _ _ us hl => match us, hl with | [_, _], _ => rfl) ck__law_is_odd trivial
  have k__law_leading : Kn PySem.Challenge.pw_signedframes_k70_rows_with_told_marks w K mg base 1 "_law_leading" 1 F__law_leading := kn_m (k := 0) (x := "_law_leading") (qual := "_law_leading") (st := s__law_leading) (mg := mg) T FF__law_leading (glo_of KX G c 30 rfl) sc__law_leading rfl (fun _ _ _ _ _ _ us hl => match us, hl with | [_], _ => rfl) ck__law_leading trivial
  have k__law_free : Kn PySem.Challenge.pw_signedframes_k70_rows_with_told_marks w K mg base 3 "_law_free" 2 F__law_free := kn_m (k := 2) (x := "_law_free") (qual := "_law_free") (st := s__law_free) (mg := mg) T FF__law_free (glo_of KX G c 31 rfl) sc__law_free rfl (fun _ _ _ _ _ _ us hl => match us, hl with | [_, _], _ => rfl) ck__law_free ⟨k__law_told.at (by decide), k__law_leading.at (by decide), trivial⟩
  have k__law_other : Kn PySem.Challenge.pw_signedframes_k70_rows_with_told_marks w K mg base 4 "_law_other" 1 F__law_other := kn_m (k := 3) (x := "_law_other") (qual := "_law_other") (st := s__law_other) (mg := mg) T FF__law_other (glo_of KX G c 32 rfl) sc__law_other rfl (fun _ _ _ _ _ _ us hl => match us, hl with | [_], _ => rfl) ck__law_other ⟨k__law_told.at (by decide), k__law_free.at (by decide), trivial⟩
  have k__law_has : Kn PySem.Challenge.pw_signedframes_k70_rows_with_told_marks w K mg base 3 "_law_has" 2 F__law_has := kn_m (k := 2) (x := "_law_has") (qual := "_law_has") (st := s__law_has) (mg := mg) T FF__law_has (glo_of KX G c 33 rfl) sc__law_has rfl (fun _ _ _ _ _ _ us hl => match us, hl with | [_, _], _ => rfl) ck__law_has ⟨k__law_told.at (by decide), trivial⟩
  have k__law_number : Kn PySem.Challenge.pw_signedframes_k70_rows_with_told_marks w K mg base 1 "_law_number" 1 F__law_number := kn_m (k := 0) (x := "_law_number") (qual := "_law_number") (st := s__law_number) (mg := mg) T FF__law_number (glo_of KX G c 34 rfl) sc__law_number rfl (fun _ _ _ _ _ _ us hl => match us, hl with | [_], _ => rfl) ck__law_number trivial
  have k__law_are_below : Kn PySem.Challenge.pw_signedframes_k70_rows_with_told_marks w K mg base 2 "_law_are_below" 2 F__law_are_below := kn_m (k := 1) (x := "_law_are_below") (qual := "_law_are_below") (st := s__law_are_below) (mg := mg) T FF__law_are_below (glo_of KX G c 35 rfl) sc__law_are_below rfl (fun _ _ _ _ _ _ us hl => match us, hl with | [_, _], _ => rfl) ck__law_are_below ⟨k__law_number.at (by decide), trivial⟩
  have k__law_is_row : Kn PySem.Challenge.pw_signedframes_k70_rows_with_told_marks w K mg base 3 "_law_is_row" 2 F__law_is_row := kn_m (k := 2) (x := "_law_is_row") (qual := "_law_is_row") (st := s__law_is_row) (mg := mg) T FF__law_is_row (glo_of KX G c 36 rfl) sc__law_is_row rfl (fun _ _ _ _ _ _ us hl => match us, hl with | [_, _], _ => rfl) ck__law_is_row ⟨k__law_are_below.at (by decide), trivial⟩
  have k__law_bent : Kn PySem.Challenge.pw_signedframes_k70_rows_with_told_marks w K mg base 14 "_law_bent" 2 F__law_bent := kn_rec (k := 2) (x := "_law_bent") (qual := "_law_bent") (st := s__law_bent) (mg := mg) (R := R__law_bent) (m := m__law_bent) rfl (fun _ => rfl) T FF__law_bent (glo_of KX G c 37 rfl) sc__law_bent rfl (fun _ _ _ _ _ _ us hl => match us, hl with | [_, _], _ => rfl) ck__law_bent (fun j φ hj h => ⟨k__law_pick.at (Nat.le_trans (by decide) hj), k__law_of.at (Nat.le_trans (by decide) hj), k__law_of.at (Nat.le_trans (by decide) hj), k__law_pick.at (Nat.le_trans (by decide) hj), k__law_pick.at (Nat.le_trans (by decide) hj), k__law_number.at (Nat.le_trans (by decide) hj), k__law_of.at (Nat.le_trans (by decide) hj), h, trivial⟩) 12
  have k__law_places : Kn PySem.Challenge.pw_signedframes_k70_rows_with_told_marks w K mg base 2 "_law_places" 2 F__law_places := kn_m (k := 1) (x := "_law_places") (qual := "_law_places") (st := s__law_places) (mg := mg) T FF__law_places (glo_of KX G c 38 rfl) sc__law_places rfl (fun _ _ _ _ _ _ us hl => match us, hl with | [_, _], _ => rfl) ck__law_places ⟨k__law_pick.at (by decide), k__law_pick.at (by decide), trivial⟩
  have k__law_at : Kn PySem.Challenge.pw_signedframes_k70_rows_with_told_marks w K mg base 1 "_law_at" 2 F__law_at := kn_m (k := 0) (x := "_law_at") (qual := "_law_at") (st := s__law_at) (mg := mg) T FF__law_at (glo_of KX G c 39 rfl) sc__law_at rfl (fun _ _ _ _ _ _ us hl => match us, hl with | [_, _], _ => rfl) ck__law_at trivial
  have k__law_seen : Kn PySem.Challenge.pw_signedframes_k70_rows_with_told_marks w K mg base 3 "_law_seen" 2 F__law_seen := kn_m (k := 2) (x := "_law_seen") (qual := "_law_seen") (st := s__law_seen) (mg := mg) T FF__law_seen (glo_of KX G c 40 rfl) sc__law_seen rfl (fun _ _ _ _ _ _ us hl => match us, hl with | [_, _], _ => rfl) ck__law_seen ⟨k__law_told.at (by decide), k__law_at.at (by decide), trivial⟩
  have k__law_fault : Kn PySem.Challenge.pw_signedframes_k70_rows_with_told_marks w K mg base 4 "_law_fault" 4 F__law_fault := kn_m (k := 3) (x := "_law_fault") (qual := "_law_fault") (st := s__law_fault) (mg := mg) T FF__law_fault (glo_of KX G c 41 rfl) sc__law_fault rfl (fun _ _ _ _ _ _ us hl => match us, hl with | [_, _, _, _], _ => rfl) ck__law_fault ⟨k__law_is_row.at (by decide), k__law_has.at (by decide), k__law_is_odd.at (by decide), trivial⟩
  exact fn_law (k := 14) (x := "law") (qual := "law") (st := s_law) T FF_law sc_law k__law_source (by decide) (glo_of KX G c 19 rfl) FF__law_source.kp (FF__law_source.bindsN (fun _ _ _ _ _ _ us hl => match us, hl with | [_], _ => rfl)) ck_law (nd_Ss _ ⟨k__law_code.at (by decide), k__law_some_row.at (by decide), k__law_pick.at (by decide), k__law_places.at (by decide), k__law_at.at (by decide), k__law_pick.at (by decide), k__law_row.at (by decide), k__law_seen.at (by decide), k__law_has.at (by decide), k_marks_paper.at (by decide), k__law_fault.at (by decide), k_marks_count.at (by decide), k_marks_paper.at (by decide), k__law_some_row.at (by decide), k__law_other.at (by decide), k__law_row.at (by decide), k__law_row.at (by decide), k__law_bent.at (by decide), k__law_of.at (by decide), k__law_bent.at (by decide), k__law_bent.at (by decide), k_judge_marks.at (by decide), k__law_fault.at (by decide), k_marks_count.at (by decide), k_marks_count.at (by decide), k_judge_marks.at (by decide), trivial⟩) law_true
end K70
open PySem PySem.W PySem.Calls PyProof.Rows
set_option maxHeartbeats 0 in
theorem PySem.Challenge.cw_signedframes_k70_rows_with_told_marks_holds : PySem.Challenge.rw_signedframes_k70_rows_with_told_marks.Holds := by
  w_on; o_law
  refine HandSHeadRun.head_any (r := OpenLaw.row PySem.Challenge.rw_signedframes_k70_rows_with_told_marks) (q := view (OpenLaw.row PySem.Challenge.rw_signedframes_k70_rows_with_told_marks).prog [47]) (H := K70.hk) (ob := K70.ob) (M := 2000) (loose := K70.ls) (d := HandSHeadRun.topDef (OpenLaw.row PySem.Challenge.rw_signedframes_k70_rows_with_told_marks).prog 47) (kwd := []) K70.ob_eq
    (by kernel_rfl) (fun s => by kernel_rfl) K70.run (by kernel_rfl) (by kernel_rfl) (by kernel_rfl) (by rfl) (by first | assumption | decide +kernel) (by decide +kernel) ⟨rfl, rfl, rfl, rfl, rfl, by decide +kernel⟩ ?hw ?hc
  case hw => w_witness2
  case hc =>
    refine Mi.walkG (l := PySem.Challenge.rw_signedframes_k70_rows_with_told_marks) (k := 15) (x := "script") rfl (by kernel_rfl) ⟨rfl, by decide, by decide⟩ ?F
    intro w mg f h K KX c G hmg0
    have hmg : mg ("law" : PySem.Str) = some (.ref f) := by
      have e : (HandSHeadRun.topDef (OpenLaw.row PySem.Challenge.rw_signedframes_k70_rows_with_told_marks).prog 47).name = ("law" : PySem.Str) := by kernel_rfl
      rw [← e]
      exact hmg0
    exact K70.facts KX c G hmg
